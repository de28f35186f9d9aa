/- ShamirOnes: for any shares and place whose data stay within 1,048,576: the weights add up to 1, and with each share they are the secret. -/
import Derived.Test.YtogcijgklnfjjaaShamirOnesUptoSaidT5
import Derived.WalkKit
import Derived.ProofKit
import Derived.JoinedCond
set_option linter.unusedVariables false
set_option linter.unusedSimpArgs false

namespace Go.Proofs.Ytogcijgklnfjjaa
open Go Go.Eng
set_option maxRecDepth 100000

def elC : Nat := 7237005577332262213973186563042994240857116359379907606001950938285454250989
theorem ell_elC : ell = elC := ell_def
def sC (v : Nat) : List Int := nats (digs 256 32 v)
theorem sN_sC (v : Nat) : sN v = sC v := sN_def v
def vC (x : List Int) : Nat := numB x % elC
theorem vS_vC (x : List Int) : vS x = vC x := by rw [vS_def, ell_elC]; rfl
def pwC : Nat → Nat → Nat → Nat
  | 0, _, _ => 1
  | n + 1, b, e => bif Nat.beq (e % 2) 1 then b * pwC n (b * b % elC) (e / 2) % elC else pwC n (b * b % elC) (e / 2)
theorem pwC_eq : ∀ (n b e : Nat), e < 2 ^ n → pwC n b e % elC = b ^ e % elC
  | 0, b, e, h => by
    have : e = 0 := by simp at h; exact h
    subst this; rfl
  | n + 1, b, e, h => by
    have ih := pwC_eq n (b * b % elC) (e / 2) (by rw [Nat.pow_succ] at h; omega)
    have e1 : (b * b % elC) ^ (e / 2) % elC = b ^ (2 * (e / 2)) % elC := by
      rw [← Nat.pow_mod, ← Nat.pow_two, ← Nat.pow_mul]
    unfold pwC
    have h2 := Nat.mod_two_eq_zero_or_one e
    cases hb : Nat.beq (e % 2) 1 with
    | true =>
      have h3 := Nat.eq_of_beq_eq_true hb
      rw [cond_true, Nat.mod_mod, Nat.mul_mod, ih, e1, ← Nat.mul_mod]
      have : e = 2 * (e / 2) + 1 := by omega
      rw [show b * b ^ (2 * (e / 2)) = b ^ (2 * (e / 2) + 1) by rw [Nat.pow_succ, Nat.mul_comm], ← this]
    | false =>
      have h3 : e % 2 ≠ 1 := fun q => by rw [q] at hb; cases hb
      rw [cond_false, ih, e1]
      have : e = 2 * (e / 2) := by omega
      rw [← this]
def inC (a : Nat) : Nat := pwC 256 a 7237005577332262213973186563042994240857116359379907606001950938285454250987 % elC
theorem invN_inC (a : Nat) : invN a = inC a := by
  rw [invN_def, powN_def, ell_elC]
  exact (pwC_eq 256 a _ (by decide +kernel)).symm

def adC (a b : Nat) : Nat := (a + b) % elC
def ngC (a : Nat) : Nat := (elC - a) % elC
def mlC (a b : Nat) : Nat := a * b % elC
theorem addN_adC (a b : Nat) : addN a b = adC a b := by rw [addN_def, ell_elC]; rfl
theorem negN_ngC (a : Nat) : negN a = ngC a := by rw [negN_def, ell_elC]; rfl
theorem mulN_mlC (a b : Nat) : mulN a b = mlC a b := by rw [mulN_def, ell_elC]; rfl
theorem difN_C (a b : Nat) : difN a b = adC a (ngC b) := by unfold difN; rw [addN_adC, negN_ngC]

def C30 : (R : Type) → List DV → (List DV → Option R) → Option R := fun _ ds k => match ds with
  | [.v (.one (.ints .u8 32 x)), .v (.one (.ints .u8 32 y))] => bif okB x && okB y then k [.v (.one (.ints .u8 32 (sC (adC (vC x) (vC y)))))] else none
  | _ => none
def C32 : (R : Type) → List DV → (List DV → Option R) → Option R := fun _ ds k => match ds with
  | [.v (.one (.ints .u8 32 x)), .v (.one (.ints .u8 32 y))] => bif okB x && okB y then k [.v (.one (.ints .u8 32 (sC (adC (vC x) (ngC (vC y))))))] else none
  | _ => none
def C33 : (R : Type) → List DV → (List DV → Option R) → Option R := fun _ ds k => match ds with
  | [.v (.one (.ints .u8 32 x)), .v (.one (.ints .u8 32 y))] => bif okB x && okB y then k [.v (.one (.ints .u8 32 (sC (mlC (vC x) (vC y)))))] else none
  | _ => none
def C42 : (R : Type) → List DV → (List DV → Option R) → Option R := fun _ ds k => match ds with
  | [.v (.one (.ints .u8 32 x)), .v (.one (.ints .u8 32 y)), .v (.one (.ints .u8 32 z))] => bif okB x && okB y && okB z then k [.v (.one (.ints .u8 32 (sC (adC (mlC (vC x) (vC y)) (vC z)))))] else none
  | _ => none
def C71 : (R : Type) → List DV → (List DV → Option R) → Option R := fun _ ds k => match ds with
  | [.v (.one (.ints .u8 32 x))] => bif okB x then k [.v (.one (.ints .u8 32 (sC (ngC (vC x)))))] else none
  | _ => none
def C88 : (R : Type) → List DV → (List DV → Option R) → Option R := fun _ ds k => match ds with
  | [.v (.one (.ints .u8 32 x))] => bif okB x then k [.v (.one (.bool (Nat.beq (vC x) 0)))] else none
  | _ => none
def C31 : (R : Type) → List DV → (List DV → Option R) → Option R := fun _ ds k => match ds with
  | [.v (.one (.ints .u8 32 x))] => bif okB x then (bif Nat.beq (vC x) 0 then k [.v (.one (.ints .u8 32 (List.replicate 32 0))), .v (.one (.int .i64 9))] else k [.v (.one (.ints .u8 32 (sC (inC (vC x))))), .v (.one (.int .i64 0))]) else none
  | _ => none
def C40 : (R : Type) → List DV → (List DV → Option R) → Option R := fun _ ds k => match ds with
  | [.v (.one (.int .i64 x))] => k [.v (.one (.ints .u8 32 (sC (IntKind.u64.wrap x).toNat)))]
  | _ => none

theorem beq_dec (a : Nat) : Nat.beq a 0 = decide (a = 0) := by cases a <;> rfl
theorem cC30 : Contract Try.prog 30 { sig := S30, impl := C30 } := by
  refine Contract.refine fun R ds k r h => ⟨_, c30, ?_⟩
  unfold C30 at h
  unfold I30
  split at h
  · simp only [sN_sC, addN_adC, vS_vC]; exact h
  · cases h
theorem cC32 : Contract Try.prog 32 { sig := S32, impl := C32 } := by
  refine Contract.refine fun R ds k r h => ⟨_, c32, ?_⟩
  unfold C32 at h
  unfold I32
  split at h
  · simp only [sN_sC, difN_C, vS_vC]; exact h
  · cases h
theorem cC33 : Contract Try.prog 33 { sig := S33, impl := C33 } := by
  refine Contract.refine fun R ds k r h => ⟨_, c33, ?_⟩
  unfold C33 at h
  unfold I33
  split at h
  · simp only [sN_sC, mulN_mlC, vS_vC]; exact h
  · cases h
theorem cC42 : Contract Try.prog 42 { sig := S42, impl := C42 } := by
  refine Contract.refine fun R ds k r h => ⟨_, c42, ?_⟩
  unfold C42 at h
  unfold I42
  split at h
  · simp only [sN_sC, mulN_mlC, addN_adC, vS_vC]; exact h
  · cases h
theorem cC71 : Contract Try.prog 71 { sig := S71, impl := C71 } := by
  refine Contract.refine fun R ds k r h => ⟨_, c71, ?_⟩
  unfold C71 at h
  unfold I71
  split at h
  · simp only [sN_sC, negN_ngC, vS_vC]; exact h
  · cases h
theorem cC88 : Contract Try.prog 88 { sig := S88, impl := C88 } := by
  refine Contract.refine fun R ds k r h => ⟨_, c88, ?_⟩
  unfold C88 at h
  unfold I88
  split at h
  · simp only [vS_vC, ← beq_dec]; exact h
  · cases h
theorem cC31 : Contract Try.prog 31 { sig := S31, impl := C31 } := by
  refine Contract.refine fun R ds k r h => ⟨_, c31, ?_⟩
  unfold C31 at h
  unfold I31
  split at h
  · simp only [sN_sC, invN_inC, vS_vC, ← beq_dec]; exact h
  · cases h
theorem cC40 : Contract Try.prog 40 { sig := S40, impl := C40 } := by
  refine Contract.refine fun R ds k r h => ⟨_, c40, ?_⟩
  unfold C40 at h
  unfold I40
  split at h
  · simp only [sN_sC, plN]; exact h
  · cases h

def hzC (x : List Int) : Nat → Nat → Bool
  | 0, _ => false
  | j + 1, i => bif Nat.beq (vC (elF x i)) 0 then true else hzC x j (i + 1)
theorem hzC_eq (x : List Int) : ∀ j i, (fz x j i).isSome = hzC x j i
  | 0, _ => rfl
  | j + 1, i => by
    unfold fz hzC
    rw [vS_vC, beq_dec]
    by_cases h : vC (elF x i) = 0
    · rw [if_pos h, decide_eq_true h]; rfl
    · rw [if_neg h, decide_eq_false h]; exact hzC_eq x j (i + 1)
def C77 : (R : Type) → List DV → (List DV → Option R) → Option R := fun _ ds k => match ds with
  | [.lst (.one .u8) 32 x] => bif okF x && !(hzC x (x.length / 32) 0) then k [.lst (.one .u8) 32 (headG (fun i => sC (inC (vC (elF x i)))) (x.length / 32)), .v (.one (.int .i64 0)), .v (.one (.int .i64 0))] else none
  | _ => none
theorem cC77 : Contract Try.prog 77 { sig := S77, impl := C77 } := by
  refine Contract.refine fun R ds k r h => ⟨_, c77b, ?_⟩
  unfold C77 at h
  unfold I77b
  split at h
  · rename_i x
    cases hc : okF x && !(hzC x (x.length / 32) 0) with
    | false => rw [hc] at h; cases h
    | true =>
      rw [hc, cond_true] at h
      rw [Bool.and_eq_true, Bool.not_eq_true'] at hc
      have e : hasZ x = false := by unfold hasZ; rw [hzC_eq]; exact hc.2
      have e2 : invS x = headG (fun i => sC (inC (vC (elF x i)))) (x.length / 32) := by
        unfold invS; simp only [sN_sC, invN_inC, vS_vC]
      show (bif okF x then (bif hasZ x then _ else _) else none) = some r
      rw [hc.1, e, e2]; exact h
  · cases h
def dtC (x y : List Int) : Nat → Nat
  | 0 => 0
  | i + 1 => adC (dtC x y i) (mlC (vC (elF x i)) (vC (elF y i)))
theorem dotF_dtC (x y : List Int) : ∀ i, dotF x y i = dtC x y i
  | 0 => rfl
  | i + 1 => by unfold dotF dtC; rw [addN_adC, mulN_mlC, vS_vC, vS_vC, dotF_dtC x y i]
def C76 : (R : Type) → List DV → (List DV → Option R) → Option R := fun _ ds k => match ds with
  | [.lst (.one .u8) 32 x, .lst (.one .u8) 32 y] => bif okF x && okF y then (bif Nat.beq (x.length / 32) (y.length / 32) then k [.v (.one (.ints .u8 32 (sC (dtC x y (x.length / 32))))), .v (.one (.int .i64 0))] else none) else none
  | _ => none
theorem cC76 : Contract Try.prog 76 { sig := S76, impl := C76 } := by
  refine Contract.refine fun R ds k r h => ⟨_, c76, ?_⟩
  unfold C76 at h
  unfold I76
  split at h
  · rename_i x y
    cases hc : okF x && okF y with
    | false => rw [hc] at h; cases h
    | true =>
      rw [hc, cond_true] at h
      cases he : Nat.beq (x.length / 32) (y.length / 32) with
      | false => rw [he] at h; cases h
      | true =>
        rw [he, cond_true] at h
        simp only [hc, he, cond_true, dotF_dtC, sN_sC]; exact h
  · cases h
def GC : Ctx := [(76, { sig := S76, impl := C76 }), (77, { sig := S77, impl := C77 }), (30, { sig := S30, impl := C30 }), (31, { sig := S31, impl := C31 }), (32, { sig := S32, impl := C32 }), (33, { sig := S33, impl := C33 }), (40, { sig := S40, impl := C40 }), (42, { sig := S42, impl := C42 }), (71, { sig := S71, impl := C71 }), (88, { sig := S88, impl := C88 })]
theorem GC_ok : CtxOk Try.prog GC := ctxOk_cons ok76 rfl cC76 (ctxOk_cons ok77 rfl cC77 (ctxOk_cons ok30 rfl cC30 (ctxOk_cons ok31 rfl cC31 (ctxOk_cons ok32 rfl cC32 (ctxOk_cons ok33 rfl cC33 (ctxOk_cons ok40 rfl cC40 (ctxOk_cons ok42 rfl cC42 (ctxOk_cons ok71 rfl cC71 (ctxOk_cons ok88 rfl cC88 ctxOk_nil)))))))))
end Go.Proofs.Ytogcijgklnfjjaa

namespace Go.Proofs.Ytogcijgklnfjjaa
open Go Go.Eng
set_option maxRecDepth 100000

noncomputable def AE12 : Env := { Θ := Th, Γ := GC, K := K12, ν := [], fuel := 64, lp := [] }
theorem al12 : Contract Try.prog 12 { sig := S12, impl := fun _ ds k => call AE12 S12 4 B12 R12 ds k } :=
  call_contract (E := AE12) thOk GC_ok mixed ok12.look ok12.body ok12.n ok12.rv ok12.name rfl (by decide) (loopsOk_of (l := []) (by kernel_rfl) trivial)
noncomputable def GA12 : Ctx := (12, { sig := S12, impl := fun _ ds k => call AE12 S12 4 B12 R12 ds k }) :: GC
theorem GA12_ok : CtxOk Try.prog GA12 := ctxOk_cons ok12 rfl al12 GC_ok

noncomputable def AE43 : Env := { Θ := Th, Γ := GA12, K := K43, ν := [], fuel := 64, lp := [] }
theorem al43 : Contract Try.prog 43 { sig := S43, impl := fun _ ds k => call AE43 S43 9 B43 R43 ds k } :=
  call_contract (E := AE43) thOk GA12_ok mixed ok43.look ok43.body ok43.n ok43.rv ok43.name rfl (by decide) (loopsOk_of (l := []) (by kernel_rfl) trivial)
noncomputable def GA43 : Ctx := (43, { sig := S43, impl := fun _ ds k => call AE43 S43 9 B43 R43 ds k }) :: GA12
theorem GA43_ok : CtxOk Try.prog GA43 := ctxOk_cons ok43 rfl al43 GA12_ok

noncomputable def AE70 : Env := { Θ := Th, Γ := GA43, K := K70, ν := [], fuel := 64, lp := [] }
theorem al70 : Contract Try.prog 70 { sig := S70, impl := fun _ ds k => call AE70 S70 9 B70 R70 ds k } :=
  call_contract (E := AE70) thOk GA43_ok mixed ok70.look ok70.body ok70.n ok70.rv ok70.name rfl (by decide) (loopsOk_of (l := []) (by kernel_rfl) trivial)
noncomputable def GA70 : Ctx := (70, { sig := S70, impl := fun _ ds k => call AE70 S70 9 B70 R70 ds k }) :: GA43
theorem GA70_ok : CtxOk Try.prog GA70 := ctxOk_cons ok70 rfl al70 GA43_ok

noncomputable def AE108 : Env := { Θ := Th, Γ := GA70, K := K108, ν := [], fuel := 64, lp := [] }
theorem al108 : Contract Try.prog 108 { sig := S108, impl := fun _ ds k => call AE108 S108 6 B108 R108 ds k } :=
  call_contract (E := AE108) thOk GA70_ok mixed ok108.look ok108.body ok108.n ok108.rv ok108.name rfl (by decide) (loopsOk_of (l := []) (by kernel_rfl) trivial)
noncomputable def GA108 : Ctx := (108, { sig := S108, impl := fun _ ds k => call AE108 S108 6 B108 R108 ds k }) :: GA70
theorem GA108_ok : CtxOk Try.prog GA108 := ctxOk_cons ok108 rfl al108 GA70_ok

noncomputable def AE97 : Env := { Θ := Th, Γ := GA108, K := K97, ν := [], fuel := 64, lp := [] }
theorem al97 : Contract Try.prog 97 { sig := S97, impl := fun _ ds k => call AE97 S97 17 B97 R97 ds k } :=
  call_contract (E := AE97) thOk GA108_ok mixed ok97.look ok97.body ok97.n ok97.rv ok97.name rfl (by decide) (loopsOk_of (l := []) (by kernel_rfl) trivial)
noncomputable def GA97 : Ctx := (97, { sig := S97, impl := fun _ ds k => call AE97 S97 17 B97 R97 ds k }) :: GA108
theorem GA97_ok : CtxOk Try.prog GA97 := ctxOk_cons ok97 rfl al97 GA108_ok

noncomputable def AE91 : Env := { Θ := Th, Γ := GA97, K := K91, ν := [(0, ⟨[], []⟩), (2, ⟨[], []⟩)], fuel := 64, lp := [] }
theorem al91 : Contract Try.prog 91 { sig := { ps := [], rs := [] }, impl := fun _ ds k => callN AE91 3 49 B91 R91 ds k, kind := .inl 3 } :=
  inl_contract (E := AE91) thOk GA97_ok mixed ok91 (loopsOk_of (l := [(0, B91_0), (2, B91_2)]) (by kernel_rfl) (allOk_skip rfl (allOk_skip rfl trivial)))
noncomputable def GA91 : Ctx := (91, { sig := { ps := [], rs := [] }, impl := fun _ ds k => callN AE91 3 49 B91 R91 ds k, kind := .inl 3 }) :: GA97
theorem GA91_ok : CtxOk Try.prog GA91 := ctxOk_cons ok91 rfl al91 GA97_ok

noncomputable def AE101 : Env := { Θ := Th, Γ := GA91, K := K101, ν := [], fuel := 64, lp := [] }
theorem al101 : Contract Try.prog 101 { sig := S101, impl := fun _ ds k => call AE101 S101 25 B101 R101 ds k } :=
  call_contract (E := AE101) thOk GA91_ok mixed ok101.look ok101.body ok101.n ok101.rv ok101.name rfl (by decide) (loopsOk_of (l := []) (by kernel_rfl) trivial)
noncomputable def GA101 : Ctx := (101, { sig := S101, impl := fun _ ds k => call AE101 S101 25 B101 R101 ds k }) :: GA91
theorem GA101_ok : CtxOk Try.prog GA101 := ctxOk_cons ok101 rfl al101 GA91_ok

noncomputable def AE75 : Env := { Θ := Th, Γ := GA101, K := K75, ν := [], fuel := 64, lp := [] }
theorem al75 : Contract Try.prog 75 { sig := S75, impl := fun _ ds k => call AE75 S75 8 B75 R75 ds k } :=
  call_contract (E := AE75) thOk GA101_ok mixed ok75.look ok75.body ok75.n ok75.rv ok75.name rfl (by decide) (loopsOk_of (l := []) (by kernel_rfl) trivial)
noncomputable def GA75 : Ctx := (75, { sig := S75, impl := fun _ ds k => call AE75 S75 8 B75 R75 ds k }) :: GA101
theorem GA75_ok : CtxOk Try.prog GA75 := ctxOk_cons ok75 rfl al75 GA101_ok

noncomputable def AE74 : Env := { Θ := Th, Γ := GA75, K := K74, ν := [(0, ⟨[], []⟩)], fuel := 64, lp := [] }
theorem al74 : Contract Try.prog 74 { sig := { ps := [], rs := [] }, impl := fun _ ds k => callN AE74 4 134 B74 R74 ds k, kind := .inl 4 } :=
  inl_contract (E := AE74) thOk GA75_ok mixed ok74 (loopsOk_of (l := [(0, B74_0)]) (by kernel_rfl) (allOk_skip rfl trivial))
noncomputable def GA74 : Ctx := (74, { sig := { ps := [], rs := [] }, impl := fun _ ds k => callN AE74 4 134 B74 R74 ds k, kind := .inl 4 }) :: GA75
theorem GA74_ok : CtxOk Try.prog GA74 := ctxOk_cons ok74 rfl al74 GA75_ok

noncomputable def AE46 : Env := { Θ := Th, Γ := GA74, K := K46, ν := [], fuel := 64, lp := [] }
theorem al46 : Contract Try.prog 46 { sig := { ps := [], rs := [] }, impl := fun _ ds k => callN AE46 1 11 B46 R46 ds k, kind := .inl 1 } :=
  inl_contract (E := AE46) thOk GA74_ok mixed ok46 (loopsOk_of (l := []) (by kernel_rfl) trivial)
noncomputable def GA46 : Ctx := (46, { sig := { ps := [], rs := [] }, impl := fun _ ds k => callN AE46 1 11 B46 R46 ds k, kind := .inl 1 }) :: GA74
theorem GA46_ok : CtxOk Try.prog GA46 := ctxOk_cons ok46 rfl al46 GA74_ok

noncomputable def AE39 : Env := { Θ := Th, Γ := GA46, K := K39, ν := [(0, ⟨[], []⟩)], fuel := 64, lp := [] }
theorem al39 : Contract Try.prog 39 { sig := S39, impl := fun _ ds k => call AE39 S39 29 B39 R39 ds k } :=
  call_contract (E := AE39) thOk GA46_ok mixed ok39.look ok39.body ok39.n ok39.rv ok39.name rfl (by decide) (loopsOk_of (l := [(0, B39_0)]) (by kernel_rfl) (allOk_skip rfl trivial))
noncomputable def GA39 : Ctx := (39, { sig := S39, impl := fun _ ds k => call AE39 S39 29 B39 R39 ds k }) :: GA46
theorem GA39_ok : CtxOk Try.prog GA39 := ctxOk_cons ok39 rfl al39 GA46_ok

noncomputable def AE19 : Env := { Θ := Th, Γ := GA39, K := K19, ν := [(0, ⟨[], []⟩)], fuel := 64, lp := [] }
theorem al19 : Contract Try.prog 19 { sig := S19, impl := fun _ ds k => call AE19 S19 22 B19 R19 ds k } :=
  call_contract (E := AE19) thOk GA39_ok mixed ok19.look ok19.body ok19.n ok19.rv ok19.name rfl (by decide) (loopsOk_of (l := [(0, B19_0)]) (by kernel_rfl) (allOk_skip rfl trivial))
noncomputable def GA19 : Ctx := (19, { sig := S19, impl := fun _ ds k => call AE19 S19 22 B19 R19 ds k }) :: GA39
theorem GA19_ok : CtxOk Try.prog GA19 := ctxOk_cons ok19 rfl al19 GA39_ok

noncomputable def AE49 : Env := { Θ := Th, Γ := GA19, K := K49, ν := [(0, ⟨[], []⟩)], fuel := 64, lp := [] }
theorem al49 : Contract Try.prog 49 { sig := S49, impl := fun _ ds k => call AE49 S49 31 B49 R49 ds k } :=
  call_contract (E := AE49) thOk GA19_ok mixed ok49.look ok49.body ok49.n ok49.rv ok49.name rfl (by decide) (loopsOk_of (l := [(0, B49_0)]) (by kernel_rfl) (allOk_skip rfl trivial))
noncomputable def GA49 : Ctx := (49, { sig := S49, impl := fun _ ds k => call AE49 S49 31 B49 R49 ds k }) :: GA19
theorem GA49_ok : CtxOk Try.prog GA49 := ctxOk_cons ok49 rfl al49 GA19_ok

noncomputable def AE16 : Env := { Θ := Th, Γ := GA49, K := K16, ν := [(0, ⟨[], []⟩)], fuel := 64, lp := [] }
theorem al16 : Contract Try.prog 16 { sig := S16, impl := fun _ ds k => call AE16 S16 32 B16 R16 ds k } :=
  call_contract (E := AE16) thOk GA49_ok mixed ok16.look ok16.body ok16.n ok16.rv ok16.name rfl (by decide) (loopsOk_of (l := [(0, B16_0)]) (by kernel_rfl) (allOk_skip rfl trivial))
noncomputable def GA16 : Ctx := (16, { sig := S16, impl := fun _ ds k => call AE16 S16 32 B16 R16 ds k }) :: GA49
theorem GA16_ok : CtxOk Try.prog GA16 := ctxOk_cons ok16 rfl al16 GA49_ok

noncomputable def AE9 : Env := { Θ := Th, Γ := GA16, K := K9, ν := [(0, ⟨[], []⟩), (2, ⟨[], []⟩), (4, ⟨[], []⟩), (6, ⟨[], []⟩), (8, ⟨[], []⟩), (10, ⟨[], []⟩)], fuel := 64, lp := [] }
theorem al9 : Contract Try.prog 9 { sig := S9, impl := fun _ ds k => call AE9 S9 161 B9 R9 ds k } :=
  call_contract (E := AE9) thOk GA16_ok mixed ok9.look ok9.body ok9.n ok9.rv ok9.name rfl (by decide) (loopsOk_of (l := [(0, B9_0), (2, B9_2), (4, B9_4), (6, B9_6), (8, B9_8), (10, B9_10)]) (by kernel_rfl) (allOk_skip rfl (allOk_skip rfl (allOk_skip rfl (allOk_skip rfl (allOk_skip rfl (allOk_skip rfl trivial)))))))
noncomputable def GA9 : Ctx := (9, { sig := S9, impl := fun _ ds k => call AE9 S9 161 B9 R9 ds k }) :: GA16
theorem GA9_ok : CtxOk Try.prog GA9 := ctxOk_cons ok9 rfl al9 GA16_ok

noncomputable def AE47 : Env := { Θ := Th, Γ := GA9, K := K47, ν := [(0, ⟨[], []⟩)], fuel := 64, lp := [] }
theorem al47 : Contract Try.prog 47 { sig := S47, impl := fun _ ds k => call AE47 S47 38 B47 R47 ds k } :=
  call_contract (E := AE47) thOk GA9_ok mixed ok47.look ok47.body ok47.n ok47.rv ok47.name rfl (by decide) (loopsOk_of (l := [(0, B47_0)]) (by kernel_rfl) (allOk_skip rfl trivial))
noncomputable def GA47 : Ctx := (47, { sig := S47, impl := fun _ ds k => call AE47 S47 38 B47 R47 ds k }) :: GA9
theorem GA47_ok : CtxOk Try.prog GA47 := ctxOk_cons ok47 rfl al47 GA9_ok

noncomputable def AE50 : Env := { Θ := Th, Γ := GA47, K := K50, ν := [(0, ⟨[], []⟩), (2, ⟨[], []⟩), (4, ⟨[], []⟩)], fuel := 64, lp := [] }
theorem al50 : Contract Try.prog 50 { sig := S50, impl := fun _ ds k => call AE50 S50 95 B50 R50 ds k } :=
  call_contract (E := AE50) thOk GA47_ok mixed ok50.look ok50.body ok50.n ok50.rv ok50.name rfl (by decide) (loopsOk_of (l := [(0, B50_0), (2, B50_2), (4, B50_4)]) (by kernel_rfl) (allOk_skip rfl (allOk_skip rfl (allOk_skip rfl trivial))))
noncomputable def GA50 : Ctx := (50, { sig := S50, impl := fun _ ds k => call AE50 S50 95 B50 R50 ds k }) :: GA47
theorem GA50_ok : CtxOk Try.prog GA50 := ctxOk_cons ok50 rfl al50 GA47_ok

noncomputable def AE48 : Env := { Θ := Th, Γ := GA50, K := K48, ν := [(0, ⟨[], []⟩)], fuel := 64, lp := [] }
theorem al48 : Contract Try.prog 48 { sig := S48, impl := fun _ ds k => call AE48 S48 37 B48 R48 ds k } :=
  call_contract (E := AE48) thOk GA50_ok mixed ok48.look ok48.body ok48.n ok48.rv ok48.name rfl (by decide) (loopsOk_of (l := [(0, B48_0)]) (by kernel_rfl) (allOk_skip rfl trivial))
noncomputable def GA48 : Ctx := (48, { sig := S48, impl := fun _ ds k => call AE48 S48 37 B48 R48 ds k }) :: GA50
theorem GA48_ok : CtxOk Try.prog GA48 := ctxOk_cons ok48 rfl al48 GA50_ok

noncomputable def AE44 : Env := { Θ := Th, Γ := GA48, K := K44, ν := [], fuel := 64, lp := [] }
theorem al44 : Contract Try.prog 44 { sig := S44, impl := fun _ ds k => call AE44 S44 28 B44 R44 ds k } :=
  call_contract (E := AE44) thOk GA48_ok mixed ok44.look ok44.body ok44.n ok44.rv ok44.name rfl (by decide) (loopsOk_of (l := []) (by kernel_rfl) trivial)
noncomputable def GA44 : Ctx := (44, { sig := S44, impl := fun _ ds k => call AE44 S44 28 B44 R44 ds k }) :: GA48
theorem GA44_ok : CtxOk Try.prog GA44 := ctxOk_cons ok44 rfl al44 GA48_ok

noncomputable def AE24 : Env := { Θ := Th, Γ := GA44, K := K24, ν := [], fuel := 64, lp := [] }
theorem al24 : Contract Try.prog 24 { sig := S24, impl := fun _ ds k => call AE24 S24 29 B24 R24 ds k } :=
  call_contract (E := AE24) thOk GA44_ok mixed ok24.look ok24.body ok24.n ok24.rv ok24.name rfl (by decide) (loopsOk_of (l := []) (by kernel_rfl) trivial)
noncomputable def GA24 : Ctx := (24, { sig := S24, impl := fun _ ds k => call AE24 S24 29 B24 R24 ds k }) :: GA44
theorem GA24_ok : CtxOk Try.prog GA24 := ctxOk_cons ok24 rfl al24 GA44_ok

noncomputable def AE89 : Env := { Θ := Th, Γ := GA24, K := K89, ν := [(0, ⟨[], []⟩), (2, ⟨[], []⟩), (4, ⟨[], []⟩)], fuel := 64, lp := [] }
theorem al89 : Contract Try.prog 89 { sig := { ps := [], rs := [] }, impl := fun _ ds k => callN AE89 3 95 B89 R89 ds k, kind := .inl 3 } :=
  inl_contract (E := AE89) thOk GA24_ok mixed ok89 (loopsOk_of (l := [(0, B89_0), (2, B89_2), (4, B89_4)]) (by kernel_rfl) (allOk_skip rfl (allOk_skip rfl (allOk_skip rfl trivial))))
noncomputable def GA89 : Ctx := (89, { sig := { ps := [], rs := [] }, impl := fun _ ds k => callN AE89 3 95 B89 R89 ds k, kind := .inl 3 }) :: GA24
theorem GA89_ok : CtxOk Try.prog GA89 := ctxOk_cons ok89 rfl al89 GA24_ok

noncomputable def AE72 : Env := { Θ := Th, Γ := GA89, K := K72, ν := [(0, ⟨[], []⟩), (2, ⟨[], []⟩), (4, ⟨[], []⟩), (6, ⟨[], []⟩)], fuel := 64, lp := [] }
theorem al72 : Contract Try.prog 72 { sig := { ps := [], rs := [] }, impl := fun _ ds k => callN AE72 2 100 B72 R72 ds k, kind := .inl 2 } :=
  inl_contract (E := AE72) thOk GA89_ok mixed ok72 (loopsOk_of (l := [(0, B72_0), (2, B72_2), (4, B72_4), (6, B72_6)]) (by kernel_rfl) (allOk_skip rfl (allOk_skip rfl (allOk_skip rfl (allOk_skip rfl trivial)))))
noncomputable def GA72 : Ctx := (72, { sig := { ps := [], rs := [] }, impl := fun _ ds k => callN AE72 2 100 B72 R72 ds k, kind := .inl 2 }) :: GA89
theorem GA72_ok : CtxOk Try.prog GA72 := ctxOk_cons ok72 rfl al72 GA89_ok

noncomputable def AE90 : Env := { Θ := Th, Γ := GA72, K := K90, ν := [], fuel := 64, lp := [] }
theorem al90 : Contract Try.prog 90 { sig := S90, impl := fun _ ds k => call AE90 S90 8 B90 R90 ds k } :=
  call_contract (E := AE90) thOk GA72_ok mixed ok90.look ok90.body ok90.n ok90.rv ok90.name rfl (by decide) (loopsOk_of (l := []) (by kernel_rfl) trivial)
noncomputable def GA90 : Ctx := (90, { sig := S90, impl := fun _ ds k => call AE90 S90 8 B90 R90 ds k }) :: GA72
theorem GA90_ok : CtxOk Try.prog GA90 := ctxOk_cons ok90 rfl al90 GA72_ok

noncomputable def AE73 : Env := { Θ := Th, Γ := GA90, K := K73, ν := [(0, ⟨[], []⟩), (2, ⟨[], []⟩), (4, ⟨[], []⟩)], fuel := 64, lp := [] }
theorem al73 : Contract Try.prog 73 { sig := S73, impl := fun _ ds k => call AE73 S73 84 B73 R73 ds k } :=
  call_contract (E := AE73) thOk GA90_ok mixed ok73.look ok73.body ok73.n ok73.rv ok73.name rfl (by decide) (loopsOk_of (l := [(0, B73_0), (2, B73_2), (4, B73_4)]) (by kernel_rfl) (allOk_skip rfl (allOk_skip rfl (allOk_skip rfl trivial))))
noncomputable def GA73 : Ctx := (73, { sig := S73, impl := fun _ ds k => call AE73 S73 84 B73 R73 ds k }) :: GA90
theorem GA73_ok : CtxOk Try.prog GA73 := ctxOk_cons ok73 rfl al73 GA90_ok

noncomputable def AE45 : Env := { Θ := Th, Γ := GA73, K := K45, ν := [(0, ⟨[], []⟩), (2, ⟨[], []⟩)], fuel := 64, lp := [] }
theorem al45 : Contract Try.prog 45 { sig := S45, impl := fun _ ds k => call AE45 S45 106 B45 R45 ds k } :=
  call_contract (E := AE45) thOk GA73_ok mixed ok45.look ok45.body ok45.n ok45.rv ok45.name rfl (by decide) (loopsOk_of (l := [(0, B45_0), (2, B45_2)]) (by kernel_rfl) (allOk_skip rfl (allOk_skip rfl trivial)))
noncomputable def GA45 : Ctx := (45, { sig := S45, impl := fun _ ds k => call AE45 S45 106 B45 R45 ds k }) :: GA73
theorem GA45_ok : CtxOk Try.prog GA45 := ctxOk_cons ok45 rfl al45 GA73_ok

noncomputable def AE22 : Env := { Θ := Th, Γ := GA45, K := K22, ν := [(0, ⟨[], []⟩)], fuel := 64, lp := [] }
theorem al22 : Contract Try.prog 22 { sig := S22, impl := fun _ ds k => call AE22 S22 72 B22 R22 ds k } :=
  call_contract (E := AE22) thOk GA45_ok mixed ok22.look ok22.body ok22.n ok22.rv ok22.name rfl (by decide) (loopsOk_of (l := [(0, B22_0)]) (by kernel_rfl) (allOk_skip rfl trivial))
noncomputable def GA22 : Ctx := (22, { sig := S22, impl := fun _ ds k => call AE22 S22 72 B22 R22 ds k }) :: GA45
theorem GA22_ok : CtxOk Try.prog GA22 := ctxOk_cons ok22 rfl al22 GA45_ok

noncomputable def AE13 : Env := { Θ := Th, Γ := GA22, K := K13, ν := [], fuel := 64, lp := [] }
theorem al13 : Contract Try.prog 13 { sig := S13, impl := fun _ ds k => call AE13 S13 88 B13 R13 ds k } :=
  call_contract (E := AE13) thOk GA22_ok mixed ok13.look ok13.body ok13.n ok13.rv ok13.name rfl (by decide) (loopsOk_of (l := []) (by kernel_rfl) trivial)
end Go.Proofs.Ytogcijgklnfjjaa

namespace Go.Proofs.Ytogcijgklnfjjaa
open Go Go.Eng
set_option maxRecDepth 1000000

theorem alive_eq {R : Type} (k : List DV → Option R) : call AE13 S13 88 B13 R13 [] k = k [.v (.one (.bool true))] := by kernel_rfl
def I13 : (R : Type) → List DV → (List DV → Option R) → Option R := fun _ ds k => match ds with
  | [] => k [.v (.one (.bool true))]
  | _ => none
theorem c13 : Contract Try.prog 13 { sig := S13, impl := I13 } := by
  refine Contract.refine fun R ds k r h => ⟨_, al13, ?_⟩
  unfold I13 at h
  split at h
  · rw [alive_eq]; exact h
  · cases h
end Go.Proofs.Ytogcijgklnfjjaa

namespace Go.Proofs.Ytogcijgklnfjjaa
open Go Go.Eng
set_option maxRecDepth 100000
set_option linter.unusedVariables false

noncomputable def GL8 : Ctx := (12, { sig := S12, impl := I12 }) :: (13, { sig := S13, impl := I13 }) :: (14, { sig := S14, impl := I30 }) :: (17, { sig := S17, impl := I40 }) :: (18, { sig := S18, impl := I18 }) :: (25, { sig := S25, impl := I25 }) :: (27, { sig := S27, impl := I27 }) :: (28, { sig := S28, impl := I42 }) :: (29, { sig := S29, impl := I29 }) :: []
theorem GL8_ok : CtxOk Try.prog GL8 := ctxOk_cons ok12 rfl c12 (ctxOk_cons ok13 rfl c13 (ctxOk_cons ok14 rfl c14 (ctxOk_cons ok17 rfl c17 (ctxOk_cons ok18 rfl c18 (ctxOk_cons ok25 rfl c25 (ctxOk_cons ok27 rfl c27 (ctxOk_cons ok28 rfl c28 (ctxOk_cons ok29 rfl c29 ctxOk_nil))))))))
def start8 (n : Nat) (s x : List Int) : AS := { n := n, lo := 0, tmps := [(0, va (.own 0)), (1, va (.ints .u8 32 x))], items := [(0, .view (.mix ck43) 33 s)] }
end Go.Proofs.Ytogcijgklnfjjaa

namespace Go.Proofs.Ytogcijgklnfjjaa
open Go Go.Eng
set_option maxRecDepth 100000
end Go.Proofs.Ytogcijgklnfjjaa

namespace Go.Proofs.Ytogcijgklnfjjaa
open Go Go.Eng
set_option maxRecDepth 100000
set_option linter.unusedVariables false

end Go.Proofs.Ytogcijgklnfjjaa

namespace Go.Proofs.Ytogcijgklnfjjaa
open Go Go.Eng
set_option maxRecDepth 100000
set_option linter.unusedVariables false

end Go.Proofs.Ytogcijgklnfjjaa

namespace Go.Proofs.Ytogcijgklnfjjaa
open Go Go.Eng
set_option maxRecDepth 100000
set_option linter.unusedVariables false

theorem pxN_q {X : Nat → Nat} (hX : LtE X) (i v : Nat) : ∀ (j k a : Nat), q (pxN X i v j k a) = q a * prx (fun i => q (X i)) i (q v) j k
  | 0, k, a => by
    show q a = q a * 1
    grind
  | j + 1, k, a => by
    have e : pxN X i v (j + 1) k a = pxN X i v j (k + 1) (if k = i then a else mulN a (difN v (X k))) := rfl
    have e2 : prx (fun i => q (X i)) i (q v) (j + 1) k = (if k = i then 1 else q v - q (X k)) * prx (fun i => q (X i)) i (q v) j (k + 1) := rfl
    rw [e, e2, pxN_q hX i v j (k + 1)]
    by_cases hk : k = i
    · rw [if_pos hk, if_pos hk]; grind
    · rw [if_neg hk, if_neg hk, q_mul, q_dif _ (hX k)]; grind
theorem basG_q {X : Nat → Nat} (hX : LtE X) (v n i : Nat) : q (basG X v n i) = prx (fun i => q (X i)) i (q v) n 0 * qi (prx (fun i => q (X i)) i (q (X i)) n 0) := by
  have h1 : pxN X i (X i) n 0 1 < ell := pxN_lt _ _ _ one_lt_ell
  unfold basG
  rw [q_mul, q_inv h1, pxN_q hX, pxN_q hX, q_one]; grind
theorem val_coefs {X Y : Nat → Nat} (hX : LtE X) (hY : LtE Y) (v n : Nat) : ∀ m, m ≤ n → ev n (fun t => q (iterF (coefSt X Y n) m 0 (fun _ => 0) t)) (q v) = q (valG X Y v n m)
  | 0, _ => by
    show ev n (fun t => q 0) (q v) = q 0
    rw [q_zero, ev_zero]
  | m + 1, h => by
    rw [iterF_last, Nat.zero_add, coefSt_ev hX hY (by omega) (iterF_inv (fun k g h => coefSt_lt h) _ _ _ ltE_zero), val_coefs hX hY v n m (by omega)]
    have e : valG X Y v n (m + 1) = addN (valG X Y v n m) (mulN (basG X v n m) (Y m)) := rfl
    rw [e, q_add, q_mul, basG_q hX]; grind
theorem val_of {X Y : Nat → Nat} (hX : LtE X) (hY : LtE Y) {n : Nat} {c : Nat → Q} (hd : ∀ i j, i < j → j < n → X i ≠ X j) (hc : ∀ l, l < n → q (Y l) = ev n c (q (X l))) :
    (∀ i, i < n → q (coefG X Y n i) = c i) ∧ ∀ v, q (valG X Y v n n) = ev n c (q v) := by
  have h1 := unique (n := n) (c := fun j => q (coefG X Y n j)) (d := c) (r := fun i => q (X i)) (fun l hl => by rw [coefG_at hX hY hl hd, hc l hl]) (fun a b h1 h2 => q_ne (hX a) (hX b) (hd a b h1 h2))
  refine ⟨h1, fun v => ?_⟩
  rw [← val_coefs hX hY v n n (Nat.le_refl _)]
  exact ev_congr h1
end Go.Proofs.Ytogcijgklnfjjaa

namespace Go.Proofs.Ytogcijgklnfjjaa
open Go Go.Eng
set_option maxRecDepth 100000
set_option linter.unusedVariables false

def f8_0_sh : Shp := { n := 165, lo := 0, slots := [(0, .one (.fix (At.own 0))), (3, .one (.fix (At.ptr 3 0 Off.z 32))), (5, .one (.fix (At.own 1000005))), (6, .one (.int IntKind.i64))], items := [(1000005, .row (RK.one IntKind.i64) 1), (0, .view (RK.mix ck43) 33), (3, .obj [.ints IntKind.u8 32])] }
def f8_0_ex1 : Shp := { n := 165, lo := 0, slots := [(26, .one (.bool)), (0, .one (.fix (At.own 0))), (3, .one (.fix (At.ptr 3 0 Off.z 32))), (5, .one (.fix (At.own 1000005))), (6, .one (.int IntKind.i64))], items := [(1000005, .row (RK.one IntKind.i64) 1), (0, .view (RK.mix ck43) 33), (3, .obj [.ints IntKind.u8 32])] }
noncomputable def f8_0_st {R : Type} (N : Nat) (self : Int → List Int → List Int → List Int → Option R) (k1 : Bool → Int → List Int → List Int → List Int → Option R) (x1 : Int) (x2 : List Int) (x3 : List Int) (x4 : List Int) : Option R :=
 bif Decidable.decide (x1 < nI (rowLen 33 x3)) then
 bif Decidable.decide (0 ≤ x1) && Decidable.decide (x1 < nI (rowLen 33 x3)) then
 let v0 : List Int := (zerosOf (1 * 1)).set 0 (x3.getD (x1.toNat * 33 + (0 + 0)) 0);
 bif ((2 * (rowLen 1 x2 + rowLen 1 v0) + 192) * 8).ble big48 && (rowLen 1 x2 + rowLen 1 v0).ble big48 then
 let v1 : Int := IntKind.i64.wrap (x1 + 1);
 let v2 : List Int := x2 ++ v0;
 self v1 v2 x3 x4
 else Option.none
 else Option.none
else k1 (Decidable.decide (x1 < nI (rowLen 33 x3))) x1 x2 x3 x4
noncomputable def f8_0_lp {R : Type} (N : Nat) (k1 : Bool → Int → List Int → List Int → List Int → Option R) : Nat → Int → List Int → List Int → List Int → Option R
 | 0, _, _, _, _ => none
 | n + 1, x1, x2, x3, x4 => f8_0_st N (f8_0_lp N k1 n) k1 x1 x2 x3 x4
noncomputable def f8_0_F (N : Nat) : (R : Type) → List Leaf → (X → AS → Option R) → Option R := fun _ ls K => match ls with
 | [.i x1, .l x2, .l x3, .l x4] => f8_0_lp N (fun y1 y2 y3 y4 y5 => K (X.normal) (fill f8_0_ex1 [.b y1, .i y2, .l y3, .l y4, .l y5])) N x1 x2 x3 x4
 | _ => none
def f8_4_sh : Shp := { n := 165, lo := 0, slots := [(0, .one (.fix (At.own 0))), (3, .one (.fix (At.ptr 3 0 Off.z 32))), (5, .one (.fix (At.own 1000005))), (7, .one (.fix (At.own 39))), (9, .one (.fix (At.ptr 9 0 Off.z 32))), (10, .one (.int IntKind.i64)), (11, .one (.fix (At.ptr 11 0 Off.z 32))), (12, .one (.fix (At.ptr 12 0 Off.z 32))), (13, .one (.fix (At.ptr 13 0 Off.z 32))), (14, .one (.int IntKind.i64)), (17, .one (.int IntKind.i64))], items := [(0, .view (RK.mix ck43) 33), (3, .obj [.ints IntKind.u8 32]), (9, .obj [.ints IntKind.u8 32]), (11, .obj [.ints IntKind.u8 32]), (12, .obj [.ints IntKind.u8 32]), (13, .obj [.ints IntKind.u8 32]), (39, .row (RK.one IntKind.u8) 32), (1000005, .row (RK.one IntKind.i64) 1)] }
def f8_4_ex1 : Shp := { n := 165, lo := 0, slots := [(4, .one (.bool)), (138, .one (.bool)), (18, .one (.fix (At.ptr 18 0 Off.z 32))), (105, .one (.bool)), (0, .one (.fix (At.own 0))), (3, .one (.fix (At.ptr 3 0 Off.z 32))), (5, .one (.fix (At.own 1000005))), (7, .one (.fix (At.own 39))), (9, .one (.fix (At.ptr 9 0 Off.z 32))), (10, .one (.int IntKind.i64)), (11, .one (.fix (At.ptr 11 0 Off.z 32))), (12, .one (.fix (At.ptr 12 0 Off.z 32))), (13, .one (.fix (At.ptr 13 0 Off.z 32))), (14, .one (.int IntKind.i64)), (17, .one (.int IntKind.i64))], items := [(18, .obj [.ints IntKind.u8 32]), (0, .view (RK.mix ck43) 33), (3, .obj [.ints IntKind.u8 32]), (9, .obj [.ints IntKind.u8 32]), (11, .obj [.ints IntKind.u8 32]), (12, .obj [.ints IntKind.u8 32]), (13, .obj [.ints IntKind.u8 32]), (39, .row (RK.one IntKind.u8) 32), (1000005, .row (RK.one IntKind.i64) 1)] }
def f8_4_ex2 : Shp := { n := 165, lo := 0, slots := [(105, .one (.bool)), (0, .one (.fix (At.own 0))), (3, .one (.fix (At.ptr 3 0 Off.z 32))), (5, .one (.fix (At.own 1000005))), (7, .one (.fix (At.own 39))), (9, .one (.fix (At.ptr 9 0 Off.z 32))), (10, .one (.int IntKind.i64)), (11, .one (.fix (At.ptr 11 0 Off.z 32))), (12, .one (.fix (At.ptr 12 0 Off.z 32))), (13, .one (.fix (At.ptr 13 0 Off.z 32))), (14, .one (.int IntKind.i64)), (17, .one (.int IntKind.i64))], items := [(0, .view (RK.mix ck43) 33), (3, .obj [.ints IntKind.u8 32]), (9, .obj [.ints IntKind.u8 32]), (11, .obj [.ints IntKind.u8 32]), (12, .obj [.ints IntKind.u8 32]), (13, .obj [.ints IntKind.u8 32]), (39, .row (RK.one IntKind.u8) 32), (1000005, .row (RK.one IntKind.i64) 1)] }
noncomputable def f8_4_st {R : Type} (N : Nat) (self : Int → Int → Int → List Int → List Int → List Int → List Int → List Int → List Int → List Int → List Int → Option R) (k1 : Bool → Bool → Bool → Int → Int → Int → List Int → List Int → List Int → List Int → List Int → List Int → List Int → List Int → List Int → Option R) (k2 : Bool → Int → Int → Int → List Int → List Int → List Int → List Int → List Int → List Int → List Int → List Int → Option R) (x1 : Int) (x2 : Int) (x3 : Int) (x4 : List Int) (x5 : List Int) (x6 : List Int) (x7 : List Int) (x8 : List Int) (x9 : List Int) (x10 : List Int) (x11 : List Int) : Option R :=
 bif Decidable.decide (x3 < nI (rowLen 1 x11)) then
 bif Decidable.decide (0 ≤ x2) && Decidable.decide (x2 < nI (rowLen 1 x11)) then
 bif Decidable.decide (0 ≤ x3) && Decidable.decide (x3 < nI (rowLen 1 x11)) then
 bif x11.length.ble 1073741823 && okB (sN (plN (x11.getD (mulE x3.toNat 1) 0))) then
 bif Decidable.decide (idsN x11 = 0) then
 bif Decidable.decide (idxE x11 (x11.getD (mulE x2.toNat 1) 0) x11.length 0 < 0) then
 let v0 : List Int := (List.replicate 32 0).set 0 1;
 bif !Decidable.decide (zS = v0) == (x2 == x3) then k1 Bool.false Bool.true (Decidable.decide (x3 < nI (rowLen 1 x11))) x1 x2 x3 zS x4 x5 x6 x7 x8 x9 x10 x11
 else
 bif !Decidable.decide (zS = List.replicate 32 0) then
 let v1 : Bool := bif Bool.true then x2 != x3 else Bool.false;
 let v2 : Bool := bif Bool.false then Bool.true else v1;
 bif v2 then k1 Bool.false v2 (Decidable.decide (x3 < nI (rowLen 1 x11))) x1 x2 x3 zS x4 x5 x6 x7 x8 x9 x10 x11
 else
 let v3 : Int := IntKind.i64.wrap (x3 + 1);
 self x1 x2 v3 x4 x5 x6 x7 x8 x9 x10 x11
 else
 let v4 : Int := IntKind.i64.wrap (x3 + 1);
 self x1 x2 v4 x4 x5 x6 x7 x8 x9 x10 x11
 else
 let v5 : List Int := (List.replicate 32 0).set 0 1;
 bif !Decidable.decide (sN (basG (plF x11) (vS (sN (plN (x11.getD (mulE x3.toNat 1) 0)))) x11.length (idxE x11 (x11.getD (mulE x2.toNat 1) 0) x11.length 0).toNat) = v5) == (x2 == x3) then k1 Bool.false Bool.true (Decidable.decide (x3 < nI (rowLen 1 x11))) x1 x2 x3 (sN (basG (plF x11) (vS (sN (plN (x11.getD (mulE x3.toNat 1) 0)))) x11.length (idxE x11 (x11.getD (mulE x2.toNat 1) 0) x11.length 0).toNat)) x4 x5 x6 x7 x8 x9 x10 x11
 else
 bif !Decidable.decide (sN (basG (plF x11) (vS (sN (plN (x11.getD (mulE x3.toNat 1) 0)))) x11.length (idxE x11 (x11.getD (mulE x2.toNat 1) 0) x11.length 0).toNat) = List.replicate 32 0) then
 let v6 : Bool := bif Bool.true then x2 != x3 else Bool.false;
 let v7 : Bool := bif Bool.false then Bool.true else v6;
 bif v7 then k1 Bool.false v7 (Decidable.decide (x3 < nI (rowLen 1 x11))) x1 x2 x3 (sN (basG (plF x11) (vS (sN (plN (x11.getD (mulE x3.toNat 1) 0)))) x11.length (idxE x11 (x11.getD (mulE x2.toNat 1) 0) x11.length 0).toNat)) x4 x5 x6 x7 x8 x9 x10 x11
 else
 let v8 : Int := IntKind.i64.wrap (x3 + 1);
 self x1 x2 v8 x4 x5 x6 x7 x8 x9 x10 x11
 else
 let v9 : Int := IntKind.i64.wrap (x3 + 1);
 self x1 x2 v9 x4 x5 x6 x7 x8 x9 x10 x11
 else
 let v10 : List Int := (List.replicate 32 0).set 0 1;
 bif !Decidable.decide (zS = v10) == (x2 == x3) then k1 Bool.false Bool.true (Decidable.decide (x3 < nI (rowLen 1 x11))) x1 x2 x3 zS x4 x5 x6 x7 x8 x9 x10 x11
 else
 bif !Decidable.decide (zS = List.replicate 32 0) then
 let v11 : Bool := bif Bool.true then x2 != x3 else Bool.false;
 let v12 : Bool := bif Bool.false then Bool.true else v11;
 bif v12 then k1 Bool.false v12 (Decidable.decide (x3 < nI (rowLen 1 x11))) x1 x2 x3 zS x4 x5 x6 x7 x8 x9 x10 x11
 else
 let v13 : Int := IntKind.i64.wrap (x3 + 1);
 self x1 x2 v13 x4 x5 x6 x7 x8 x9 x10 x11
 else
 let v14 : Int := IntKind.i64.wrap (x3 + 1);
 self x1 x2 v14 x4 x5 x6 x7 x8 x9 x10 x11
 else Option.none
 else Option.none
 else Option.none
else k2 (Decidable.decide (x3 < nI (rowLen 1 x11))) x1 x2 x3 x4 x5 x6 x7 x8 x9 x10 x11
noncomputable def f8_4_lp {R : Type} (N : Nat) (k1 : Bool → Bool → Bool → Int → Int → Int → List Int → List Int → List Int → List Int → List Int → List Int → List Int → List Int → List Int → Option R) (k2 : Bool → Int → Int → Int → List Int → List Int → List Int → List Int → List Int → List Int → List Int → List Int → Option R) : Nat → Int → Int → Int → List Int → List Int → List Int → List Int → List Int → List Int → List Int → List Int → Option R
 | 0, _, _, _, _, _, _, _, _, _, _, _ => none
 | n + 1, x1, x2, x3, x4, x5, x6, x7, x8, x9, x10, x11 => f8_4_st N (f8_4_lp N k1 k2 n) k1 k2 x1 x2 x3 x4 x5 x6 x7 x8 x9 x10 x11
noncomputable def f8_4_F (N : Nat) : (R : Type) → List Leaf → (X → AS → Option R) → Option R := fun _ ls K => match ls with
 | [.i x1, .i x2, .i x3, .l x4, .l x5, .l x6, .l x7, .l x8, .l x9, .l x10, .l x11] => f8_4_lp N (fun y1 y2 y3 y4 y5 y6 y7 y8 y9 y10 y11 y12 y13 y14 y15 => K (X.ret) (fill f8_4_ex1 [.b y1, .b y2, .b y3, .i y4, .i y5, .i y6, .l y7, .l y8, .l y9, .l y10, .l y11, .l y12, .l y13, .l y14, .l y15])) (fun y1 y2 y3 y4 y5 y6 y7 y8 y9 y10 y11 y12 => K (X.normal) (fill f8_4_ex2 [.b y1, .i y2, .i y3, .i y4, .l y5, .l y6, .l y7, .l y8, .l y9, .l y10, .l y11, .l y12])) N x1 x2 x3 x4 x5 x6 x7 x8 x9 x10 x11
 | _ => none
def f8_2_sh : Shp := { n := 165, lo := 0, slots := [(0, .one (.fix (At.own 0))), (3, .one (.fix (At.ptr 3 0 Off.z 32))), (5, .one (.fix (At.own 1000005))), (7, .one (.fix (At.own 39))), (9, .one (.fix (At.ptr 9 0 Off.z 32))), (10, .one (.int IntKind.i64)), (11, .one (.fix (At.ptr 11 0 Off.z 32))), (12, .one (.fix (At.ptr 12 0 Off.z 32))), (13, .one (.fix (At.ptr 13 0 Off.z 32))), (14, .one (.int IntKind.i64))], items := [(0, .view (RK.mix ck43) 33), (3, .obj [.ints IntKind.u8 32]), (9, .obj [.ints IntKind.u8 32]), (11, .obj [.ints IntKind.u8 32]), (12, .obj [.ints IntKind.u8 32]), (13, .obj [.ints IntKind.u8 32]), (39, .row (RK.one IntKind.u8) 32), (1000005, .row (RK.one IntKind.i64) 1)] }
def f8_2_ex1 : Shp := { n := 165, lo := 0, slots := [(4, .one (.bool)), (138, .one (.bool)), (18, .one (.fix (At.ptr 18 0 Off.z 32))), (105, .one (.bool)), (0, .one (.fix (At.own 0))), (3, .one (.fix (At.ptr 3 0 Off.z 32))), (5, .one (.fix (At.own 1000005))), (7, .one (.fix (At.own 39))), (9, .one (.fix (At.ptr 9 0 Off.z 32))), (10, .one (.int IntKind.i64)), (11, .one (.fix (At.ptr 11 0 Off.z 32))), (12, .one (.fix (At.ptr 12 0 Off.z 32))), (13, .one (.fix (At.ptr 13 0 Off.z 32))), (14, .one (.int IntKind.i64)), (17, .one (.int IntKind.i64))], items := [(18, .obj [.ints IntKind.u8 32]), (0, .view (RK.mix ck43) 33), (3, .obj [.ints IntKind.u8 32]), (9, .obj [.ints IntKind.u8 32]), (11, .obj [.ints IntKind.u8 32]), (12, .obj [.ints IntKind.u8 32]), (13, .obj [.ints IntKind.u8 32]), (39, .row (RK.one IntKind.u8) 32), (1000005, .row (RK.one IntKind.i64) 1)] }
def f8_2_ex2 : Shp := { n := 165, lo := 0, slots := [(69, .one (.bool)), (0, .one (.fix (At.own 0))), (3, .one (.fix (At.ptr 3 0 Off.z 32))), (5, .one (.fix (At.own 1000005))), (7, .one (.fix (At.own 39))), (9, .one (.fix (At.ptr 9 0 Off.z 32))), (10, .one (.int IntKind.i64)), (11, .one (.fix (At.ptr 11 0 Off.z 32))), (12, .one (.fix (At.ptr 12 0 Off.z 32))), (13, .one (.fix (At.ptr 13 0 Off.z 32))), (14, .one (.int IntKind.i64))], items := [(0, .view (RK.mix ck43) 33), (3, .obj [.ints IntKind.u8 32]), (9, .obj [.ints IntKind.u8 32]), (11, .obj [.ints IntKind.u8 32]), (12, .obj [.ints IntKind.u8 32]), (13, .obj [.ints IntKind.u8 32]), (39, .row (RK.one IntKind.u8) 32), (1000005, .row (RK.one IntKind.i64) 1)] }
noncomputable def f8_2_st {R : Type} (N : Nat) (self : Int → Int → List Int → List Int → List Int → List Int → List Int → List Int → List Int → List Int → Option R) (k1 : Bool → Bool → Bool → Int → Int → Int → List Int → List Int → List Int → List Int → List Int → List Int → List Int → List Int → List Int → Option R) (k2 : Bool → Int → Int → List Int → List Int → List Int → List Int → List Int → List Int → List Int → List Int → Option R) (x1 : Int) (x2 : Int) (x3 : List Int) (x4 : List Int) (x5 : List Int) (x6 : List Int) (x7 : List Int) (x8 : List Int) (x9 : List Int) (x10 : List Int) : Option R :=
 bif Decidable.decide (x2 < nI (rowLen 32 x9)) then
 bif Decidable.decide (0 ≤ x2) && Decidable.decide (x2 < nI (rowLen 32 x9)) then
 bif okB x6 && okB (List.take 32 (List.drop (mulE x2.toNat 32) x9)) then
 bif Decidable.decide (0 ≤ x2) && Decidable.decide (x2 < nI (rowLen 32 x9)) then
 bif Decidable.decide (0 ≤ x2) && Decidable.decide (x2 < nI (rowLen 33 x3)) then
 bif okB (List.take 32 (List.drop (mulE x2.toNat 32) x9)) && okB (List.take 32 (List.drop (x2.toNat * 33 + (0 + 1)) x3)) && okB x7 then
 bif Decidable.decide (0 ≤ x2) && Decidable.decide (x2 < nI (rowLen 1 x10)) then
 bif x10.length.ble 1073741823 && okB x4 then
 bif Decidable.decide (idsN x10 = 0) then
 bif Decidable.decide (idxE x10 (x10.getD (mulE x2.toNat 1) 0) x10.length 0 < 0) then
 bif okB x8 && okB zS then
 f8_4_lp N (fun w0_1 w0_2 w0_3 w0_4 w0_5 w0_6 w0_7 w0_8 w0_9 w0_10 w0_11 w0_12 w0_13 w0_14 w0_15 => k1 w0_1 w0_2 w0_3 w0_4 w0_5 w0_6 w0_7 w0_8 w0_9 w0_10 w0_11 w0_12 w0_13 w0_14 w0_15)
 (fun w1_1 w1_2 w1_3 w1_4 w1_5 w1_6 w1_7 w1_8 w1_9 w1_10 w1_11 w1_12 =>
 let v2 : Int := IntKind.i64.wrap (w1_3 + 1);
 self w1_2 v2 w1_5 w1_6 w1_7 w1_8 w1_9 w1_10 w1_11 w1_12)
 N x1 x2 0 x3 x4 x5 (sN (addN (vS x6) (vS (List.take 32 (List.drop (mulE x2.toNat 32) x9))))) (sN (addN (mulN (vS (List.take 32 (List.drop (mulE x2.toNat 32) x9))) (vS (List.take 32 (List.drop (x2.toNat * 33 + (0 + 1)) x3)))) (vS x7))) (sN (addN (vS x8) (vS zS))) x9 x10
 else Option.none
 else
 bif okB x8 && okB (sN (basG (plF x10) (vS x4) x10.length (idxE x10 (x10.getD (mulE x2.toNat 1) 0) x10.length 0).toNat)) then
 f8_4_lp N (fun w3_1 w3_2 w3_3 w3_4 w3_5 w3_6 w3_7 w3_8 w3_9 w3_10 w3_11 w3_12 w3_13 w3_14 w3_15 => k1 w3_1 w3_2 w3_3 w3_4 w3_5 w3_6 w3_7 w3_8 w3_9 w3_10 w3_11 w3_12 w3_13 w3_14 w3_15)
 (fun w4_1 w4_2 w4_3 w4_4 w4_5 w4_6 w4_7 w4_8 w4_9 w4_10 w4_11 w4_12 =>
 let v5 : Int := IntKind.i64.wrap (w4_3 + 1);
 self w4_2 v5 w4_5 w4_6 w4_7 w4_8 w4_9 w4_10 w4_11 w4_12)
 N x1 x2 0 x3 x4 x5 (sN (addN (vS x6) (vS (List.take 32 (List.drop (mulE x2.toNat 32) x9))))) (sN (addN (mulN (vS (List.take 32 (List.drop (mulE x2.toNat 32) x9))) (vS (List.take 32 (List.drop (x2.toNat * 33 + (0 + 1)) x3)))) (vS x7))) (sN (addN (vS x8) (vS (sN (basG (plF x10) (vS x4) x10.length (idxE x10 (x10.getD (mulE x2.toNat 1) 0) x10.length 0).toNat))))) x9 x10
 else Option.none
 else
 bif okB x8 && okB zS then
 f8_4_lp N (fun w6_1 w6_2 w6_3 w6_4 w6_5 w6_6 w6_7 w6_8 w6_9 w6_10 w6_11 w6_12 w6_13 w6_14 w6_15 => k1 w6_1 w6_2 w6_3 w6_4 w6_5 w6_6 w6_7 w6_8 w6_9 w6_10 w6_11 w6_12 w6_13 w6_14 w6_15)
 (fun w7_1 w7_2 w7_3 w7_4 w7_5 w7_6 w7_7 w7_8 w7_9 w7_10 w7_11 w7_12 =>
 let v8 : Int := IntKind.i64.wrap (w7_3 + 1);
 self w7_2 v8 w7_5 w7_6 w7_7 w7_8 w7_9 w7_10 w7_11 w7_12)
 N x1 x2 0 x3 x4 x5 (sN (addN (vS x6) (vS (List.take 32 (List.drop (mulE x2.toNat 32) x9))))) (sN (addN (mulN (vS (List.take 32 (List.drop (mulE x2.toNat 32) x9))) (vS (List.take 32 (List.drop (x2.toNat * 33 + (0 + 1)) x3)))) (vS x7))) (sN (addN (vS x8) (vS zS))) x9 x10
 else Option.none
 else Option.none
 else Option.none
 else Option.none
 else Option.none
 else Option.none
 else Option.none
 else Option.none
else k2 (Decidable.decide (x2 < nI (rowLen 32 x9))) x1 x2 x3 x4 x5 x6 x7 x8 x9 x10
noncomputable def f8_2_lp {R : Type} (N : Nat) (k1 : Bool → Bool → Bool → Int → Int → Int → List Int → List Int → List Int → List Int → List Int → List Int → List Int → List Int → List Int → Option R) (k2 : Bool → Int → Int → List Int → List Int → List Int → List Int → List Int → List Int → List Int → List Int → Option R) : Nat → Int → Int → List Int → List Int → List Int → List Int → List Int → List Int → List Int → List Int → Option R
 | 0, _, _, _, _, _, _, _, _, _, _ => none
 | n + 1, x1, x2, x3, x4, x5, x6, x7, x8, x9, x10 => f8_2_st N (f8_2_lp N k1 k2 n) k1 k2 x1 x2 x3 x4 x5 x6 x7 x8 x9 x10
noncomputable def f8_2_F (N : Nat) : (R : Type) → List Leaf → (X → AS → Option R) → Option R := fun _ ls K => match ls with
 | [.i x1, .i x2, .l x3, .l x4, .l x5, .l x6, .l x7, .l x8, .l x9, .l x10] => f8_2_lp N (fun y1 y2 y3 y4 y5 y6 y7 y8 y9 y10 y11 y12 y13 y14 y15 => K (X.ret) (fill f8_2_ex1 [.b y1, .b y2, .b y3, .i y4, .i y5, .i y6, .l y7, .l y8, .l y9, .l y10, .l y11, .l y12, .l y13, .l y14, .l y15])) (fun y1 y2 y3 y4 y5 y6 y7 y8 y9 y10 y11 => K (X.normal) (fill f8_2_ex2 [.b y1, .i y2, .i y3, .l y4, .l y5, .l y6, .l y7, .l y8, .l y9, .l y10, .l y11])) N x1 x2 x3 x4 x5 x6 x7 x8 x9 x10
 | _ => none
noncomputable def f8_raw {R : Type} (N : Nat) (s : List Int) (x : List Int) (k : List DV → Option R) : Option R :=
 f8_0_lp N
 (fun w0_1 w0_2 w0_3 w0_4 w0_5 =>
 bif w0_3.length.ble 1073741823 then
 bif Decidable.decide (idsN w0_3 = 0) then
 bif okS w0_4 && okB (List.replicate 32 0) then
 bif Decidable.decide (idsN (ids33 w0_4) = 0) then
 f8_2_lp N (fun w1_1 w1_2 w1_3 w1_4 w1_5 w1_6 w1_7 w1_8 w1_9 w1_10 w1_11 w1_12 w1_13 w1_14 w1_15 => k [DV.v (SV.one (At.bool w1_1))])
 (fun w2_1 w2_2 w2_3 w2_4 w2_5 w2_6 w2_7 w2_8 w2_9 w2_10 w2_11 =>
 bif w2_2 == 0 then
 let v3 : Bool := bif Bool.true then nI (rowLen 32 w2_10) == nI (rowLen 1 w2_11) else Bool.false;
 bif v3 then
 let v4 : List Int := (List.replicate 32 0).set 0 1;
 let v5 : Bool := bif Bool.true then Decidable.decide (w2_7 = v4) else Bool.false;
 bif v5 then
 let v6 : Bool := bif Bool.true then Decidable.decide (w2_9 = v4) else Bool.false;
 bif v6 then
 let v7 : Bool := bif Bool.true then Decidable.decide (w2_8 = w2_6) else Bool.false;
 k [DV.v (SV.one (At.bool v7))]
 else k [DV.v (SV.one (At.bool Bool.false))]
 else k [DV.v (SV.one (At.bool Bool.false))]
 else k [DV.v (SV.one (At.bool Bool.false))]
 else k [DV.v (SV.one (At.bool Bool.false))])
 N 0 0 w0_4 w0_5 (sN (valG (pX (P33 w0_4)) (pY (P33 w0_4)) (vS (List.replicate 32 0)) (w0_4.length / 33) (w0_4.length / 33))) (List.replicate 32 0) (List.replicate 32 0) (List.replicate 32 0) (arrN (basG (plF w0_3) 0 w0_3.length) w0_3.length) w0_3
 else
 f8_2_lp N (fun w8_1 w8_2 w8_3 w8_4 w8_5 w8_6 w8_7 w8_8 w8_9 w8_10 w8_11 w8_12 w8_13 w8_14 w8_15 => k [DV.v (SV.one (At.bool w8_1))])
 (fun w9_1 w9_2 w9_3 w9_4 w9_5 w9_6 w9_7 w9_8 w9_9 w9_10 w9_11 =>
 bif w9_2 == 0 then
 let v10 : Bool := bif Bool.true then nI (rowLen 32 w9_10) == nI (rowLen 1 w9_11) else Bool.false;
 bif v10 then
 let v11 : List Int := (List.replicate 32 0).set 0 1;
 let v12 : Bool := bif Bool.true then Decidable.decide (w9_7 = v11) else Bool.false;
 bif v12 then
 let v13 : Bool := bif Bool.true then Decidable.decide (w9_9 = v11) else Bool.false;
 bif v13 then
 let v14 : Bool := bif Bool.true then Decidable.decide (w9_8 = w9_6) else Bool.false;
 k [DV.v (SV.one (At.bool v14))]
 else k [DV.v (SV.one (At.bool Bool.false))]
 else k [DV.v (SV.one (At.bool Bool.false))]
 else k [DV.v (SV.one (At.bool Bool.false))]
 else k [DV.v (SV.one (At.bool Bool.false))])
 N (idsN (ids33 w0_4)) 0 w0_4 w0_5 zS (List.replicate 32 0) (List.replicate 32 0) (List.replicate 32 0) (arrN (basG (plF w0_3) 0 w0_3.length) w0_3.length) w0_3
 else Option.none
 else
 bif okS w0_4 && okB (List.replicate 32 0) then
 bif Decidable.decide (idsN (ids33 w0_4) = 0) then
 bif idsN w0_3 != 0 then
 bif idsN w0_3 == 0 then
 bif w0_3.length.ble 1073741824 then
 let v15 : Bool := bif Bool.true then idsN w0_3 == idsN w0_3 else Bool.false;
 k [DV.v (SV.one (At.bool v15))]
 else Option.none
 else k [DV.v (SV.one (At.bool Bool.false))]
 else
 f8_2_lp N (fun w16_1 w16_2 w16_3 w16_4 w16_5 w16_6 w16_7 w16_8 w16_9 w16_10 w16_11 w16_12 w16_13 w16_14 w16_15 => k [DV.v (SV.one (At.bool w16_1))])
 (fun w17_1 w17_2 w17_3 w17_4 w17_5 w17_6 w17_7 w17_8 w17_9 w17_10 w17_11 =>
 bif w17_2 == 0 then
 let v18 : Bool := bif Bool.true then nI (rowLen 32 w17_10) == nI (rowLen 1 w17_11) else Bool.false;
 bif v18 then
 let v19 : List Int := (List.replicate 32 0).set 0 1;
 let v20 : Bool := bif Bool.true then Decidable.decide (w17_7 = v19) else Bool.false;
 bif v20 then
 let v21 : Bool := bif Bool.true then Decidable.decide (w17_9 = v19) else Bool.false;
 bif v21 then
 let v22 : Bool := bif Bool.true then Decidable.decide (w17_8 = w17_6) else Bool.false;
 k [DV.v (SV.one (At.bool v22))]
 else k [DV.v (SV.one (At.bool Bool.false))]
 else k [DV.v (SV.one (At.bool Bool.false))]
 else k [DV.v (SV.one (At.bool Bool.false))]
 else k [DV.v (SV.one (At.bool Bool.false))])
 N 0 0 w0_4 w0_5 (sN (valG (pX (P33 w0_4)) (pY (P33 w0_4)) (vS (List.replicate 32 0)) (w0_4.length / 33) (w0_4.length / 33))) (List.replicate 32 0) (List.replicate 32 0) (List.replicate 32 0) [] w0_3
 else
 bif idsN w0_3 != 0 then
 bif idsN w0_3 == idsN (ids33 w0_4) then
 bif w0_3.length.ble 1073741824 then
 let v23 : Bool := bif Bool.true then idsN w0_3 == idsN w0_3 else Bool.false;
 k [DV.v (SV.one (At.bool v23))]
 else Option.none
 else k [DV.v (SV.one (At.bool Bool.false))]
 else
 f8_2_lp N (fun w24_1 w24_2 w24_3 w24_4 w24_5 w24_6 w24_7 w24_8 w24_9 w24_10 w24_11 w24_12 w24_13 w24_14 w24_15 => k [DV.v (SV.one (At.bool w24_1))])
 (fun w25_1 w25_2 w25_3 w25_4 w25_5 w25_6 w25_7 w25_8 w25_9 w25_10 w25_11 =>
 bif w25_2 == 0 then
 let v26 : Bool := bif Bool.true then nI (rowLen 32 w25_10) == nI (rowLen 1 w25_11) else Bool.false;
 bif v26 then
 let v27 : List Int := (List.replicate 32 0).set 0 1;
 let v28 : Bool := bif Bool.true then Decidable.decide (w25_7 = v27) else Bool.false;
 bif v28 then
 let v29 : Bool := bif Bool.true then Decidable.decide (w25_9 = v27) else Bool.false;
 bif v29 then
 let v30 : Bool := bif Bool.true then Decidable.decide (w25_8 = w25_6) else Bool.false;
 k [DV.v (SV.one (At.bool v30))]
 else k [DV.v (SV.one (At.bool Bool.false))]
 else k [DV.v (SV.one (At.bool Bool.false))]
 else k [DV.v (SV.one (At.bool Bool.false))]
 else k [DV.v (SV.one (At.bool Bool.false))])
 N (idsN (ids33 w0_4)) 0 w0_4 w0_5 zS (List.replicate 32 0) (List.replicate 32 0) (List.replicate 32 0) [] w0_3
 else Option.none
 else Option.none)
 N 0 [] s x


noncomputable def E8 (N : Nat) : Env := { Θ := Th, Γ := GL8, K := K8, ν := N8, fuel := 0, lp := [(0, mkL N8_0 f8_0_sh (f8_0_F N)), (2, mkL N8_2 f8_2_sh (f8_2_F N)), (4, mkL N8_4 f8_4_sh (f8_4_F N))] }

theorem f8_0_st_eq {R : Type} (N : Nat) (K : X → AS → Option R) (n : Nat) (x1 : Int) (x2 : List Int) (x3 : List Int) (x4 : List Int) : roundsOf (E8 N) N8_0 0 B8_0 K (n + 1) (fill f8_0_sh [.i x1, .l x2, .l x3, .l x4]) = f8_0_st N (fun x1 x2 x3 x4 => roundsOf (E8 N) N8_0 0 B8_0 K n (fill f8_0_sh [.i x1, .l x2, .l x3, .l x4])) (fun y1 y2 y3 y4 y5 => K (X.normal) (fill f8_0_ex1 [.b y1, .i y2, .l y3, .l y4, .l y5])) x1 x2 x3 x4 := by kernel_rfl
theorem f8_0_lp_eq {R : Type} (N : Nat) (K : X → AS → Option R) : ∀ (n : Nat) (x1 : Int) (x2 : List Int) (x3 : List Int) (x4 : List Int), roundsOf (E8 N) N8_0 0 B8_0 K n (fill f8_0_sh [.i x1, .l x2, .l x3, .l x4]) = f8_0_lp N (fun y1 y2 y3 y4 y5 => K (X.normal) (fill f8_0_ex1 [.b y1, .i y2, .l y3, .l y4, .l y5])) n x1 x2 x3 x4
  | 0, _, _, _, _ => rfl
  | n + 1, x1, x2, x3, x4 => by
    rw [f8_0_st_eq, f8_0_lp, show (fun x1 x2 x3 x4 => roundsOf (E8 N) N8_0 0 B8_0 K n (fill f8_0_sh [.i x1, .l x2, .l x3, .l x4])) = f8_0_lp N (fun y1 y2 y3 y4 y5 => K (X.normal) (fill f8_0_ex1 [.b y1, .i y2, .l y3, .l y4, .l y5])) n from by funext x1 x2 x3 x4; exact f8_0_lp_eq N K n x1 x2 x3 x4]
theorem f8_0_ok (N : Nat) (hlp : LoopsOk Try.prog (E8 N).lp B8_0) (hΓ : CtxOk Try.prog (E8 N).Γ) : LoopOk Try.prog (mkL N8_0 f8_0_sh (f8_0_F N)) 0 B8_0 := by
  refine loopOk_of (E := E8 N) thOk hΓ mixed hlp ?_
  intro R ls K r h
  unfold f8_0_F at h
  split at h
  · exact ⟨N, by rw [f8_0_lp_eq]; exact h⟩
  · cases h
theorem f8_4_st_eq {R : Type} (N : Nat) (K : X → AS → Option R) (n : Nat) (x1 : Int) (x2 : Int) (x3 : Int) (x4 : List Int) (x5 : List Int) (x6 : List Int) (x7 : List Int) (x8 : List Int) (x9 : List Int) (x10 : List Int) (x11 : List Int) : roundsOf (E8 N) N8_4 4 B8_4 K (n + 1) (fill f8_4_sh [.i x1, .i x2, .i x3, .l x4, .l x5, .l x6, .l x7, .l x8, .l x9, .l x10, .l x11]) = f8_4_st N (fun x1 x2 x3 x4 x5 x6 x7 x8 x9 x10 x11 => roundsOf (E8 N) N8_4 4 B8_4 K n (fill f8_4_sh [.i x1, .i x2, .i x3, .l x4, .l x5, .l x6, .l x7, .l x8, .l x9, .l x10, .l x11])) (fun y1 y2 y3 y4 y5 y6 y7 y8 y9 y10 y11 y12 y13 y14 y15 => K (X.ret) (fill f8_4_ex1 [.b y1, .b y2, .b y3, .i y4, .i y5, .i y6, .l y7, .l y8, .l y9, .l y10, .l y11, .l y12, .l y13, .l y14, .l y15])) (fun y1 y2 y3 y4 y5 y6 y7 y8 y9 y10 y11 y12 => K (X.normal) (fill f8_4_ex2 [.b y1, .i y2, .i y3, .i y4, .l y5, .l y6, .l y7, .l y8, .l y9, .l y10, .l y11, .l y12])) x1 x2 x3 x4 x5 x6 x7 x8 x9 x10 x11 := by kernel_rfl
theorem f8_4_lp_eq {R : Type} (N : Nat) (K : X → AS → Option R) : ∀ (n : Nat) (x1 : Int) (x2 : Int) (x3 : Int) (x4 : List Int) (x5 : List Int) (x6 : List Int) (x7 : List Int) (x8 : List Int) (x9 : List Int) (x10 : List Int) (x11 : List Int), roundsOf (E8 N) N8_4 4 B8_4 K n (fill f8_4_sh [.i x1, .i x2, .i x3, .l x4, .l x5, .l x6, .l x7, .l x8, .l x9, .l x10, .l x11]) = f8_4_lp N (fun y1 y2 y3 y4 y5 y6 y7 y8 y9 y10 y11 y12 y13 y14 y15 => K (X.ret) (fill f8_4_ex1 [.b y1, .b y2, .b y3, .i y4, .i y5, .i y6, .l y7, .l y8, .l y9, .l y10, .l y11, .l y12, .l y13, .l y14, .l y15])) (fun y1 y2 y3 y4 y5 y6 y7 y8 y9 y10 y11 y12 => K (X.normal) (fill f8_4_ex2 [.b y1, .i y2, .i y3, .i y4, .l y5, .l y6, .l y7, .l y8, .l y9, .l y10, .l y11, .l y12])) n x1 x2 x3 x4 x5 x6 x7 x8 x9 x10 x11
  | 0, _, _, _, _, _, _, _, _, _, _, _ => rfl
  | n + 1, x1, x2, x3, x4, x5, x6, x7, x8, x9, x10, x11 => by
    rw [f8_4_st_eq, f8_4_lp, show (fun x1 x2 x3 x4 x5 x6 x7 x8 x9 x10 x11 => roundsOf (E8 N) N8_4 4 B8_4 K n (fill f8_4_sh [.i x1, .i x2, .i x3, .l x4, .l x5, .l x6, .l x7, .l x8, .l x9, .l x10, .l x11])) = f8_4_lp N (fun y1 y2 y3 y4 y5 y6 y7 y8 y9 y10 y11 y12 y13 y14 y15 => K (X.ret) (fill f8_4_ex1 [.b y1, .b y2, .b y3, .i y4, .i y5, .i y6, .l y7, .l y8, .l y9, .l y10, .l y11, .l y12, .l y13, .l y14, .l y15])) (fun y1 y2 y3 y4 y5 y6 y7 y8 y9 y10 y11 y12 => K (X.normal) (fill f8_4_ex2 [.b y1, .i y2, .i y3, .i y4, .l y5, .l y6, .l y7, .l y8, .l y9, .l y10, .l y11, .l y12])) n from by funext x1 x2 x3 x4 x5 x6 x7 x8 x9 x10 x11; exact f8_4_lp_eq N K n x1 x2 x3 x4 x5 x6 x7 x8 x9 x10 x11]
theorem f8_4_ok (N : Nat) (hlp : LoopsOk Try.prog (E8 N).lp B8_4) (hΓ : CtxOk Try.prog (E8 N).Γ) : LoopOk Try.prog (mkL N8_4 f8_4_sh (f8_4_F N)) 4 B8_4 := by
  refine loopOk_of (E := E8 N) thOk hΓ mixed hlp ?_
  intro R ls K r h
  unfold f8_4_F at h
  split at h
  · exact ⟨N, by rw [f8_4_lp_eq]; exact h⟩
  · cases h
theorem f8_2_st_eq {R : Type} (N : Nat) (K : X → AS → Option R) (n : Nat) (x1 : Int) (x2 : Int) (x3 : List Int) (x4 : List Int) (x5 : List Int) (x6 : List Int) (x7 : List Int) (x8 : List Int) (x9 : List Int) (x10 : List Int) : roundsOf (E8 N) N8_2 2 B8_2 K (n + 1) (fill f8_2_sh [.i x1, .i x2, .l x3, .l x4, .l x5, .l x6, .l x7, .l x8, .l x9, .l x10]) = f8_2_st N (fun x1 x2 x3 x4 x5 x6 x7 x8 x9 x10 => roundsOf (E8 N) N8_2 2 B8_2 K n (fill f8_2_sh [.i x1, .i x2, .l x3, .l x4, .l x5, .l x6, .l x7, .l x8, .l x9, .l x10])) (fun y1 y2 y3 y4 y5 y6 y7 y8 y9 y10 y11 y12 y13 y14 y15 => K (X.ret) (fill f8_2_ex1 [.b y1, .b y2, .b y3, .i y4, .i y5, .i y6, .l y7, .l y8, .l y9, .l y10, .l y11, .l y12, .l y13, .l y14, .l y15])) (fun y1 y2 y3 y4 y5 y6 y7 y8 y9 y10 y11 => K (X.normal) (fill f8_2_ex2 [.b y1, .i y2, .i y3, .l y4, .l y5, .l y6, .l y7, .l y8, .l y9, .l y10, .l y11])) x1 x2 x3 x4 x5 x6 x7 x8 x9 x10 := by kernel_rfl
theorem f8_2_lp_eq {R : Type} (N : Nat) (K : X → AS → Option R) : ∀ (n : Nat) (x1 : Int) (x2 : Int) (x3 : List Int) (x4 : List Int) (x5 : List Int) (x6 : List Int) (x7 : List Int) (x8 : List Int) (x9 : List Int) (x10 : List Int), roundsOf (E8 N) N8_2 2 B8_2 K n (fill f8_2_sh [.i x1, .i x2, .l x3, .l x4, .l x5, .l x6, .l x7, .l x8, .l x9, .l x10]) = f8_2_lp N (fun y1 y2 y3 y4 y5 y6 y7 y8 y9 y10 y11 y12 y13 y14 y15 => K (X.ret) (fill f8_2_ex1 [.b y1, .b y2, .b y3, .i y4, .i y5, .i y6, .l y7, .l y8, .l y9, .l y10, .l y11, .l y12, .l y13, .l y14, .l y15])) (fun y1 y2 y3 y4 y5 y6 y7 y8 y9 y10 y11 => K (X.normal) (fill f8_2_ex2 [.b y1, .i y2, .i y3, .l y4, .l y5, .l y6, .l y7, .l y8, .l y9, .l y10, .l y11])) n x1 x2 x3 x4 x5 x6 x7 x8 x9 x10
  | 0, _, _, _, _, _, _, _, _, _, _ => rfl
  | n + 1, x1, x2, x3, x4, x5, x6, x7, x8, x9, x10 => by
    rw [f8_2_st_eq, f8_2_lp, show (fun x1 x2 x3 x4 x5 x6 x7 x8 x9 x10 => roundsOf (E8 N) N8_2 2 B8_2 K n (fill f8_2_sh [.i x1, .i x2, .l x3, .l x4, .l x5, .l x6, .l x7, .l x8, .l x9, .l x10])) = f8_2_lp N (fun y1 y2 y3 y4 y5 y6 y7 y8 y9 y10 y11 y12 y13 y14 y15 => K (X.ret) (fill f8_2_ex1 [.b y1, .b y2, .b y3, .i y4, .i y5, .i y6, .l y7, .l y8, .l y9, .l y10, .l y11, .l y12, .l y13, .l y14, .l y15])) (fun y1 y2 y3 y4 y5 y6 y7 y8 y9 y10 y11 => K (X.normal) (fill f8_2_ex2 [.b y1, .i y2, .i y3, .l y4, .l y5, .l y6, .l y7, .l y8, .l y9, .l y10, .l y11])) n from by funext x1 x2 x3 x4 x5 x6 x7 x8 x9 x10; exact f8_2_lp_eq N K n x1 x2 x3 x4 x5 x6 x7 x8 x9 x10]
theorem f8_2_ok (N : Nat) (hlp : LoopsOk Try.prog (E8 N).lp B8_2) (hΓ : CtxOk Try.prog (E8 N).Γ) : LoopOk Try.prog (mkL N8_2 f8_2_sh (f8_2_F N)) 2 B8_2 := by
  refine loopOk_of (E := E8 N) thOk hΓ mixed hlp ?_
  intro R ls K r h
  unfold f8_2_F at h
  split at h
  · exact ⟨N, by rw [f8_2_lp_eq]; exact h⟩
  · cases h

theorem lok8_4 (N : Nat) (hΓ : CtxOk Try.prog GL8) : LoopOk Try.prog (mkL N8_4 f8_4_sh (f8_4_F N)) 4 B8_4 := f8_4_ok N (loopsOk_of (l := []) (by kernel_rfl) trivial) hΓ
theorem lok8_2 (N : Nat) (hΓ : CtxOk Try.prog GL8) : LoopOk Try.prog (mkL N8_2 f8_2_sh (f8_2_F N)) 2 B8_2 := f8_2_ok N (loopsOk_of (l := [(4, B8_4)]) (by kernel_rfl) (allOk_cons (L := mkL N8_4 f8_4_sh (f8_4_F N)) rfl (lok8_4 N hΓ) trivial)) hΓ
theorem lok8_0 (N : Nat) (hΓ : CtxOk Try.prog GL8) : LoopOk Try.prog (mkL N8_0 f8_0_sh (f8_0_F N)) 0 B8_0 := f8_0_ok N (loopsOk_of (l := []) (by kernel_rfl) trivial) hΓ
theorem f8_loops (N : Nat) (hΓ : CtxOk Try.prog GL8) : LoopsOk Try.prog (E8 N).lp B8 := loopsOk_of (l := [(0, B8_0), (2, B8_2), (4, B8_4)]) (by kernel_rfl) (allOk_cons (L := mkL N8_0 f8_0_sh (f8_0_F N)) rfl (lok8_0 N hΓ) (allOk_cons (L := mkL N8_2 f8_2_sh (f8_2_F N)) rfl (lok8_2 N hΓ) (allOk_cons (L := mkL N8_4 f8_4_sh (f8_4_F N)) rfl (lok8_4 N hΓ) trivial)))
theorem f8_raw_eq {R : Type} (N : Nat) (s : List Int) (x : List Int) (k : List DV → Option R) : exec (E8 N) B8 (start8 165 s x) (retK Th { ps := [], rs := [.val] } [] R8 k) = f8_raw N s x k := by kernel_rfl
end Go.Proofs.Ytogcijgklnfjjaa

namespace Go.Proofs.Ytogcijgklnfjjaa
open Go Go.Eng
set_option maxRecDepth 100000
set_option linter.unusedVariables false

theorem idsS_succ (s : List Int) (i : Nat) : idsS s (i + 1) = idsS s i ++ [shId s i] := rfl
theorem f8_ids {R : Type} {N : Nat} (k1 : Bool → Int → List Int → List Int → List Int → Option R) {s x : List Int} {n : Nat} (hn : s.length / 33 = n) (hb : n ≤ 1048576) :
    ∀ j i : Nat, i + j = n → ∀ fuel, j < fuel → f8_0_lp N k1 fuel (i : Int) (idsS s i) s x = k1 false (n : Int) (idsS s n) s x := by
  have hr : nI (rowLen 33 s) = (n : Int) := by show ((s.length / 33 : Nat) : Int) = _; rw [hn]
  intro j
  induction j with
  | zero =>
    intro i h fuel hf
    obtain ⟨f, rfl⟩ : ∃ f, fuel = f + 1 := ⟨fuel - 1, by omega⟩
    show f8_0_st N (f8_0_lp N _ f) _ _ _ _ _ = _
    unfold f8_0_st
    rw [hr, ltF (by omega), cond_false, show i = n by omega]
  | succ j ih =>
    intro i h fuel hf
    obtain ⟨f, rfl⟩ : ∃ f, fuel = f + 1 := ⟨fuel - 1, by omega⟩
    show f8_0_st N (f8_0_lp N _ f) _ _ _ _ _ = _
    unfold f8_0_st
    have e1 : (zerosOf (1 * 1)).set 0 (s.getD (Int.toNat (i : Int) * 33 + (0 + 0)) 0) = [shId s i] := rfl
    have e2 : rowLen 1 (idsS s i) = i := idsS_len s i
    have e3 : rowLen 1 [shId s i] = 1 := rfl
    have hle : (Nat.ble ((2 * (i + 1) + 192) * 8) big48 && Nat.ble (i + 1) big48) = true := by
      rw [Bool.and_eq_true, Nat.ble_eq, Nat.ble_eq]; unfold big48; omega
    rw [hr, ltT (show i < n by omega), ge0, e1]
    dsimp only
    rw [e2, e3, hle, wAdd (by omega), ← idsS_succ]
    simp only [Bool.and_self, cond_true]
    exact ih (i + 1) (by omega) f (by omega)
theorem idxE_self {xs : List Int} (hn : ∀ a b, a < b → b < xs.length → xs.getD a 0 ≠ xs.getD b 0) {i : Nat} (hi : i < xs.length) : ∀ j k : Nat, k + j = xs.length → k ≤ i → idxE xs (xs.getD i 0) j k = (i : Int)
  | 0, k, h, hk => by omega
  | j + 1, k, h, hk => by
    unfold idxE
    by_cases e : k = i
    · subst e; rw [beq_self_eq_true, cond_true]
    · have := hn k i (by omega) hi
      rw [show (xs.getD i 0 == xs.getD k 0) = false by simpa using fun e2 => this e2.symm, cond_false]
      exact idxE_self hn hi j (k + 1) (by omega) (by omega)
theorem bas_at {X : Nat → Nat} (hX : LtE X) {n i k : Nat} (hi : i < n) (hk : k < n) (hd : ∀ i j, i < j → j < n → X i ≠ X j) : basG X (X k) n i = if i = k then 1 else 0 := by
  apply q_inj (basG_lt _ _ _ _) (by split; exact one_lt_ell; exact ell_pos)
  rw [basG_q hX]
  by_cases e : i = k
  · subst e
    rw [if_pos rfl, q_one]
    exact qi_mul (prx_ne (X := fun i => q (X i)) n 0 fun l h1 h2 h3 => by
        rcases Nat.lt_or_gt_of_ne h3 with h4 | h4
        · exact (q_ne (hX l) (hX i) (hd l i h4 hi)).symm
        · exact q_ne (hX i) (hX l) (hd i l h4 (by omega)))
  · rw [if_neg e, q_zero]
    have hz : prx (fun i => q (X i)) i (q (X k)) n 0 = 0 := prx_zero (X := fun i => q (X i)) (fun e2 => e e2.symm) n 0 (by omega) (by omega)
    rw [hz]; grind
noncomputable def sumW (f : Nat → Nat) : Nat → Nat
  | 0 => 0
  | i + 1 => addN (sumW f i) (f i)
noncomputable def secW (f Y : Nat → Nat) : Nat → Nat
  | 0 => 0
  | i + 1 => addN (mulN (f i) (Y i)) (secW f Y i)
theorem sumW_lt (f : Nat → Nat) : ∀ n, sumW f n < ell
  | 0 => ell_pos
  | n + 1 => addN_lt _ _
theorem secW_lt (f Y : Nat → Nat) : ∀ n, secW f Y n < ell
  | 0 => ell_pos
  | n + 1 => addN_lt _ _
theorem secW_val (X Y : Nat → Nat) (v n : Nat) : ∀ m, secW (basG X v n) Y m = valG X Y v n m
  | 0 => rfl
  | m + 1 => by
    show addN (mulN (basG X v n m) (Y m)) (secW (basG X v n) Y m) = addN (valG X Y v n m) (mulN (basG X v n m) (Y m))
    rw [secW_val X Y v n m]
    apply q_inj (addN_lt _ _) (addN_lt _ _)
    rw [q_add, q_add]; grind
theorem sumW_val (X : Nat → Nat) (v n : Nat) : ∀ m, q (sumW (basG X v n) m) = q (valG X (fun _ => 1) v n m)
  | 0 => rfl
  | m + 1 => by
    show q (addN (sumW (basG X v n) m) (basG X v n m)) = q (addN (valG X (fun _ => 1) v n m) (mulN (basG X v n m) 1))
    rw [q_add, q_add, q_mul, sumW_val X v n m, q_one]; grind
theorem ev_const : ∀ (n : Nat) (x : Q), ev (n + 1) (fun j => if j = 0 then 1 else 0) x = 1 := fun n x => by
  show (1 : Q) + x * ev n (fun i => if i + 1 = 0 then 1 else 0) x = 1
  have : ev n (fun i => if i + 1 = 0 then (1 : Q) else 0) x = 0 := (ev_congr (d := fun _ => 0) fun i hi => by rw [if_neg (by omega)]).trans (ev_zero n x)
  rw [this]; grind
theorem sum_one {X : Nat → Nat} (hX : LtE X) {n : Nat} (h1 : 1 ≤ n) (v : Nat) (hd : ∀ i j, i < j → j < n → X i ≠ X j) : sumW (basG X v n) n = 1 := by
  apply q_inj (sumW_lt _ _) one_lt_ell
  obtain ⟨m, rfl⟩ : ∃ m, n = m + 1 := ⟨n - 1, by omega⟩
  rw [sumW_val, (val_of (c := fun j => if j = 0 then 1 else 0) hX (fun _ => one_lt_ell) hd fun l hl => by rw [ev_const, q_one]).2 v, ev_const, q_one]

theorem f8_in {R : Type} {N : Nat} (k1 : Bool → Bool → Bool → Int → Int → Int → List Int → List Int → List Int → List Int → List Int → List Int → List Int → List Int → List Int → Option R) (k2 : Bool → Int → Int → Int → List Int → List Int → List Int → List Int → List Int → List Int → List Int → List Int → Option R) {ids : List Int} {n i : Nat} {e : Int} {a4 a5 a6 a7 a8 a9 a10 : List Int} (hid : idsN ids = 0) (hn : ids.length = n) (hi : i < n) :
    ∀ j k : Nat, k + j = n → ∀ fuel, j < fuel → f8_4_lp N k1 k2 fuel e (i : Int) (k : Int) a4 a5 a6 a7 a8 a9 a10 ids = k2 false e (i : Int) (n : Int) a4 a5 a6 a7 a8 a9 a10 ids := by
  have hI := ids_ok hid
  have hle := hI.le
  have hix : idxE ids (ids.getD i 0) ids.length 0 = (i : Int) := idxE_self hI.ne (by omega) _ _ (by omega) (by omega)
  intro j
  induction j with
  | zero =>
    intro k h fuel hf
    obtain ⟨f, rfl⟩ : ∃ f, fuel = f + 1 := ⟨fuel - 1, by omega⟩
    show f8_4_st N (f8_4_lp N _ _ f) _ _ _ _ _ _ _ _ _ _ _ _ _ = _
    unfold f8_4_st
    rw [rows1, hn, ltF (by omega), cond_false, show k = n by omega]
  | succ j ih =>
    intro k h fuel hf
    obtain ⟨f, rfl⟩ : ∃ f, fuel = f + 1 := ⟨fuel - 1, by omega⟩
    show f8_4_st N (f8_4_lp N _ _ f) _ _ _ _ _ _ _ _ _ _ _ _ _ = _
    unfold f8_4_st
    have m1 : ∀ l : Nat, mulE (Int.toNat (l : Int)) 1 = l := fun _ => rfl
    have hp : plN (ids.getD k 0) = plF ids k := rfl
    rw [m1, m1, hix, hp, vS_sN (plF_lt ids k), okB_sN, rows1, Nat.ble_eq_true_of_le (show ids.length ≤ 1073741823 by omega), decide_eq_true hid, hn, ltT (show k < n by omega), ltT (show i < n by omega), ge0, ge0, Int.toNat_natCast, bas_at (plF_lt ids) hi (show k < n by omega) (fun a b h1 h2 => hI.pl a b h1 (by omega)), decide_eq_false (show ¬ ((i : Int) < 0) by omega), wAdd (by omega), one_sN, ← zS_eq, b_zero']
    simp only [Bool.and_self, cond_true, cond_false]
    by_cases e : i = k
    · subst e
      rw [if_pos rfl]
      simp only [decide_true, beq_self_eq_true, Bool.not_true, cond_false, bne_self_eq_false]
      cases hq : decide (sN 1 = sN 0) with
      | true => simp only [Bool.not_true, cond_false]; exact ih (i + 1) (by omega) f (by omega)
      | false => simp only [Bool.not_false, cond_true, cond_false]; exact ih (i + 1) (by omega) f (by omega)
    · rw [if_neg e, decide_eq_false (fun h => by have := sN_inj1 ell_pos one_lt_ell h; omega), show ((i : Int) == (k : Int)) = false by simp; omega]
      simp only [decide_true, beq_self_eq_true, Bool.not_true, cond_false]
      exact ih (k + 1) (by omega) f (by omega)
theorem f8_out {R : Type} {N : Nat} (k1 : Bool → Bool → Bool → Int → Int → Int → List Int → List Int → List Int → List Int → List Int → List Int → List Int → List Int → List Int → Option R) (k2 : Bool → Int → Int → List Int → List Int → List Int → List Int → List Int → List Int → List Int → List Int → Option R) {s x z ids : List Int} {n : Nat} {e : Int} (hs : okS s = true) (hx : okB x = true) (hsn : s.length / 33 = n) (hid : idsN ids = 0) (hn : ids.length = n) (hN : n < N) :
    ∀ j i : Nat, i + j = n → ∀ fuel, j < fuel →
      f8_2_lp N k1 k2 fuel e (i : Int) s x z (sN (sumW (basG (plF ids) 0 n) i)) (sN (secW (basG (plF ids) 0 n) (fun i => vS (shV s i)) i)) (sN (sumW (basG (plF ids) (vS x) n) i)) (arrN (basG (plF ids) 0 n) n) ids =
      k2 false e (n : Int) s x z (sN (sumW (basG (plF ids) 0 n) n)) (sN (secW (basG (plF ids) 0 n) (fun i => vS (shV s i)) n)) (sN (sumW (basG (plF ids) (vS x) n) n)) (arrN (basG (plF ids) 0 n) n) ids := by
  have hI := ids_ok hid
  have hle := hI.le
  intro j
  induction j with
  | zero =>
    intro i h fuel hf
    obtain ⟨f, rfl⟩ : ∃ f, fuel = f + 1 := ⟨fuel - 1, by omega⟩
    show f8_2_st N (f8_2_lp N _ _ f) _ _ _ _ _ _ _ _ _ _ _ _ = _
    unfold f8_2_st
    rw [arr_rows, ltF (by omega), cond_false, show i = n by omega]
  | succ j ih =>
    intro i h fuel hf
    obtain ⟨f, rfl⟩ : ∃ f, fuel = f + 1 := ⟨fuel - 1, by omega⟩
    have hin : i < n := by omega
    show f8_2_st N (f8_2_lp N _ _ f) _ _ _ _ _ _ _ _ _ _ _ _ = _
    unfold f8_2_st
    have m1 : ∀ l : Nat, mulE (Int.toNat (l : Int)) 1 = l := fun _ => rfl
    have hr : nI (rowLen 33 s) = (n : Int) := by show ((s.length / 33 : Nat) : Int) = _; rw [hsn]
    have e1 : List.take 32 (List.drop (Int.toNat (i : Int) * 33 + (0 + 1)) s) = shV s i := rfl
    have hix : idxE ids (ids.getD i 0) ids.length 0 = (i : Int) := idxE_self hI.ne (by omega) _ _ (by omega) (by omega)
    rw [arr_rows, hr, m1, toN, hix, rows1, Nat.ble_eq_true_of_le (show ids.length ≤ 1073741823 by omega), decide_eq_true hid, hn, ltT hin, ge0, e1, (okS_n hs).2.2 i (by omega), arr_el _ hin, hx, okB_sN, okB_sN, okB_sN, okB_sN, okB_sN, Int.toNat_natCast, vS_sN (basG_lt _ _ _ _), vS_sN (basG_lt _ _ _ _), vS_sN (sumW_lt _ _), vS_sN (sumW_lt _ _), vS_sN (secW_lt _ _ _), decide_eq_false (show ¬ ((i : Int) < 0) by omega)]
    simp only [Bool.and_self, cond_true, cond_false]
    refine (f8_in (n := n) _ _ hid hn hin n 0 (by omega) N hN).trans ?_
    rw [wAdd (by omega)]
    exact ih (i + 1) (by omega) f (by omega)
theorem f8_true {s x : List Int} {n : Nat} (hs : okS s = true) (hx : okB x = true) (hl : s.length = n * 33) (hb : n ≤ 1048576) : f8_raw (n + 2) s x some = some [.v (.one (.bool true))] := by
  have hsn : s.length / 33 = n := by omega
  have e0 : ids33 s = idsS s n := by unfold ids33; rw [hsn]
  have hl1 := idsS_len s n
  unfold f8_raw
  refine (f8_ids (N := n + 2) _ hsn hb n 0 (by omega) (n + 2) (by omega)).trans ?_
  rw [hl1, Nat.ble_eq_true_of_le (show n ≤ 1073741823 by omega), Nat.ble_eq_true_of_le (show n ≤ 1073741824 by omega), hs, okB_z, e0, hsn]
  simp only [Bool.and_self, cond_true]
  by_cases hid : idsN (idsS s n) = 0
  · rw [decide_eq_true hid]
    simp only [cond_true]
    have hI := ids_ok hid
    have hpos := hI.pos
    rw [hl1] at hpos
    have hd : ∀ a b, a < b → b < n → plF (idsS s n) a ≠ plF (idsS s n) b := fun a b h1 h2 => hI.pl a b h1 (by omega)
    have hv : valG (pX (P33 s)) (pY (P33 s)) 0 n n = secW (basG (plF (idsS s n)) 0 n) (fun i => vS (shV s i)) n := by
      rw [secW_val]
      have hp : ∀ i, i < n → pX (P33 s) i = plF (idsS s n) i ∧ pY (P33 s) i = vS (shV s i) := fun i hi => by
        have := pts_x hs (i := i) (by omega)
        rw [hsn] at this
        unfold P33; rw [hsn]; exact this
      exact valG_congr (fun j hj => (hp j hj).1) (fun j hj => (hp j hj).2) n (Nat.le_refl _)
    rw [vS_z, hv]
    have hz : List.replicate 32 (0 : Int) = sN 0 := b_zero'
    rw [one_sN, hz]
    refine (f8_out (N := n + 2) _ _ hs hx hsn hid hl1 (by omega) n 0 (by omega) (n + 2) (by omega)).trans ?_
    rw [arr_rows, rows1, hl1, sum_one (plF_lt _) hpos 0 hd, sum_one (plF_lt _) hpos (vS x) hd]
    simp only [decide_true, beq_self_eq_true, cond_true]
  · rw [decide_eq_false hid, show (idsN (idsS s n) != 0) = true by simpa using hid]
    simp only [cond_true, cond_false, beq_self_eq_true]
end Go.Proofs.Ytogcijgklnfjjaa

namespace Go.Proofs.Ytogcijgklnfjjaa
open Go Go.Eng Go.ChangeShapes Go.WideShapes Go.RowKit Go.ChangeAt
set_option maxRecDepth 100000

theorem contract8 (H : Type) (enc : TypeId × Value → H) (W : World) (base : Nat) (args : Array Value) (ds gs : List (DataW H)) (before : List MemPlace)
    (hval : ∀ (j : Nat) t v, Try.f8.params[j]? = some t → args[j]? = some v → Value.okWide Try.prog W .any base t v)
    (hW : DataW.Whole enc Try.prog Try.f8.params.toList Rows.shamirOnesSpec.vars false W args.toList ds gs before) (hk : Rows.uptoSmall H (ds ++ gs) = true) :
    Calls Try.prog 8 args W fun e W' => ∃ v, e = .returned v ∧ Rows.shamirOnesSpec.post enc Try.prog Try.f8 false true false false W args v W' := by
  have hW' := hW
  obtain ⟨p, q, hA, hV, rfl, hfz, hnd⟩ := hW
  obtain ⟨rfl, rfl⟩ := trodVars_none hV
  rw [Try.params8] at hA hval
  obtain ⟨v0, vs0, d0, ds0, p0, q0, hargs, rfl, rfl, h0, r0⟩ := trodAll_cons hA
  obtain ⟨v1, vs1, d1, ds1, p1, q1, rfl, rfl, rfl, h1, r1⟩ := trodAll_cons r0
  obtain ⟨rfl, rfl, rfl⟩ := trodAll_nil r1
  obtain rfl : args = #[v0, v1] := by cases args; simp_all
  have hb := bulk_bound hk
  simp only [List.append_nil, Rows.uptoBulkAll, Nat.add_zero] at hb
  obtain ⟨A0, n0, c0, rfl⟩ := okWide_slice Try.underlying39 (hval 0 39 v0 rfl rfl)
  obtain ⟨f0, h0⟩ := h0
  obtain ⟨x0, len0, cap0, Ad0, loc0, o01, o02, l0, o04, o05, o06, w0, o08⟩ := open_viewM (l := ck43) (es := 33) Try.underlying39 (by omega) (elSh H enc) h0
  have b0 : len0 ≤ Rows.uptoBulk d0 := bulk_slice o08
  obtain ⟨x1, rfl, l1, w1⟩ := open_arr Try.underlying30 Try.underlying5 (by kernel_rfl) (by kernel_rfl) (hval 1 30 v1 rfl rfl) h1
  have hs : Sim W { blk := fun _ => False, loc := ({ loc := locOf [(0, loc0)], tot := fun _ => 0 } : Rho).loc, tot := ({ loc := locOf [(0, loc0)], tot := fun _ => 0 } : Rho).tot, sh := (start8 165 x0 x1).S, out := ({ loc := locOf [(0, loc0)], tot := fun _ => 0 } : Rho).out } ({ loc := locOf [(0, loc0)], tot := fun _ => 0 } : Rho) (start8 165 x0 x1) { tmps := #[.slice A0 n0 c0, .agg (x1.map (Value.int .u8)).toArray] ++ Array.replicate (165 - 2) undef, defers := [] } W := by
    refine sim_startD (s0 := start8 165 x0 x1) (ρ := { loc := locOf [(0, loc0)], tot := fun _ => 0 }) (args := #[.slice A0 n0 c0, .agg (x1.map (Value.int .u8)).toArray]) (n := 165) (avs := [.s (.one (.own 0)), .s (.one (.ints .u8 32 x1))]) rfl (by simp) rfl ?_ ?_ ?_ (fun b hb => hb.elim) ⟨(show RelAt ({ loc := locOf [(0, loc0)], tot := fun _ => 0 } : Rho) (start8 165 x0 x1).S (.own 0) [Value.slice A0 n0 c0] from rel_own rfl o01 o02 l0 o05 (by omega) rfl), ⟨rfl, l1⟩, trivial⟩
    · simp [start8, Nodup', putNames]
    · intro j it hi
      simp only [start8, AS.I, findI_cons] at hi
      split at hi
      · rename_i hj; subst hj; injection hi with hi; subst hi
        exact ⟨rfl, ⟨by omega, rfl⟩, ⟨len0, l0⟩, o04⟩
      ·
        simp [findI] at hi
    · intro j p hp
      simp only [locOf] at hp
      split at hp
      · exact o06 p hp
      ·
        cases hp
  have he := f8_true (okS_row (by omega) l0 w0) (okB_row l1 w1) l0 (by omega)
  rw [← f8_raw_eq] at he
  refine (law_calls thOk GL8_ok mixed ok8 (f8_loops _ GL8_ok) (fun _ => id) hs he).mono fun e W' ⟨h1, h2, h3, h4⟩ => ?_
  exact ⟨_, h1, post_of_law laidOut (by kernel_rfl) Try.underlying4 rfl (by rw [Try.params8]; intro t ht; simp only [List.mem_cons, List.not_mem_nil, or_false] at ht; rcases ht with rfl | rfl <;> exact ⟨by kernel_rfl, by decide +kernel⟩) ⟨rfl, rfl, rfl⟩ hW' h2 h3 h4⟩

theorem lifted8 (os : Os) (started : os.Started) (H : Type) (enc : TypeId × Value → H) (F : Stop.Interp) :
    ReturnsInHanded {} Try.checked os 8 .any ((Rows.OpenSpec.upto Rows.shamirOnesSpec).pre6 enc Try.prog Try.f8 Rows.shamirOnesUptoRow.domain false) (((Rows.OpenSpec.upto Rows.shamirOnesSpec).at F).post enc Try.prog Try.f8 false true false false) := by
  refine returnsInHanded_of_cond (C := Try.checked) (s := Rows.OpenSpec.upto Rows.shamirOnesSpec) (k := Rows.uptoSmall) rfl own0 started (by kernel_rfl) Try.func8
    (OpenSpec.witness (enc := enc) (C := Try.checked) (s := Rows.OpenSpec.upto Rows.shamirOnesSpec) (k := Rows.uptoSmall) rfl false ⟨#[], #[.slice none 0 0, .agg (Array.mk (List.replicate 32 (Value.int .u8 0)))], []⟩ 8 (by kernel_rfl) (by kernel_rfl) (by kernel_rfl)
      (x := ([.nil, .agg (List.replicate 32 (.lit (.int .u8 0)))], [], [])) (by kernel_rfl) rfl (by kernel_rfl)) ?_
  intro W base args ds gs before hval hW _ hk _
  exact contract8 H enc W base args ds gs before hval hW hk

theorem over8 : Rows.shamirOnesUptoRow.holds Try.pinned (Rows.OpenSpec.upto Rows.shamirOnesSpec) :=
  OpenClaim.holds_of_cond 8 Try.f8 rfl rfl rfl rfl rfl rfl rfl ⟨rfl, rfl, rfl, rfl, rfl⟩ rfl rfl rfl rfl rfl (by kernel_rfl) Try.func8 (by kernel_rfl)
    (of_decide_eq_true (by kernel_rfl)) (by unfold Func.isWrapper; first | (rw [if_pos (by decide +kernel)]; kernel_rfl) | (rw [if_neg (by decide +kernel)]; exact ⟨rfl, rfl⟩))
    (fun os started H enc _ F => lifted8 os started H enc F)

theorem shamirOnes_holds : Rows.ShamirOnesUptoSaid := over8
end Go.Proofs.Ytogcijgklnfjjaa

#print axioms Go.Proofs.Ytogcijgklnfjjaa.shamirOnes_holds
