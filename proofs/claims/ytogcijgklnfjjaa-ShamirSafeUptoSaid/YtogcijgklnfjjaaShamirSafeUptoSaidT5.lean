/- ShamirSafe: the secret is safe: for any shares, secret and other polynomial whose data stay within 1,048,576: one polynomial has both, and no other. -/
import Derived.Test.YtogcijgklnfjjaaShamirSafeUptoSaidT4
import Derived.Test.YtogcijgklnfjjaaRows
import Derived.JoinedCond
import Derived.WalkKit
import Derived.ProofKit
set_option linter.unusedVariables false
set_option linter.unusedSimpArgs false

namespace Go.Eng
open Go

def svAVs : List SV → List AV
  | [] => []
  | v :: l => .s v :: svAVs l

def retN {R : Type} (Θ : Types) (np : Nat) (rv : List ResultVar) (k : List DV → Option R) (e : X) (s : AS) : Option R :=
  match e with
  | .exit _ => none
  | _ => match Nat.beq s.lo np with
   | false => none
   | true => match resSV Θ s rv with
    | some vs => k [.fr (svAVs vs) s.items]
    | none => none

def callN {R : Type} (E : Env) (np n : Nat) (body : Code) (rv : List ResultVar) (ds : List DV) (k : List DV → Option R) : Option R :=
  match ds with
  | [.fr avs its] => match Nat.beq avs.length np && Nat.ble np n with
    | true => exec E body { n := n, lo := np, tmps := numT 0 avs, items := its } (retN E.Θ np rv k)
    | false => none
  | _ => none

theorem svAVs_length : ∀ {l : List SV}, (svAVs l).length = l.length
  | [] => rfl
  | _ :: l => by simp [svAVs, svAVs_length (l := l)]
theorem svAVs_get : ∀ {l : List SV} {t : Nat}, (svAVs l)[t]? = (l[t]?).map AV.s
  | [], t => rfl
  | v :: l, 0 => rfl
  | v :: l, t + 1 => by simp [svAVs, svAVs_get (l := l)]

theorem inl_contract {P : Program} {E : Env} (hΘ : TypesOk P E.Θ) (hΓ : CtxOk P E.Γ) (hm : P.follows .mixedOrders = true) {g n np : Nat} {fn : Func} {body : Code} {rv : List ResultVar} (ok : FnOk P g fn n body rv) (hlp : LoopsOk P E.lp body) :
    Contract P g { sig := { ps := [], rs := [] }, impl := fun _ ds k => callN E np n body rv ds k, kind := .inl np } := by
  intro R ds k r h
  simp only at h
  unfold callN at h
  split at h
  · rename_i avs its
    split at h
    · rename_i hnp
      rw [Bool.and_eq_true] at hnp
      have hlen := beqT hnp.1
      have hle := ble_iff.1 hnp.2
      obtain ⟨e, s', h1, h2⟩ := (exec_sound hΘ hΓ hm body hlp).1 _ _ _ h
      have key : ∃ vs, (∀ i, e ≠ .exit i) ∧ resSV E.Θ s' rv = some vs ∧ k [.fr (svAVs vs) s'.items] = some r ∧ s'.lo = np := by
        unfold retN at h1
        split at h1
        · cases h1
        · rename_i he
          split at h1
          · cases h1
          · rename_i hlo
            split at h1
            · rename_i vs hvs
              exact ⟨vs, fun i h => he i h, hvs, h1, beqT hlo⟩
            · cases h1
      obtain ⟨vs, he, hvs, hk, hlo⟩ := key
      refine ⟨_, hk, ?_⟩
      intro avs' its' e1
      injection e1 with e1 _; injection e1 with e1 e2; subst e1; subst e2
      refine ⟨_, _, rfl, fun w Mu ρ xs hxl hs0 => ⟨⟨fn, ok.look, by rw [ok.body]; rfl, ok.name⟩, ?_⟩⟩
      have hn := ok.n
      subst hn
      refine calls_of_wp ok.look ok.body ?_
      have hs1 : Sim w Mu ρ { n := fn.ntmps, lo := np, tmps := numT 0 avs, items := its } { tmps := xs.toArray ++ Array.replicate (fn.ntmps - xs.toArray.size) undef, defers := [] } w := by
        refine ⟨rfl, hs0.nd, by simp; omega, ?_, hs0.hold, hs0.own, hs0.sep, hs0.lt, hs0.mono, hs0.frame, hs0.pin, hs0.still, hs0.out, hs0.outp⟩
        intro t
        have hr := hs0.rel t
        by_cases ht : t < xs.length
        · have e : (xs.toArray ++ Array.replicate (fn.ntmps - xs.toArray.size) undef).getD t undef = xs.toArray.getD t undef := by
            rw [Array.getD_eq_getD_getElem?, Array.getElem?_append_left (by simpa using ht), Array.getD_eq_getD_getElem?]
          show RelV ρ _ _ ((xs.toArray ++ Array.replicate (fn.ntmps - xs.toArray.size) undef).getD t undef)
          rw [e]; exact hr
        · have e : AS.T { n := fn.ntmps, lo := np, tmps := numT 0 avs, items := its } t = .s (.one .dead) := by
            show findT t (numT 0 avs) = _
            rw [numT_find avs 0 t (Nat.zero_le _), Nat.sub_zero, List.getElem?_eq_none (by omega)]; rfl
          rw [e]; exact relDead _ _ _
      refine reaches_iff.1 h2 w Mu ρ _ _ _ hs1 ?_
      intro a' w' ρ' hs
      obtain ⟨Xs, x1, x2, x3, x4⟩ := resSV_spec hΘ hs hvs
      have hpost : a'.defers = [] ∧ ∃ v, (results fn a'.tmps).run P w' = .ok v w' ∧ ∃ Xs ρ', Ending.returned v = .returned (resVal Xs) ∧ Xs.length = (svAVs vs).length ∧
          Sim w Mu ρ' { n := (svAVs vs).length, lo := np, tmps := numT 0 (svAVs vs), items := s'.items } { tmps := Xs.toArray, defers := [] } w' := by
        refine ⟨hs.defers, resVal Xs, results_eq fn _ _ (by rw [ok.rv]; exact x4), Xs, ρ', rfl, by rw [svAVs_length]; omega, ?_⟩
        refine ⟨rfl, hs.nd, by rw [svAVs_length]; simp; omega, ?_, hs.hold, hs.own, hs.sep, hs.lt, hs.mono, hs.frame, by rw [← hlo]; exact hs.pin, hs.still, hs.out, hs.outp⟩
        intro t
        show RelV ρ' _ (findT t (numT 0 (svAVs vs))) _
        rw [numT_find _ 0 t (Nat.zero_le _), Nat.sub_zero, svAVs_get]
        by_cases ht : t < vs.length
        · have hv := List.getElem?_eq_getElem ht
          have hX := List.getElem?_eq_getElem (l := Xs) (i := t) (by omega)
          have e : (Xs.toArray).getD t undef = Xs[t]'(by omega) := by
            rw [Array.getD_eq_getD_getElem?]; simp [hX]
          rw [hv]
          show RelV ρ' _ (.s vs[t]) ((Xs.toArray).getD t undef)
          rw [e]
          exact x3 t _ _ hv hX
        · rw [List.getElem?_eq_none (by omega)]; exact relDead _ _ _
      cases e with
      | normal => exact hpost
      | ret => exact hpost
      | exit i => exact absurd rfl (he i)
    · cases h
  · cases h

end Go.Eng

namespace Go.Proofs.Ytogcijgklnfjjaa
open Go Go.Eng
set_option maxRecDepth 100000
set_option linter.unusedVariables false

noncomputable def I43 : (R : Type) → List DV → (List DV → Option R) → Option R := fun _ ds k => match ds with
  | [.v (.one (.int .i64 x))] => k [.v (.one (.bool (decide (x ≥ 1) && decide (x ≤ 255))))]
  | _ => none
theorem c43 : Contract Try.prog 43 { sig := S43, impl := I43 } := by
  refine Contract.refine fun R ds k r h => ⟨_, f43_contract 0 ctxOk_nil, ?_⟩
  unfold I43 at h
  split at h
  · rename_i x
    rw [f43_raw_eq]
    unfold f43_raw
    cases h1 : decide (x ≥ 1) with
    | false => rw [h1] at h; exact h
    | true => rw [h1] at h; exact h
  · cases h
noncomputable def I12 : (R : Type) → List DV → (List DV → Option R) → Option R := fun _ ds k => match ds with
  | [.v (.one (.int .i64 x))] => k [.v (.one (.int .i64 x))]
  | _ => none
theorem c12 : Contract Try.prog 12 { sig := S12, impl := I12 } := by
  refine Contract.refine fun R ds k r h => ⟨_, f12_contract 0 ctxOk_nil, ?_⟩
  unfold I12 at h
  split at h
  · rw [f12_raw_eq]; exact h
  · cases h
noncomputable def GT1 : Ctx := (12, { sig := S12, impl := I12 }) :: (19, { sig := S19, impl := I19 }) :: (40, { sig := S40, impl := I40 }) :: (43, { sig := S43, impl := I43 }) :: GZ
theorem GT1_ok : CtxOk Try.prog GT1 := ctxOk_cons ok12 rfl c12 (ctxOk_cons ok19 rfl c19 (ctxOk_cons ok40 rfl c40 (ctxOk_cons ok43 rfl c43 GZ_ok)))
end Go.Proofs.Ytogcijgklnfjjaa

namespace Go.Proofs.Ytogcijgklnfjjaa
open Go Go.Eng
set_option maxRecDepth 100000
set_option linter.unusedVariables false

def f39_0_sh : Shp := { n := 29, lo := 1, slots := [(3, .one (.fix (At.mapv 9))), (10, .one (.fix (At.own 0))), (11, .one (.int IntKind.i64)), (12, .one (.int IntKind.i64))], items := [(0, .view (RK.one IntKind.i64) 1), (9, .mp (MK.int IntKind.i64) IntKind.i64)] }
def f39_0_ex1 : Shp := { n := 29, lo := 1, slots := [(2, .one (.int IntKind.i64)), (19, .one (.bool)), (5, .one (.int IntKind.i64)), (4, .one (.int IntKind.i64)), (13, .one (.bool)), (3, .one (.fix (At.mapv 9))), (10, .one (.fix (At.own 0))), (11, .one (.int IntKind.i64)), (12, .one (.int IntKind.i64))], items := [(0, .view (RK.one IntKind.i64) 1), (9, .mp (MK.int IntKind.i64) IntKind.i64)] }
def f39_0_ex2 : Shp := { n := 29, lo := 1, slots := [(2, .one (.int IntKind.i64)), (23, .one (.bool)), (19, .one (.bool)), (5, .one (.int IntKind.i64)), (4, .one (.int IntKind.i64)), (13, .one (.bool)), (3, .one (.fix (At.mapv 9))), (10, .one (.fix (At.own 0))), (11, .one (.int IntKind.i64)), (12, .one (.int IntKind.i64))], items := [(0, .view (RK.one IntKind.i64) 1), (9, .mp (MK.int IntKind.i64) IntKind.i64)] }
def f39_0_ex3 : Shp := { n := 29, lo := 1, slots := [(13, .one (.bool)), (3, .one (.fix (At.mapv 9))), (10, .one (.fix (At.own 0))), (11, .one (.int IntKind.i64)), (12, .one (.int IntKind.i64))], items := [(0, .view (RK.one IntKind.i64) 1), (9, .mp (MK.int IntKind.i64) IntKind.i64)] }
noncomputable def f39_0_st {R : Type} (N : Nat) (self : Int → Int → List Int → List (List Int) → Option R) (k1 : Int → Bool → Int → Int → Bool → Int → Int → List Int → List (List Int) → Option R) (k2 : Int → Bool → Bool → Int → Int → Bool → Int → Int → List Int → List (List Int) → Option R) (k3 : Bool → Int → Int → List Int → List (List Int) → Option R) (x1 : Int) (x2 : Int) (x3 : List Int) (x4 : List (List Int)) : Option R :=
 bif Decidable.decide (x2 < x1) then
 bif Decidable.decide (0 ≤ x2) && Decidable.decide (x2 < nI (rowLen 1 x3)) then
 bif !(Decidable.decide (x3.getD (mulE x2.toNat 1) 0 ≥ 1) && Decidable.decide (x3.getD (mulE x2.toNat 1) 0 ≤ 255)) then k1 4 (!(Decidable.decide (x3.getD (mulE x2.toNat 1) 0 ≥ 1) && Decidable.decide (x3.getD (mulE x2.toNat 1) 0 ≤ 255))) (x3.getD (mulE x2.toNat 1) 0) x2 (Decidable.decide (x2 < x1)) x1 x2 x3 x4
 else
 bif Decidable.decide (mget x4 [x3.getD (mulE x2.toNat 1) 0] > 0) then k2 5 (Decidable.decide (mget x4 [x3.getD (mulE x2.toNat 1) 0] > 0)) (!(Decidable.decide (x3.getD (mulE x2.toNat 1) 0 ≥ 1) && Decidable.decide (x3.getD (mulE x2.toNat 1) 0 ≤ 255))) (x3.getD (mulE x2.toNat 1) 0) x2 (Decidable.decide (x2 < x1)) x1 x2 x3 x4
 else
 let v0 : Int := IntKind.i64.wrap (x2 + 1);
 self x1 v0 x3 (mput x4 [x3.getD (mulE x2.toNat 1) 0] v0)
 else Option.none
else k3 (Decidable.decide (x2 < x1)) x1 x2 x3 x4
noncomputable def f39_0_lp {R : Type} (N : Nat) (k1 : Int → Bool → Int → Int → Bool → Int → Int → List Int → List (List Int) → Option R) (k2 : Int → Bool → Bool → Int → Int → Bool → Int → Int → List Int → List (List Int) → Option R) (k3 : Bool → Int → Int → List Int → List (List Int) → Option R) : Nat → Int → Int → List Int → List (List Int) → Option R
 | 0, _, _, _, _ => none
 | n + 1, x1, x2, x3, x4 => f39_0_st N (f39_0_lp N k1 k2 k3 n) k1 k2 k3 x1 x2 x3 x4
noncomputable def f39_0_F (N : Nat) : (R : Type) → List Leaf → (X → AS → Option R) → Option R := fun _ ls K => match ls with
 | [.i x1, .i x2, .l x3, .ll x4] => f39_0_lp N (fun y1 y2 y3 y4 y5 y6 y7 y8 y9 => K (X.ret) (fill f39_0_ex1 [.i y1, .b y2, .i y3, .i y4, .b y5, .i y6, .i y7, .l y8, .ll y9])) (fun y1 y2 y3 y4 y5 y6 y7 y8 y9 y10 => K (X.ret) (fill f39_0_ex2 [.i y1, .b y2, .b y3, .i y4, .i y5, .b y6, .i y7, .i y8, .l y9, .ll y10])) (fun y1 y2 y3 y4 y5 => K (X.normal) (fill f39_0_ex3 [.b y1, .i y2, .i y3, .l y4, .ll y5])) N x1 x2 x3 x4
 | _ => none
noncomputable def f39_raw {R : Type} (N : Nat) (xs : List Int) (k : List DV → Option R) : Option R :=
 bif nI (rowLen 1 xs) == 0 then k [DV.v (SV.one (At.int IntKind.i64 8))] else f39_0_lp N (fun w0_1 w0_2 w0_3 w0_4 w0_5 w0_6 w0_7 w0_8 w0_9 => k [DV.v (SV.one (At.int IntKind.i64 w0_1))]) (fun w1_1 w1_2 w1_3 w1_4 w1_5 w1_6 w1_7 w1_8 w1_9 w1_10 => k [DV.v (SV.one (At.int IntKind.i64 w1_1))]) (fun w2_1 w2_2 w2_3 w2_4 w2_5 => k [DV.v (SV.one (At.int IntKind.i64 0))]) N (nI (rowLen 1 xs)) 0 xs []


noncomputable def E39 (N : Nat) : Env := { Θ := Th, Γ := GT1, K := K39, ν := N39, fuel := 0, lp := [(0, mkL N39_0 f39_0_sh (f39_0_F N))] }

theorem f39_0_st_eq {R : Type} (N : Nat) (K : X → AS → Option R) (n : Nat) (x1 : Int) (x2 : Int) (x3 : List Int) (x4 : List (List Int)) : roundsOf (E39 N) N39_0 0 B39_0 K (n + 1) (fill f39_0_sh [.i x1, .i x2, .l x3, .ll x4]) = f39_0_st N (fun x1 x2 x3 x4 => roundsOf (E39 N) N39_0 0 B39_0 K n (fill f39_0_sh [.i x1, .i x2, .l x3, .ll x4])) (fun y1 y2 y3 y4 y5 y6 y7 y8 y9 => K (X.ret) (fill f39_0_ex1 [.i y1, .b y2, .i y3, .i y4, .b y5, .i y6, .i y7, .l y8, .ll y9])) (fun y1 y2 y3 y4 y5 y6 y7 y8 y9 y10 => K (X.ret) (fill f39_0_ex2 [.i y1, .b y2, .b y3, .i y4, .i y5, .b y6, .i y7, .i y8, .l y9, .ll y10])) (fun y1 y2 y3 y4 y5 => K (X.normal) (fill f39_0_ex3 [.b y1, .i y2, .i y3, .l y4, .ll y5])) x1 x2 x3 x4 := by kernel_rfl
theorem f39_0_lp_eq {R : Type} (N : Nat) (K : X → AS → Option R) : ∀ (n : Nat) (x1 : Int) (x2 : Int) (x3 : List Int) (x4 : List (List Int)), roundsOf (E39 N) N39_0 0 B39_0 K n (fill f39_0_sh [.i x1, .i x2, .l x3, .ll x4]) = f39_0_lp N (fun y1 y2 y3 y4 y5 y6 y7 y8 y9 => K (X.ret) (fill f39_0_ex1 [.i y1, .b y2, .i y3, .i y4, .b y5, .i y6, .i y7, .l y8, .ll y9])) (fun y1 y2 y3 y4 y5 y6 y7 y8 y9 y10 => K (X.ret) (fill f39_0_ex2 [.i y1, .b y2, .b y3, .i y4, .i y5, .b y6, .i y7, .i y8, .l y9, .ll y10])) (fun y1 y2 y3 y4 y5 => K (X.normal) (fill f39_0_ex3 [.b y1, .i y2, .i y3, .l y4, .ll y5])) n x1 x2 x3 x4
  | 0, _, _, _, _ => rfl
  | n + 1, x1, x2, x3, x4 => by
    rw [f39_0_st_eq, f39_0_lp, show (fun x1 x2 x3 x4 => roundsOf (E39 N) N39_0 0 B39_0 K n (fill f39_0_sh [.i x1, .i x2, .l x3, .ll x4])) = f39_0_lp N (fun y1 y2 y3 y4 y5 y6 y7 y8 y9 => K (X.ret) (fill f39_0_ex1 [.i y1, .b y2, .i y3, .i y4, .b y5, .i y6, .i y7, .l y8, .ll y9])) (fun y1 y2 y3 y4 y5 y6 y7 y8 y9 y10 => K (X.ret) (fill f39_0_ex2 [.i y1, .b y2, .b y3, .i y4, .i y5, .b y6, .i y7, .i y8, .l y9, .ll y10])) (fun y1 y2 y3 y4 y5 => K (X.normal) (fill f39_0_ex3 [.b y1, .i y2, .i y3, .l y4, .ll y5])) n from by funext x1 x2 x3 x4; exact f39_0_lp_eq N K n x1 x2 x3 x4]
theorem f39_0_ok (N : Nat) (hlp : LoopsOk Try.prog (E39 N).lp B39_0) (hΓ : CtxOk Try.prog (E39 N).Γ) : LoopOk Try.prog (mkL N39_0 f39_0_sh (f39_0_F N)) 0 B39_0 := by
  refine loopOk_of (E := E39 N) thOk hΓ mixed hlp ?_
  intro R ls K r h
  unfold f39_0_F at h
  split at h
  · exact ⟨N, by rw [f39_0_lp_eq]; exact h⟩
  · cases h

theorem lok39_0 (N : Nat) (hΓ : CtxOk Try.prog GT1) : LoopOk Try.prog (mkL N39_0 f39_0_sh (f39_0_F N)) 0 B39_0 := f39_0_ok N (loopsOk_of (l := []) (by kernel_rfl) trivial) hΓ
theorem f39_contract (N : Nat) (hΓ : CtxOk Try.prog GT1) : Contract Try.prog 39 { sig := S39, impl := fun _ ds k => call (E39 N) S39 29 B39 R39 ds k } :=
  call_contract (E := E39 N) thOk hΓ mixed ok39.look ok39.body ok39.n ok39.rv ok39.name rfl (by decide) (loopsOk_of (l := [(0, B39_0)]) (by kernel_rfl) (allOk_cons (L := mkL N39_0 f39_0_sh (f39_0_F N)) rfl (lok39_0 N hΓ) trivial))
theorem f39_raw_eq {R : Type} (N : Nat) (xs : List Int) (k : List DV → Option R) : call (E39 N) S39 29 B39 R39 [.lst (.one .i64) 1 xs] k = f39_raw N xs k := by kernel_rfl
end Go.Proofs.Ytogcijgklnfjjaa

namespace Go.Proofs.Ytogcijgklnfjjaa
open Go Go.Eng
set_option maxRecDepth 100000
set_option linter.unusedVariables false

theorem mget_put (k k' : List Int) (v : Int) : ∀ l : List (List Int), mget (mput l k v) k' = if k = k' then v else mget l k'
  | [] => by
    show mget [v :: k] k' = _
    unfold mget
    by_cases h : k = k'
    · rw [if_pos h, show decide ((v :: k).tail = k') = true from decide_eq_true h]; rfl
    · rw [if_neg h, show decide ((v :: k).tail = k') = false from decide_eq_false h]; rfl
  | e :: l => by
    unfold mput
    by_cases h1 : e.tail = k
    · rw [decide_eq_true h1]
      show mget ((v :: k) :: l) k' = _
      unfold mget
      by_cases h : k = k'
      · rw [if_pos h, show decide ((v :: k).tail = k') = true from decide_eq_true h]; rfl
      · rw [if_neg h, show decide ((v :: k).tail = k') = false from decide_eq_false h, show decide (e.tail = k') = false from decide_eq_false (fun q => h (h1.symm.trans q))]
    · rw [decide_eq_false h1]
      show mget (e :: mput l k v) k' = _
      unfold mget
      by_cases h2 : e.tail = k'
      · rw [decide_eq_true h2, if_neg (fun q => h1 (h2.trans q.symm))]
      · rw [decide_eq_false h2]; exact mget_put k k' v l

def seenG (key : Nat → List Int) : Nat → List (List Int)
  | 0 => []
  | i + 1 => mput (seenG key i) (key i) ((i : Int) + 1)
def hasK (key : Nat → List Int) (k : List Int) : Nat → Bool
  | 0 => false
  | i + 1 => decide (key i = k) || hasK key k i
theorem seen_has (key : Nat → List Int) (k : List Int) : ∀ i, decide (mget (seenG key i) k > 0) = hasK key k i
  | 0 => rfl
  | i + 1 => by
    unfold seenG hasK
    rw [mget_put]
    by_cases h : key i = k
    · rw [if_pos h, decide_eq_true h, Bool.true_or]; exact decide_eq_true (by omega)
    · rw [if_neg h, decide_eq_false h, Bool.false_or]; exact seen_has key k i
theorem hasK_iff {key : Nat → List Int} {k : List Int} : ∀ {i}, hasK key k i = true ↔ ∃ j, j < i ∧ key j = k
  | 0 => by simp [hasK]
  | i + 1 => by
    unfold hasK
    rw [Bool.or_eq_true, hasK_iff (i := i), decide_eq_true_eq]
    constructor
    · rintro (h | ⟨j, h1, h2⟩)
      · exact ⟨i, by omega, h⟩
      · exact ⟨j, by omega, h2⟩
    · rintro ⟨j, h1, h2⟩
      by_cases e : j = i
      · subst e; exact .inl h2
      · exact .inr ⟨j, by omega, h2⟩

theorem dupF_iff {xs : List Int} {i : Nat} : ∀ {m k}, dupF xs i m k = true ↔ ∃ j, k ≤ j ∧ j < k + m ∧ xs.getD j 0 = xs.getD i 0
  | 0, k => by simp [dupF]; omega
  | m + 1, k => by
    unfold dupF
    rw [Bool.or_eq_true, dupF_iff (m := m), beq_iff_eq]
    constructor
    · rintro (h | ⟨j, h1, h2, h3⟩)
      · exact ⟨k, by omega, by omega, h⟩
      · exact ⟨j, by omega, by omega, h3⟩
    · rintro ⟨j, h1, h2, h3⟩
      by_cases e : j = k
      · subst e; exact .inl h3
      · exact .inr ⟨j, by omega, by omega, h3⟩
theorem dup_has (xs : List Int) (i : Nat) : hasK (fun j => [xs.getD j 0]) [xs.getD i 0] i = dupF xs i i 0 := by
  rw [Bool.eq_iff_iff, hasK_iff, dupF_iff]
  constructor
  · rintro ⟨j, h1, h2⟩; injection h2 with h2; exact ⟨j, by omega, by omega, h2⟩
  · rintro ⟨j, _, h2, h3⟩; exact ⟨j, by omega, by rw [h3]⟩

theorem f39_out {R : Type} {N : Nat} (K : Int → Option R) {xs : List Int} (hb : xs.length ≤ 1073741824) :
    ∀ j i : Nat, i + j = xs.length → ∀ fuel, j < fuel → f39_0_lp N (fun w0_1 _ _ _ _ _ _ _ _ => K w0_1) (fun w1_1 _ _ _ _ _ _ _ _ _ => K w1_1) (fun _ _ _ _ _ => K 0) fuel (xs.length : Int) (i : Int) xs (seenG (fun j => [xs.getD j 0]) i) = K (idsE xs j i) := by
  intro j
  induction j with
  | zero =>
    intro i h fuel hf
    obtain ⟨f, rfl⟩ : ∃ f, fuel = f + 1 := ⟨fuel - 1, by omega⟩
    show f39_0_st N (f39_0_lp N _ _ _ f) _ _ _ _ _ _ _ = _
    unfold f39_0_st
    rw [decide_eq_false (by omega), cond_false]
    rfl
  | succ j ih =>
    intro i h fuel hf
    obtain ⟨f, rfl⟩ : ∃ f, fuel = f + 1 := ⟨fuel - 1, by omega⟩
    show f39_0_st N (f39_0_lp N _ _ _ f) _ _ _ _ _ _ _ = _
    unfold f39_0_st
    have e4 : IntKind.i64.wrap ((i : Int) + 1) = ((i + 1 : Nat) : Int) := by
      rw [show (i : Int) + 1 = ((i + 1 : Nat) : Int) by omega]; exact wi64 (by omega)
    rw [rows1]
    dsimp only
    rw [show mulE (Int.toNat (i : Int)) 1 = i from rfl, decide_eq_true (show (0 : Int) ≤ (i : Int) by omega), decide_eq_true (show (i : Int) < (xs.length : Int) by omega), e4, seen_has, dup_has]
    simp only [Bool.and_self, cond_true]
    rw [idsE]
    have hbad : (!(decide (xs.getD i 0 ≥ 1) && decide (xs.getD i 0 ≤ 255))) = (decide (xs.getD i 0 < 1) || decide (xs.getD i 0 > 255)) := by
      rw [Bool.eq_iff_iff]; simp
    rw [hbad]
    cases h1 : decide (xs.getD i 0 < 1) || decide (xs.getD i 0 > 255) with
    | true => rfl
    | false =>
      rw [cond_false, cond_false]
      cases dupF xs i i 0 with
      | true => rfl
      | false =>
        rw [cond_false, cond_false]
        have := ih (i + 1) (by omega) f (by omega)
        exact this
theorem c39 : Contract Try.prog 39 { sig := S39, impl := I18 } := by
  refine Contract.refine fun R ds k r h => ?_
  unfold I18 at h
  split at h
  · rename_i xs
    refine ⟨_, f39_contract (xs.length + 1) GT1_ok, ?_⟩
    cases hc : Nat.ble xs.length 1073741824 with
    | false => rw [hc] at h; cases h
    | true =>
      rw [hc, cond_true] at h
      have hb := Nat.le_of_ble_eq_true hc
      rw [f39_raw_eq]
      unfold f39_raw
      unfold idsN at h
      rw [rows1]
      cases hq : Nat.beq xs.length 0 with
      | true =>
        rw [hq] at h
        rw [Nat.eq_of_beq_eq_true hq]
        exact h
      | false =>
        rw [hq, cond_false] at h
        have hq : xs.length ≠ 0 := fun e => by rw [e] at hq; cases hq
        rw [show (((xs.length : Nat) : Int) == 0) = false by simp; intro e; exact hq (by rw [e]; rfl), cond_false]
        exact (f39_out (N := xs.length + 1) (fun w => k [DV.v (SV.one (At.int IntKind.i64 w))]) hb xs.length 0 (by omega) (xs.length + 1) (by omega)).trans h
  · exact (Option.some_ne_none _ h.symm).elim
noncomputable def GT2 : Ctx := (39, { sig := S39, impl := I18 }) :: GT1
theorem GT2_ok : CtxOk Try.prog GT2 := ctxOk_cons ok39 rfl c39 GT1_ok
end Go.Proofs.Ytogcijgklnfjjaa

namespace Go.Proofs.Ytogcijgklnfjjaa
open Go Go.Eng
set_option maxRecDepth 100000
set_option linter.unusedVariables false

def f9_0_sh : Shp := { n := 161, lo := 1, slots := [(0, .one (.fix (At.own 0))), (4, .one (.fix (At.mapv 27))), (28, .one (.fix (At.own 0))), (29, .one (.int IntKind.i64)), (30, .one (.int IntKind.i64))], items := [(0, .view (RK.mix ck32) 64), (27, .mp (MK.arr IntKind.u8 32) IntKind.i64)] }
def f9_0_ex1 : Shp := { n := 161, lo := 1, slots := [(3, .one (.int IntKind.i64)), (2, .one (.fix (At.nils))), (42, .one (.bool)), (7, .one (.fix (At.ptr 7 0 Off.z 32))), (5, .one (.int IntKind.i64)), (6, .one (.fix (At.ptr 6 0 Off.z 64))), (31, .one (.bool)), (0, .one (.fix (At.own 0))), (4, .one (.fix (At.mapv 27))), (28, .one (.fix (At.own 0))), (29, .one (.int IntKind.i64)), (30, .one (.int IntKind.i64))], items := [(7, .obj [.ints IntKind.u8 32]), (6, .obj [.ints IntKind.u8 32, .ints IntKind.u8 32]), (0, .view (RK.mix ck32) 64), (27, .mp (MK.arr IntKind.u8 32) IntKind.i64)] }
def f9_0_ex2 : Shp := { n := 161, lo := 1, slots := [(31, .one (.bool)), (0, .one (.fix (At.own 0))), (4, .one (.fix (At.mapv 27))), (28, .one (.fix (At.own 0))), (29, .one (.int IntKind.i64)), (30, .one (.int IntKind.i64))], items := [(0, .view (RK.mix ck32) 64), (27, .mp (MK.arr IntKind.u8 32) IntKind.i64)] }
noncomputable def f9_0_st {R : Type} (N : Nat) (self : Int → Int → List Int → List (List Int) → Option R) (k1 : Int → Bool → Int → Bool → Int → Int → List Int → List Int → List Int → List Int → List (List Int) → Option R) (k2 : Bool → Int → Int → List Int → List (List Int) → Option R) (x1 : Int) (x2 : Int) (x3 : List Int) (x4 : List (List Int)) : Option R :=
 bif Decidable.decide (x2 < x1) then
 bif Decidable.decide (0 ≤ x2) && Decidable.decide (x2 < nI (rowLen 64 x3)) then
 bif okB (List.take 32 (List.drop (x2.toNat * 64 + 0) x3)) && okB (List.replicate 32 0) then
 bif Decidable.decide (mget x4 (sN (addN (vS (List.take 32 (List.drop (x2.toNat * 64 + 0) x3))) (vS (List.replicate 32 0)))) > 0) then k1 5 (Decidable.decide (mget x4 (sN (addN (vS (List.take 32 (List.drop (x2.toNat * 64 + 0) x3))) (vS (List.replicate 32 0)))) > 0)) x2 (Decidable.decide (x2 < x1)) x1 x2 (sN (addN (vS (List.take 32 (List.drop (x2.toNat * 64 + 0) x3))) (vS (List.replicate 32 0)))) (List.take 32 (List.drop (x2.toNat * 64 + 0) x3)) (List.take 32 (List.drop (x2.toNat * 64 + (0 + 32)) x3)) x3 x4
 else
 let v0 : Int := IntKind.i64.wrap (x2 + 1);
 self x1 v0 x3 (mput x4 (sN (addN (vS (List.take 32 (List.drop (x2.toNat * 64 + 0) x3))) (vS (List.replicate 32 0)))) v0)
 else Option.none
 else Option.none
else k2 (Decidable.decide (x2 < x1)) x1 x2 x3 x4
noncomputable def f9_0_lp {R : Type} (N : Nat) (k1 : Int → Bool → Int → Bool → Int → Int → List Int → List Int → List Int → List Int → List (List Int) → Option R) (k2 : Bool → Int → Int → List Int → List (List Int) → Option R) : Nat → Int → Int → List Int → List (List Int) → Option R
 | 0, _, _, _, _ => none
 | n + 1, x1, x2, x3, x4 => f9_0_st N (f9_0_lp N k1 k2 n) k1 k2 x1 x2 x3 x4
noncomputable def f9_0_F (N : Nat) : (R : Type) → List Leaf → (X → AS → Option R) → Option R := fun _ ls K => match ls with
 | [.i x1, .i x2, .l x3, .ll x4] => f9_0_lp N (fun y1 y2 y3 y4 y5 y6 y7 y8 y9 y10 y11 => K (X.ret) (fill f9_0_ex1 [.i y1, .b y2, .i y3, .b y4, .i y5, .i y6, .l y7, .l y8, .l y9, .l y10, .ll y11])) (fun y1 y2 y3 y4 y5 => K (X.normal) (fill f9_0_ex2 [.b y1, .i y2, .i y3, .l y4, .ll y5])) N x1 x2 x3 x4
 | _ => none
def f9_2_sh : Shp := { n := 161, lo := 1, slots := [(0, .one (.fix (At.own 0))), (8, .one (.int IntKind.i64)), (9, .one (.fix (At.own 51))), (52, .one (.fix (At.own 0))), (53, .one (.int IntKind.i64)), (54, .one (.int IntKind.i64))], items := [(0, .view (RK.mix ck32) 64), (51, .row (RK.one IntKind.u8) 32)] }
def f9_2_ex1 : Shp := { n := 161, lo := 1, slots := [(55, .one (.bool)), (0, .one (.fix (At.own 0))), (8, .one (.int IntKind.i64)), (9, .one (.fix (At.own 51))), (52, .one (.fix (At.own 0))), (53, .one (.int IntKind.i64)), (54, .one (.int IntKind.i64))], items := [(0, .view (RK.mix ck32) 64), (51, .row (RK.one IntKind.u8) 32)] }
noncomputable def f9_2_st {R : Type} (N : Nat) (self : Int → Int → Int → List Int → List Int → Option R) (k1 : Bool → Int → Int → Int → List Int → List Int → Option R) (x1 : Int) (x2 : Int) (x3 : Int) (x4 : List Int) (x5 : List Int) : Option R :=
 bif Decidable.decide (x3 < x2) then
 bif Decidable.decide (0 ≤ x3) && Decidable.decide (x3 < nI (rowLen 64 x4)) then
 bif okB (List.take 32 (List.drop (x3.toNat * 64 + (0 + 32)) x4)) && okB (List.replicate 32 0) then
 bif Decidable.decide (0 ≤ x3) && Decidable.decide (x3 < nI (rowLen 32 x5)) then
 let v0 : Int := IntKind.i64.wrap (x3 + 1);
 let v1 : List Int := splice x5 (Off.at (mulE x3.toNat 32)) (sN (addN (vS (List.take 32 (List.drop (x3.toNat * 64 + (0 + 32)) x4))) (vS (List.replicate 32 0))));
 self x1 x2 v0 x4 v1
 else Option.none
 else Option.none
 else Option.none
else k1 (Decidable.decide (x3 < x2)) x1 x2 x3 x4 x5
noncomputable def f9_2_lp {R : Type} (N : Nat) (k1 : Bool → Int → Int → Int → List Int → List Int → Option R) : Nat → Int → Int → Int → List Int → List Int → Option R
 | 0, _, _, _, _, _ => none
 | n + 1, x1, x2, x3, x4, x5 => f9_2_st N (f9_2_lp N k1 n) k1 x1 x2 x3 x4 x5
noncomputable def f9_2_F (N : Nat) : (R : Type) → List Leaf → (X → AS → Option R) → Option R := fun _ ls K => match ls with
 | [.i x1, .i x2, .i x3, .l x4, .l x5] => f9_2_lp N (fun y1 y2 y3 y4 y5 y6 => K (X.normal) (fill f9_2_ex1 [.b y1, .i y2, .i y3, .i y4, .l y5, .l y6])) N x1 x2 x3 x4 x5
 | _ => none
def f9_6_sh : Shp := { n := 161, lo := 1, slots := [(0, .one (.fix (At.own 0))), (8, .one (.int IntKind.i64)), (9, .one (.fix (At.own 51))), (12, .one (.int IntKind.i64)), (13, .one (.int IntKind.i64))], items := [(0, .view (RK.mix ck32) 64), (51, .row (RK.one IntKind.u8) 32)] }
def f9_6_ex1 : Shp := { n := 161, lo := 1, slots := [(76, .one (.bool)), (0, .one (.fix (At.own 0))), (8, .one (.int IntKind.i64)), (9, .one (.fix (At.own 51))), (12, .one (.int IntKind.i64)), (13, .one (.int IntKind.i64))], items := [(0, .view (RK.mix ck32) 64), (51, .row (RK.one IntKind.u8) 32)] }
noncomputable def f9_6_st {R : Type} (N : Nat) (self : Int → Int → Int → List Int → List Int → Option R) (k1 : Bool → Int → Int → Int → List Int → List Int → Option R) (x1 : Int) (x2 : Int) (x3 : Int) (x4 : List Int) (x5 : List Int) : Option R :=
 bif Decidable.decide (x3 ≥ x2) then
 bif Decidable.decide (0 ≤ x3) && Decidable.decide (x3 < nI (rowLen 64 x4)) then
 let v0 : Int := IntKind.i64.wrap (x3 - x2);
 bif Decidable.decide (0 ≤ v0) && Decidable.decide (v0 < nI (rowLen 64 x4)) then
 bif okB (List.take 32 (List.drop (x3.toNat * 64 + (0 + 0)) x4)) && okB (List.take 32 (List.drop (v0.toNat * 64 + (0 + 0)) x4)) then
 bif okB (sN (difN (vS (List.take 32 (List.drop (x3.toNat * 64 + (0 + 0)) x4))) (vS (List.take 32 (List.drop (v0.toNat * 64 + (0 + 0)) x4))))) then
 bif Decidable.decide (vS (sN (difN (vS (List.take 32 (List.drop (x3.toNat * 64 + (0 + 0)) x4))) (vS (List.take 32 (List.drop (v0.toNat * 64 + (0 + 0)) x4))))) = 0) then
 bif Decidable.decide (0 ≤ x3) && Decidable.decide (x3 < nI (rowLen 32 x5)) then
 let v1 : Int := IntKind.i64.wrap (x3 - 1);
 bif Decidable.decide (0 ≤ v1) && Decidable.decide (v1 < nI (rowLen 32 x5)) then
 bif okB (List.take 32 (List.drop (mulE x3.toNat 32) x5)) && okB (List.take 32 (List.drop (mulE v1.toNat 32) x5)) then
 bif okB (sN (difN (vS (List.take 32 (List.drop (mulE x3.toNat 32) x5))) (vS (List.take 32 (List.drop (mulE v1.toNat 32) x5))))) && okB (List.replicate 32 0) then
 bif Decidable.decide (0 ≤ x3) && Decidable.decide (x3 < nI (rowLen 32 x5)) then
 let v2 : List Int := splice x5 (Off.at (mulE x3.toNat 32)) (sN (mulN (vS (sN (difN (vS (List.take 32 (List.drop (mulE x3.toNat 32) x5))) (vS (List.take 32 (List.drop (mulE v1.toNat 32) x5)))))) (vS (List.replicate 32 0))));
 self x1 x2 v1 x4 v2
 else Option.none
 else Option.none
 else Option.none
 else Option.none
 else Option.none
 else
 bif Decidable.decide (0 ≤ x3) && Decidable.decide (x3 < nI (rowLen 32 x5)) then
 let v3 : Int := IntKind.i64.wrap (x3 - 1);
 bif Decidable.decide (0 ≤ v3) && Decidable.decide (v3 < nI (rowLen 32 x5)) then
 bif okB (List.take 32 (List.drop (mulE x3.toNat 32) x5)) && okB (List.take 32 (List.drop (mulE v3.toNat 32) x5)) then
 bif okB (sN (difN (vS (List.take 32 (List.drop (mulE x3.toNat 32) x5))) (vS (List.take 32 (List.drop (mulE v3.toNat 32) x5))))) && okB (sN (invN (vS (sN (difN (vS (List.take 32 (List.drop (x3.toNat * 64 + (0 + 0)) x4))) (vS (List.take 32 (List.drop (v0.toNat * 64 + (0 + 0)) x4)))))))) then
 bif Decidable.decide (0 ≤ x3) && Decidable.decide (x3 < nI (rowLen 32 x5)) then
 let v4 : List Int := splice x5 (Off.at (mulE x3.toNat 32)) (sN (mulN (vS (sN (difN (vS (List.take 32 (List.drop (mulE x3.toNat 32) x5))) (vS (List.take 32 (List.drop (mulE v3.toNat 32) x5)))))) (vS (sN (invN (vS (sN (difN (vS (List.take 32 (List.drop (x3.toNat * 64 + (0 + 0)) x4))) (vS (List.take 32 (List.drop (v0.toNat * 64 + (0 + 0)) x4)))))))))));
 self x1 x2 v3 x4 v4
 else Option.none
 else Option.none
 else Option.none
 else Option.none
 else Option.none
 else Option.none
 else Option.none
 else Option.none
 else Option.none
else k1 (Decidable.decide (x3 ≥ x2)) x1 x2 x3 x4 x5
noncomputable def f9_6_lp {R : Type} (N : Nat) (k1 : Bool → Int → Int → Int → List Int → List Int → Option R) : Nat → Int → Int → Int → List Int → List Int → Option R
 | 0, _, _, _, _, _ => none
 | n + 1, x1, x2, x3, x4, x5 => f9_6_st N (f9_6_lp N k1 n) k1 x1 x2 x3 x4 x5
noncomputable def f9_6_F (N : Nat) : (R : Type) → List Leaf → (X → AS → Option R) → Option R := fun _ ls K => match ls with
 | [.i x1, .i x2, .i x3, .l x4, .l x5] => f9_6_lp N (fun y1 y2 y3 y4 y5 y6 => K (X.normal) (fill f9_6_ex1 [.b y1, .i y2, .i y3, .i y4, .l y5, .l y6])) N x1 x2 x3 x4 x5
 | _ => none
def f9_4_sh : Shp := { n := 161, lo := 1, slots := [(0, .one (.fix (At.own 0))), (8, .one (.int IntKind.i64)), (9, .one (.fix (At.own 51))), (12, .one (.int IntKind.i64))], items := [(0, .view (RK.mix ck32) 64), (51, .row (RK.one IntKind.u8) 32)] }
def f9_4_ex1 : Shp := { n := 161, lo := 1, slots := [(69, .one (.bool)), (0, .one (.fix (At.own 0))), (8, .one (.int IntKind.i64)), (9, .one (.fix (At.own 51))), (12, .one (.int IntKind.i64))], items := [(0, .view (RK.mix ck32) 64), (51, .row (RK.one IntKind.u8) 32)] }
noncomputable def f9_4_st {R : Type} (N : Nat) (self : Int → Int → List Int → List Int → Option R) (k1 : Bool → Int → Int → List Int → List Int → Option R) (x1 : Int) (x2 : Int) (x3 : List Int) (x4 : List Int) : Option R :=
 bif Decidable.decide (x2 < x1) then
 let v0 : Int := IntKind.i64.wrap (x1 - 1);
 f9_6_lp N
 (fun w1_1 w1_2 w1_3 w1_4 w1_5 w1_6 =>
 let v2 : Int := IntKind.i64.wrap (w1_3 + 1);
 self w1_2 v2 w1_5 w1_6)
 N x1 x2 v0 x3 x4
else k1 (Decidable.decide (x2 < x1)) x1 x2 x3 x4
noncomputable def f9_4_lp {R : Type} (N : Nat) (k1 : Bool → Int → Int → List Int → List Int → Option R) : Nat → Int → Int → List Int → List Int → Option R
 | 0, _, _, _, _ => none
 | n + 1, x1, x2, x3, x4 => f9_4_st N (f9_4_lp N k1 n) k1 x1 x2 x3 x4
noncomputable def f9_4_F (N : Nat) : (R : Type) → List Leaf → (X → AS → Option R) → Option R := fun _ ls K => match ls with
 | [.i x1, .i x2, .l x3, .l x4] => f9_4_lp N (fun y1 y2 y3 y4 y5 => K (X.normal) (fill f9_4_ex1 [.b y1, .i y2, .i y3, .l y4, .l y5])) N x1 x2 x3 x4
 | _ => none
def f9_10_sh : Shp := { n := 161, lo := 1, slots := [(0, .one (.fix (At.own 0))), (8, .one (.int IntKind.i64)), (9, .one (.fix (At.own 51))), (16, .one (.fix (At.own 112))), (17, .one (.int IntKind.i64)), (18, .one (.int IntKind.i64))], items := [(0, .view (RK.mix ck32) 64), (51, .row (RK.one IntKind.u8) 32), (112, .row (RK.one IntKind.u8) 32)] }
def f9_10_ex1 : Shp := { n := 161, lo := 1, slots := [(122, .one (.bool)), (0, .one (.fix (At.own 0))), (8, .one (.int IntKind.i64)), (9, .one (.fix (At.own 51))), (16, .one (.fix (At.own 112))), (17, .one (.int IntKind.i64)), (18, .one (.int IntKind.i64))], items := [(0, .view (RK.mix ck32) 64), (51, .row (RK.one IntKind.u8) 32), (112, .row (RK.one IntKind.u8) 32)] }
noncomputable def f9_10_st {R : Type} (N : Nat) (self : Int → Int → Int → List Int → List Int → List Int → Option R) (k1 : Bool → Int → Int → Int → List Int → List Int → List Int → Option R) (x1 : Int) (x2 : Int) (x3 : Int) (x4 : List Int) (x5 : List Int) (x6 : List Int) : Option R :=
 bif Decidable.decide (x3 > 0) then
 let v0 : Int := IntKind.i64.wrap (x3 - 1);
 bif Decidable.decide (0 ≤ v0) && Decidable.decide (v0 < nI (rowLen 32 x6)) then
 bif Decidable.decide (0 ≤ x3) && Decidable.decide (x3 < nI (rowLen 32 x6)) then
 bif Decidable.decide (0 ≤ x2) && Decidable.decide (x2 < nI (rowLen 64 x4)) then
 bif okB (List.take 32 (List.drop (mulE x3.toNat 32) x6)) && okB (List.take 32 (List.drop (x2.toNat * 64 + (0 + 0)) x4)) then
 bif okB (List.take 32 (List.drop (mulE v0.toNat 32) x6)) && okB (sN (mulN (vS (List.take 32 (List.drop (mulE x3.toNat 32) x6))) (vS (List.take 32 (List.drop (x2.toNat * 64 + (0 + 0)) x4))))) then
 bif Decidable.decide (0 ≤ x3) && Decidable.decide (x3 < nI (rowLen 32 x6)) then
 let v1 : List Int := splice x6 (Off.at (mulE x3.toNat 32)) (sN (difN (vS (List.take 32 (List.drop (mulE v0.toNat 32) x6))) (vS (sN (mulN (vS (List.take 32 (List.drop (mulE x3.toNat 32) x6))) (vS (List.take 32 (List.drop (x2.toNat * 64 + (0 + 0)) x4))))))));
 self x1 x2 v0 x4 x5 v1
 else Option.none
 else Option.none
 else Option.none
 else Option.none
 else Option.none
 else Option.none
else k1 (Decidable.decide (x3 > 0)) x1 x2 x3 x4 x5 x6
noncomputable def f9_10_lp {R : Type} (N : Nat) (k1 : Bool → Int → Int → Int → List Int → List Int → List Int → Option R) : Nat → Int → Int → Int → List Int → List Int → List Int → Option R
 | 0, _, _, _, _, _, _ => none
 | n + 1, x1, x2, x3, x4, x5, x6 => f9_10_st N (f9_10_lp N k1 n) k1 x1 x2 x3 x4 x5 x6
noncomputable def f9_10_F (N : Nat) : (R : Type) → List Leaf → (X → AS → Option R) → Option R := fun _ ls K => match ls with
 | [.i x1, .i x2, .i x3, .l x4, .l x5, .l x6] => f9_10_lp N (fun y1 y2 y3 y4 y5 y6 y7 => K (X.normal) (fill f9_10_ex1 [.b y1, .i y2, .i y3, .i y4, .l y5, .l y6, .l y7])) N x1 x2 x3 x4 x5 x6
 | _ => none
def f9_8_sh : Shp := { n := 161, lo := 1, slots := [(0, .one (.fix (At.own 0))), (8, .one (.int IntKind.i64)), (9, .one (.fix (At.own 51))), (16, .one (.fix (At.own 112))), (17, .one (.int IntKind.i64))], items := [(0, .view (RK.mix ck32) 64), (51, .row (RK.one IntKind.u8) 32), (112, .row (RK.one IntKind.u8) 32)] }
def f9_8_ex1 : Shp := { n := 161, lo := 1, slots := [(116, .one (.bool)), (0, .one (.fix (At.own 0))), (8, .one (.int IntKind.i64)), (9, .one (.fix (At.own 51))), (16, .one (.fix (At.own 112))), (17, .one (.int IntKind.i64))], items := [(0, .view (RK.mix ck32) 64), (51, .row (RK.one IntKind.u8) 32), (112, .row (RK.one IntKind.u8) 32)] }
noncomputable def f9_8_st {R : Type} (N : Nat) (self : Int → Int → List Int → List Int → List Int → Option R) (k1 : Bool → Int → Int → List Int → List Int → List Int → Option R) (x1 : Int) (x2 : Int) (x3 : List Int) (x4 : List Int) (x5 : List Int) : Option R :=
 bif Decidable.decide (x2 ≥ 0) then
 let v0 : Int := IntKind.i64.wrap (x1 - 1);
 f9_10_lp N
 (fun w1_1 w1_2 w1_3 w1_4 w1_5 w1_6 w1_7 =>
 bif Decidable.decide (0 ≤ w1_3) && Decidable.decide (w1_3 < nI (rowLen 32 w1_6)) then
 bif Decidable.decide (0 ≤ 0) && Decidable.decide (0 < nI (rowLen 32 w1_7)) then
 bif Decidable.decide (0 ≤ w1_3) && Decidable.decide (w1_3 < nI (rowLen 64 w1_5)) then
 bif okB (List.take 32 (List.drop (mulE (Int.toNat 0) 32) w1_7)) && okB (List.take 32 (List.drop (w1_3.toNat * 64 + (0 + 0)) w1_5)) then
 bif okB (List.take 32 (List.drop (mulE w1_3.toNat 32) w1_6)) && okB (sN (mulN (vS (List.take 32 (List.drop (mulE (Int.toNat 0) 32) w1_7))) (vS (List.take 32 (List.drop (w1_3.toNat * 64 + (0 + 0)) w1_5))))) then
 bif Decidable.decide (0 ≤ 0) && Decidable.decide (0 < nI (rowLen 32 w1_7)) then
 let v2 : Int := IntKind.i64.wrap (w1_3 - 1);
 let v3 : List Int := splice w1_7 (Off.at (mulE (Int.toNat 0) 32)) (sN (difN (vS (List.take 32 (List.drop (mulE w1_3.toNat 32) w1_6))) (vS (sN (mulN (vS (List.take 32 (List.drop (mulE (Int.toNat 0) 32) w1_7))) (vS (List.take 32 (List.drop (w1_3.toNat * 64 + (0 + 0)) w1_5))))))));
 self w1_2 v2 w1_5 w1_6 v3
 else Option.none
 else Option.none
 else Option.none
 else Option.none
 else Option.none
 else Option.none)
 N x1 x2 v0 x3 x4 x5
else k1 (Decidable.decide (x2 ≥ 0)) x1 x2 x3 x4 x5
noncomputable def f9_8_lp {R : Type} (N : Nat) (k1 : Bool → Int → Int → List Int → List Int → List Int → Option R) : Nat → Int → Int → List Int → List Int → List Int → Option R
 | 0, _, _, _, _, _ => none
 | n + 1, x1, x2, x3, x4, x5 => f9_8_st N (f9_8_lp N k1 n) k1 x1 x2 x3 x4 x5
noncomputable def f9_8_F (N : Nat) : (R : Type) → List Leaf → (X → AS → Option R) → Option R := fun _ ls K => match ls with
 | [.i x1, .i x2, .l x3, .l x4, .l x5] => f9_8_lp N (fun y1 y2 y3 y4 y5 y6 => K (X.normal) (fill f9_8_ex1 [.b y1, .i y2, .i y3, .l y4, .l y5, .l y6])) N x1 x2 x3 x4 x5
 | _ => none
noncomputable def f9_raw {R : Type} (N : Nat) (pts : List Int) (k : List DV → Option R) : Option R :=
 bif nI (rowLen 64 pts) == 0 then k [DV.lst (RK.one IntKind.u8) 32 [], DV.v (SV.one (At.int IntKind.i64 8))]
else
 let v0 : Bool := bif Bool.false then Bool.true else Decidable.decide (nI (rowLen 64 pts) > 255);
 bif v0 then k [DV.lst (RK.one IntKind.u8) 32 [], DV.v (SV.one (At.int IntKind.i64 8))]
 else
 f9_0_lp N (fun w1_1 w1_2 w1_3 w1_4 w1_5 w1_6 w1_7 w1_8 w1_9 w1_10 w1_11 => k [DV.lst (RK.one IntKind.u8) 32 [], DV.v (SV.one (At.int IntKind.i64 w1_1))])
 (fun w2_1 w2_2 w2_3 w2_4 w2_5 =>
 bif Decidable.decide (0 ≤ nI (rowLen 64 w2_4)) && (Decidable.decide (nI (rowLen 64 w2_4) ≤ nI (rowLen 64 w2_4)) && (Decidable.decide (nI (rowLen 64 w2_4) ≤ 281474976710656) && Decidable.decide (nI (rowLen 64 w2_4) * 32 ≤ 281474976710656))) then
 f9_2_lp N
 (fun w3_1 w3_2 w3_3 w3_4 w3_5 w3_6 =>
 f9_4_lp N
 (fun w4_1 w4_2 w4_3 w4_4 w4_5 =>
 bif Decidable.decide (0 ≤ w4_2) && (Decidable.decide (w4_2 ≤ w4_2) && (Decidable.decide (w4_2 ≤ 281474976710656) && Decidable.decide (w4_2 * 32 ≤ 281474976710656))) then
 let v5 : Int := IntKind.i64.wrap (w4_2 - 1);
 f9_8_lp N (fun w6_1 w6_2 w6_3 w6_4 w6_5 w6_6 => k [DV.lst (RK.one IntKind.u8) 32 w6_6, DV.v (SV.one (At.int IntKind.i64 0))]) N w4_2 v5 w4_4 w4_5 (zerosOf (mulE w4_2.toNat 32))
 else Option.none)
 N w3_2 1 w3_5 w3_6)
 N (nI (rowLen 64 w2_4)) (nI (rowLen 64 w2_4)) 0 w2_4 (zerosOf (mulE (nI (rowLen 64 w2_4)).toNat 32))
 else Option.none)
 N (nI (rowLen 64 pts)) 0 pts []


noncomputable def E9 (N : Nat) : Env := { Θ := Th, Γ := GT2, K := K9, ν := N9, fuel := 0, lp := [(0, mkL N9_0 f9_0_sh (f9_0_F N)), (2, mkL N9_2 f9_2_sh (f9_2_F N)), (4, mkL N9_4 f9_4_sh (f9_4_F N)), (6, mkL N9_6 f9_6_sh (f9_6_F N)), (8, mkL N9_8 f9_8_sh (f9_8_F N)), (10, mkL N9_10 f9_10_sh (f9_10_F N))] }

theorem f9_0_st_eq {R : Type} (N : Nat) (K : X → AS → Option R) (n : Nat) (x1 : Int) (x2 : Int) (x3 : List Int) (x4 : List (List Int)) : roundsOf (E9 N) N9_0 0 B9_0 K (n + 1) (fill f9_0_sh [.i x1, .i x2, .l x3, .ll x4]) = f9_0_st N (fun x1 x2 x3 x4 => roundsOf (E9 N) N9_0 0 B9_0 K n (fill f9_0_sh [.i x1, .i x2, .l x3, .ll x4])) (fun y1 y2 y3 y4 y5 y6 y7 y8 y9 y10 y11 => K (X.ret) (fill f9_0_ex1 [.i y1, .b y2, .i y3, .b y4, .i y5, .i y6, .l y7, .l y8, .l y9, .l y10, .ll y11])) (fun y1 y2 y3 y4 y5 => K (X.normal) (fill f9_0_ex2 [.b y1, .i y2, .i y3, .l y4, .ll y5])) x1 x2 x3 x4 := by kernel_rfl
theorem f9_0_lp_eq {R : Type} (N : Nat) (K : X → AS → Option R) : ∀ (n : Nat) (x1 : Int) (x2 : Int) (x3 : List Int) (x4 : List (List Int)), roundsOf (E9 N) N9_0 0 B9_0 K n (fill f9_0_sh [.i x1, .i x2, .l x3, .ll x4]) = f9_0_lp N (fun y1 y2 y3 y4 y5 y6 y7 y8 y9 y10 y11 => K (X.ret) (fill f9_0_ex1 [.i y1, .b y2, .i y3, .b y4, .i y5, .i y6, .l y7, .l y8, .l y9, .l y10, .ll y11])) (fun y1 y2 y3 y4 y5 => K (X.normal) (fill f9_0_ex2 [.b y1, .i y2, .i y3, .l y4, .ll y5])) n x1 x2 x3 x4
  | 0, _, _, _, _ => rfl
  | n + 1, x1, x2, x3, x4 => by
    rw [f9_0_st_eq, f9_0_lp, show (fun x1 x2 x3 x4 => roundsOf (E9 N) N9_0 0 B9_0 K n (fill f9_0_sh [.i x1, .i x2, .l x3, .ll x4])) = f9_0_lp N (fun y1 y2 y3 y4 y5 y6 y7 y8 y9 y10 y11 => K (X.ret) (fill f9_0_ex1 [.i y1, .b y2, .i y3, .b y4, .i y5, .i y6, .l y7, .l y8, .l y9, .l y10, .ll y11])) (fun y1 y2 y3 y4 y5 => K (X.normal) (fill f9_0_ex2 [.b y1, .i y2, .i y3, .l y4, .ll y5])) n from by funext x1 x2 x3 x4; exact f9_0_lp_eq N K n x1 x2 x3 x4]
theorem f9_0_ok (N : Nat) (hlp : LoopsOk Try.prog (E9 N).lp B9_0) (hΓ : CtxOk Try.prog (E9 N).Γ) : LoopOk Try.prog (mkL N9_0 f9_0_sh (f9_0_F N)) 0 B9_0 := by
  refine loopOk_of (E := E9 N) thOk hΓ mixed hlp ?_
  intro R ls K r h
  unfold f9_0_F at h
  split at h
  · exact ⟨N, by rw [f9_0_lp_eq]; exact h⟩
  · cases h
theorem f9_2_st_eq {R : Type} (N : Nat) (K : X → AS → Option R) (n : Nat) (x1 : Int) (x2 : Int) (x3 : Int) (x4 : List Int) (x5 : List Int) : roundsOf (E9 N) N9_2 2 B9_2 K (n + 1) (fill f9_2_sh [.i x1, .i x2, .i x3, .l x4, .l x5]) = f9_2_st N (fun x1 x2 x3 x4 x5 => roundsOf (E9 N) N9_2 2 B9_2 K n (fill f9_2_sh [.i x1, .i x2, .i x3, .l x4, .l x5])) (fun y1 y2 y3 y4 y5 y6 => K (X.normal) (fill f9_2_ex1 [.b y1, .i y2, .i y3, .i y4, .l y5, .l y6])) x1 x2 x3 x4 x5 := by kernel_rfl
theorem f9_2_lp_eq {R : Type} (N : Nat) (K : X → AS → Option R) : ∀ (n : Nat) (x1 : Int) (x2 : Int) (x3 : Int) (x4 : List Int) (x5 : List Int), roundsOf (E9 N) N9_2 2 B9_2 K n (fill f9_2_sh [.i x1, .i x2, .i x3, .l x4, .l x5]) = f9_2_lp N (fun y1 y2 y3 y4 y5 y6 => K (X.normal) (fill f9_2_ex1 [.b y1, .i y2, .i y3, .i y4, .l y5, .l y6])) n x1 x2 x3 x4 x5
  | 0, _, _, _, _, _ => rfl
  | n + 1, x1, x2, x3, x4, x5 => by
    rw [f9_2_st_eq, f9_2_lp, show (fun x1 x2 x3 x4 x5 => roundsOf (E9 N) N9_2 2 B9_2 K n (fill f9_2_sh [.i x1, .i x2, .i x3, .l x4, .l x5])) = f9_2_lp N (fun y1 y2 y3 y4 y5 y6 => K (X.normal) (fill f9_2_ex1 [.b y1, .i y2, .i y3, .i y4, .l y5, .l y6])) n from by funext x1 x2 x3 x4 x5; exact f9_2_lp_eq N K n x1 x2 x3 x4 x5]
theorem f9_2_ok (N : Nat) (hlp : LoopsOk Try.prog (E9 N).lp B9_2) (hΓ : CtxOk Try.prog (E9 N).Γ) : LoopOk Try.prog (mkL N9_2 f9_2_sh (f9_2_F N)) 2 B9_2 := by
  refine loopOk_of (E := E9 N) thOk hΓ mixed hlp ?_
  intro R ls K r h
  unfold f9_2_F at h
  split at h
  · exact ⟨N, by rw [f9_2_lp_eq]; exact h⟩
  · cases h
theorem f9_6_st_eq {R : Type} (N : Nat) (K : X → AS → Option R) (n : Nat) (x1 : Int) (x2 : Int) (x3 : Int) (x4 : List Int) (x5 : List Int) : roundsOf (E9 N) N9_6 6 B9_6 K (n + 1) (fill f9_6_sh [.i x1, .i x2, .i x3, .l x4, .l x5]) = f9_6_st N (fun x1 x2 x3 x4 x5 => roundsOf (E9 N) N9_6 6 B9_6 K n (fill f9_6_sh [.i x1, .i x2, .i x3, .l x4, .l x5])) (fun y1 y2 y3 y4 y5 y6 => K (X.normal) (fill f9_6_ex1 [.b y1, .i y2, .i y3, .i y4, .l y5, .l y6])) x1 x2 x3 x4 x5 := by kernel_rfl
theorem f9_6_lp_eq {R : Type} (N : Nat) (K : X → AS → Option R) : ∀ (n : Nat) (x1 : Int) (x2 : Int) (x3 : Int) (x4 : List Int) (x5 : List Int), roundsOf (E9 N) N9_6 6 B9_6 K n (fill f9_6_sh [.i x1, .i x2, .i x3, .l x4, .l x5]) = f9_6_lp N (fun y1 y2 y3 y4 y5 y6 => K (X.normal) (fill f9_6_ex1 [.b y1, .i y2, .i y3, .i y4, .l y5, .l y6])) n x1 x2 x3 x4 x5
  | 0, _, _, _, _, _ => rfl
  | n + 1, x1, x2, x3, x4, x5 => by
    rw [f9_6_st_eq, f9_6_lp, show (fun x1 x2 x3 x4 x5 => roundsOf (E9 N) N9_6 6 B9_6 K n (fill f9_6_sh [.i x1, .i x2, .i x3, .l x4, .l x5])) = f9_6_lp N (fun y1 y2 y3 y4 y5 y6 => K (X.normal) (fill f9_6_ex1 [.b y1, .i y2, .i y3, .i y4, .l y5, .l y6])) n from by funext x1 x2 x3 x4 x5; exact f9_6_lp_eq N K n x1 x2 x3 x4 x5]
theorem f9_6_ok (N : Nat) (hlp : LoopsOk Try.prog (E9 N).lp B9_6) (hΓ : CtxOk Try.prog (E9 N).Γ) : LoopOk Try.prog (mkL N9_6 f9_6_sh (f9_6_F N)) 6 B9_6 := by
  refine loopOk_of (E := E9 N) thOk hΓ mixed hlp ?_
  intro R ls K r h
  unfold f9_6_F at h
  split at h
  · exact ⟨N, by rw [f9_6_lp_eq]; exact h⟩
  · cases h
theorem f9_4_st_eq {R : Type} (N : Nat) (K : X → AS → Option R) (n : Nat) (x1 : Int) (x2 : Int) (x3 : List Int) (x4 : List Int) : roundsOf (E9 N) N9_4 4 B9_4 K (n + 1) (fill f9_4_sh [.i x1, .i x2, .l x3, .l x4]) = f9_4_st N (fun x1 x2 x3 x4 => roundsOf (E9 N) N9_4 4 B9_4 K n (fill f9_4_sh [.i x1, .i x2, .l x3, .l x4])) (fun y1 y2 y3 y4 y5 => K (X.normal) (fill f9_4_ex1 [.b y1, .i y2, .i y3, .l y4, .l y5])) x1 x2 x3 x4 := by kernel_rfl
theorem f9_4_lp_eq {R : Type} (N : Nat) (K : X → AS → Option R) : ∀ (n : Nat) (x1 : Int) (x2 : Int) (x3 : List Int) (x4 : List Int), roundsOf (E9 N) N9_4 4 B9_4 K n (fill f9_4_sh [.i x1, .i x2, .l x3, .l x4]) = f9_4_lp N (fun y1 y2 y3 y4 y5 => K (X.normal) (fill f9_4_ex1 [.b y1, .i y2, .i y3, .l y4, .l y5])) n x1 x2 x3 x4
  | 0, _, _, _, _ => rfl
  | n + 1, x1, x2, x3, x4 => by
    rw [f9_4_st_eq, f9_4_lp, show (fun x1 x2 x3 x4 => roundsOf (E9 N) N9_4 4 B9_4 K n (fill f9_4_sh [.i x1, .i x2, .l x3, .l x4])) = f9_4_lp N (fun y1 y2 y3 y4 y5 => K (X.normal) (fill f9_4_ex1 [.b y1, .i y2, .i y3, .l y4, .l y5])) n from by funext x1 x2 x3 x4; exact f9_4_lp_eq N K n x1 x2 x3 x4]
theorem f9_4_ok (N : Nat) (hlp : LoopsOk Try.prog (E9 N).lp B9_4) (hΓ : CtxOk Try.prog (E9 N).Γ) : LoopOk Try.prog (mkL N9_4 f9_4_sh (f9_4_F N)) 4 B9_4 := by
  refine loopOk_of (E := E9 N) thOk hΓ mixed hlp ?_
  intro R ls K r h
  unfold f9_4_F at h
  split at h
  · exact ⟨N, by rw [f9_4_lp_eq]; exact h⟩
  · cases h
theorem f9_10_st_eq {R : Type} (N : Nat) (K : X → AS → Option R) (n : Nat) (x1 : Int) (x2 : Int) (x3 : Int) (x4 : List Int) (x5 : List Int) (x6 : List Int) : roundsOf (E9 N) N9_10 10 B9_10 K (n + 1) (fill f9_10_sh [.i x1, .i x2, .i x3, .l x4, .l x5, .l x6]) = f9_10_st N (fun x1 x2 x3 x4 x5 x6 => roundsOf (E9 N) N9_10 10 B9_10 K n (fill f9_10_sh [.i x1, .i x2, .i x3, .l x4, .l x5, .l x6])) (fun y1 y2 y3 y4 y5 y6 y7 => K (X.normal) (fill f9_10_ex1 [.b y1, .i y2, .i y3, .i y4, .l y5, .l y6, .l y7])) x1 x2 x3 x4 x5 x6 := by kernel_rfl
theorem f9_10_lp_eq {R : Type} (N : Nat) (K : X → AS → Option R) : ∀ (n : Nat) (x1 : Int) (x2 : Int) (x3 : Int) (x4 : List Int) (x5 : List Int) (x6 : List Int), roundsOf (E9 N) N9_10 10 B9_10 K n (fill f9_10_sh [.i x1, .i x2, .i x3, .l x4, .l x5, .l x6]) = f9_10_lp N (fun y1 y2 y3 y4 y5 y6 y7 => K (X.normal) (fill f9_10_ex1 [.b y1, .i y2, .i y3, .i y4, .l y5, .l y6, .l y7])) n x1 x2 x3 x4 x5 x6
  | 0, _, _, _, _, _, _ => rfl
  | n + 1, x1, x2, x3, x4, x5, x6 => by
    rw [f9_10_st_eq, f9_10_lp, show (fun x1 x2 x3 x4 x5 x6 => roundsOf (E9 N) N9_10 10 B9_10 K n (fill f9_10_sh [.i x1, .i x2, .i x3, .l x4, .l x5, .l x6])) = f9_10_lp N (fun y1 y2 y3 y4 y5 y6 y7 => K (X.normal) (fill f9_10_ex1 [.b y1, .i y2, .i y3, .i y4, .l y5, .l y6, .l y7])) n from by funext x1 x2 x3 x4 x5 x6; exact f9_10_lp_eq N K n x1 x2 x3 x4 x5 x6]
theorem f9_10_ok (N : Nat) (hlp : LoopsOk Try.prog (E9 N).lp B9_10) (hΓ : CtxOk Try.prog (E9 N).Γ) : LoopOk Try.prog (mkL N9_10 f9_10_sh (f9_10_F N)) 10 B9_10 := by
  refine loopOk_of (E := E9 N) thOk hΓ mixed hlp ?_
  intro R ls K r h
  unfold f9_10_F at h
  split at h
  · exact ⟨N, by rw [f9_10_lp_eq]; exact h⟩
  · cases h
theorem f9_8_st_eq {R : Type} (N : Nat) (K : X → AS → Option R) (n : Nat) (x1 : Int) (x2 : Int) (x3 : List Int) (x4 : List Int) (x5 : List Int) : roundsOf (E9 N) N9_8 8 B9_8 K (n + 1) (fill f9_8_sh [.i x1, .i x2, .l x3, .l x4, .l x5]) = f9_8_st N (fun x1 x2 x3 x4 x5 => roundsOf (E9 N) N9_8 8 B9_8 K n (fill f9_8_sh [.i x1, .i x2, .l x3, .l x4, .l x5])) (fun y1 y2 y3 y4 y5 y6 => K (X.normal) (fill f9_8_ex1 [.b y1, .i y2, .i y3, .l y4, .l y5, .l y6])) x1 x2 x3 x4 x5 := by kernel_rfl
theorem f9_8_lp_eq {R : Type} (N : Nat) (K : X → AS → Option R) : ∀ (n : Nat) (x1 : Int) (x2 : Int) (x3 : List Int) (x4 : List Int) (x5 : List Int), roundsOf (E9 N) N9_8 8 B9_8 K n (fill f9_8_sh [.i x1, .i x2, .l x3, .l x4, .l x5]) = f9_8_lp N (fun y1 y2 y3 y4 y5 y6 => K (X.normal) (fill f9_8_ex1 [.b y1, .i y2, .i y3, .l y4, .l y5, .l y6])) n x1 x2 x3 x4 x5
  | 0, _, _, _, _, _ => rfl
  | n + 1, x1, x2, x3, x4, x5 => by
    rw [f9_8_st_eq, f9_8_lp, show (fun x1 x2 x3 x4 x5 => roundsOf (E9 N) N9_8 8 B9_8 K n (fill f9_8_sh [.i x1, .i x2, .l x3, .l x4, .l x5])) = f9_8_lp N (fun y1 y2 y3 y4 y5 y6 => K (X.normal) (fill f9_8_ex1 [.b y1, .i y2, .i y3, .l y4, .l y5, .l y6])) n from by funext x1 x2 x3 x4 x5; exact f9_8_lp_eq N K n x1 x2 x3 x4 x5]
theorem f9_8_ok (N : Nat) (hlp : LoopsOk Try.prog (E9 N).lp B9_8) (hΓ : CtxOk Try.prog (E9 N).Γ) : LoopOk Try.prog (mkL N9_8 f9_8_sh (f9_8_F N)) 8 B9_8 := by
  refine loopOk_of (E := E9 N) thOk hΓ mixed hlp ?_
  intro R ls K r h
  unfold f9_8_F at h
  split at h
  · exact ⟨N, by rw [f9_8_lp_eq]; exact h⟩
  · cases h

theorem lok9_10 (N : Nat) (hΓ : CtxOk Try.prog GT2) : LoopOk Try.prog (mkL N9_10 f9_10_sh (f9_10_F N)) 10 B9_10 := f9_10_ok N (loopsOk_of (l := []) (by kernel_rfl) trivial) hΓ
theorem lok9_8 (N : Nat) (hΓ : CtxOk Try.prog GT2) : LoopOk Try.prog (mkL N9_8 f9_8_sh (f9_8_F N)) 8 B9_8 := f9_8_ok N (loopsOk_of (l := [(10, B9_10)]) (by kernel_rfl) (allOk_cons (L := mkL N9_10 f9_10_sh (f9_10_F N)) rfl (lok9_10 N hΓ) trivial)) hΓ
theorem lok9_6 (N : Nat) (hΓ : CtxOk Try.prog GT2) : LoopOk Try.prog (mkL N9_6 f9_6_sh (f9_6_F N)) 6 B9_6 := f9_6_ok N (loopsOk_of (l := []) (by kernel_rfl) trivial) hΓ
theorem lok9_4 (N : Nat) (hΓ : CtxOk Try.prog GT2) : LoopOk Try.prog (mkL N9_4 f9_4_sh (f9_4_F N)) 4 B9_4 := f9_4_ok N (loopsOk_of (l := [(6, B9_6)]) (by kernel_rfl) (allOk_cons (L := mkL N9_6 f9_6_sh (f9_6_F N)) rfl (lok9_6 N hΓ) trivial)) hΓ
theorem lok9_2 (N : Nat) (hΓ : CtxOk Try.prog GT2) : LoopOk Try.prog (mkL N9_2 f9_2_sh (f9_2_F N)) 2 B9_2 := f9_2_ok N (loopsOk_of (l := []) (by kernel_rfl) trivial) hΓ
theorem lok9_0 (N : Nat) (hΓ : CtxOk Try.prog GT2) : LoopOk Try.prog (mkL N9_0 f9_0_sh (f9_0_F N)) 0 B9_0 := f9_0_ok N (loopsOk_of (l := []) (by kernel_rfl) trivial) hΓ
theorem f9_contract (N : Nat) (hΓ : CtxOk Try.prog GT2) : Contract Try.prog 9 { sig := S9, impl := fun _ ds k => call (E9 N) S9 161 B9 R9 ds k } :=
  call_contract (E := E9 N) thOk hΓ mixed ok9.look ok9.body ok9.n ok9.rv ok9.name rfl (by decide) (loopsOk_of (l := [(0, B9_0), (2, B9_2), (4, B9_4), (6, B9_6), (8, B9_8), (10, B9_10)]) (by kernel_rfl) (allOk_cons (L := mkL N9_0 f9_0_sh (f9_0_F N)) rfl (lok9_0 N hΓ) (allOk_cons (L := mkL N9_2 f9_2_sh (f9_2_F N)) rfl (lok9_2 N hΓ) (allOk_cons (L := mkL N9_4 f9_4_sh (f9_4_F N)) rfl (lok9_4 N hΓ) (allOk_cons (L := mkL N9_6 f9_6_sh (f9_6_F N)) rfl (lok9_6 N hΓ) (allOk_cons (L := mkL N9_8 f9_8_sh (f9_8_F N)) rfl (lok9_8 N hΓ) (allOk_cons (L := mkL N9_10 f9_10_sh (f9_10_F N)) rfl (lok9_10 N hΓ) trivial)))))))
theorem f9_raw_eq {R : Type} (N : Nat) (pts : List Int) (k : List DV → Option R) : call (E9 N) S9 161 B9 R9 [.lst (.mix ck32) 64 pts] k = f9_raw N pts k := by kernel_rfl
end Go.Proofs.Ytogcijgklnfjjaa

namespace Go.Proofs.Ytogcijgklnfjjaa
open Go Go.Eng
set_option maxRecDepth 100000
set_option linter.unusedVariables false

noncomputable def arrN (f : Nat → Nat) (n : Nat) : List Int := headG (fun i => sN (f i)) n
def upd (f : Nat → Nat) (i v j : Nat) : Nat := if j = i then v else f j
theorem arr_len (f : Nat → Nat) (n : Nat) : (arrN f n).length = n * 32 := headG_len (fun i => sN_len _) n
theorem arr_div (f : Nat → Nat) (n : Nat) : (arrN f n).length / 32 = n := by rw [arr_len]; omega
theorem arr_rows (f : Nat → Nat) (n : Nat) : nI (rowLen 32 (arrN f n)) = (n : Int) := by
  show ((((arrN f n).length / 32 : Nat)) : Int) = _
  rw [arr_div]
theorem arr_congr {f g : Nat → Nat} : ∀ {n}, (∀ i, i < n → f i = g i) → arrN f n = arrN g n
  | 0, _ => rfl
  | n + 1, h => by
    show headG _ n ++ sN (f n) = headG _ n ++ sN (g n)
    rw [h n (by omega)]
    exact congrArg (· ++ sN (g n)) (arr_congr (n := n) fun i hi => h i (by omega))
theorem arr_succ (f : Nat → Nat) (n : Nat) : arrN f (n + 1) = arrN f n ++ sN (f n) := rfl
theorem arr_split (f : Nat → Nat) {i : Nat} : ∀ {n}, i < n → ∃ C, arrN f n = arrN f i ++ (sN (f i) ++ C)
  | n + 1, h => by
    by_cases e : i = n
    · subst e; exact ⟨[], by rw [arr_succ, List.append_nil]⟩
    · obtain ⟨C, hC⟩ := arr_split f (i := i) (n := n) (by omega)
      exact ⟨C ++ sN (f n), by rw [arr_succ, hC]; simp [List.append_assoc]⟩
theorem arr_el (f : Nat → Nat) {i n : Nat} (h : i < n) : List.take 32 (List.drop (i * 32) (arrN f n)) = sN (f i) := by
  obtain ⟨C, hC⟩ := arr_split f h
  rw [hC, List.drop_left' (arr_len f i), List.take_left' (sN_len _)]
theorem arr_elF (f : Nat → Nat) {i n : Nat} (h : i < n) : elF (arrN f n) i = sN (f i) := arr_el f h
theorem arr_split2 (f : Nat → Nat) (v : Nat) {i : Nat} : ∀ {n}, i < n → ∃ C, arrN f n = arrN f i ++ (sN (f i) ++ C) ∧ arrN (upd f i v) n = arrN f i ++ (sN v ++ C)
  | n + 1, h => by
    by_cases e : i = n
    · subst e
      refine ⟨[], by rw [arr_succ, List.append_nil], ?_⟩
      rw [arr_succ, List.append_nil, show upd f i v i = v by simp [upd]]
      exact congrArg (· ++ sN v) (arr_congr fun j hj => by simp [upd, show j ≠ i by omega])
    · obtain ⟨C, h1, h2⟩ := arr_split2 f v (i := i) (n := n) (by omega)
      refine ⟨C ++ sN (f n), by rw [arr_succ, h1]; simp [List.append_assoc], ?_⟩
      rw [arr_succ, h2, show upd f i v n = f n by simp [upd, show n ≠ i from fun q => e q.symm]]; simp [List.append_assoc]
theorem arr_set (f : Nat → Nat) (v : Nat) {i n : Nat} (h : i < n) : splice (arrN f n) (.at (i * 32)) (sN v) = arrN (upd f i v) n := by
  obtain ⟨C, h1, h2⟩ := arr_split2 f v h
  rw [h1, h2]
  exact splice_mid (arr_len f i) (by rw [sN_len, sN_len])
theorem arr_zero : ∀ n, zerosOf (n * 32) = arrN (fun _ => 0) n
  | 0 => rfl
  | n + 1 => by
    rw [arr_succ, ← arr_zero n, ← b_zero', show (n + 1) * 32 = n * 32 + 32 by omega, zeros_app]; rfl
theorem arr_okF {f : Nat → Nat} {n : Nat} (h : n * 32 ≤ 1073741824) : okF (arrN f n) = true := by
  unfold okF
  rw [Bool.and_eq_true, Bool.and_eq_true]
  refine ⟨⟨?_, ?_⟩, ?_⟩
  · rw [arr_len, show n * 32 % 32 = 0 by omega]; rfl
  · rw [arr_len]; exact Nat.ble_eq ▸ h
  · rw [List.all_eq_true]
    clear h
    induction n with
    | zero => intro b hb; cases hb
    | succ n ih =>
      intro b hb
      rw [arr_succ] at hb
      rcases List.mem_append.1 hb with hb | hb
      · exact ih b hb
      · have := okB_sN (f n)
        unfold okB at this
        rw [Bool.and_eq_true, List.all_eq_true] at this
        exact this.2 b hb
theorem sN_inj1 {a b : Nat} (ha : a < ell) (hb : b < ell) (h : sN a = sN b) : a = b := by
  have := congrArg vS h
  rwa [vS_sN ha, vS_sN hb] at this
theorem wAdd {i : Nat} (h : i < 1073741824) : IntKind.i64.wrap ((i : Int) + 1) = ((i + 1 : Nat) : Int) := by
  rw [show (i : Int) + 1 = ((i + 1 : Nat) : Int) by omega]; exact wi64 (by omega)
theorem wSub {i : Nat} (h : i < 1073741824) : IntKind.i64.wrap (((i + 1 : Nat) : Int) - 1) = (i : Int) := by
  rw [show ((i + 1 : Nat) : Int) - 1 = (i : Int) by omega]; exact wi64 (by omega)
theorem toN (i : Nat) : mulE (Int.toNat (i : Int)) 32 = i * 32 := rfl
theorem ge0 (i : Nat) : decide ((0 : Int) ≤ (i : Int)) = true := decide_eq_true (by omega)
theorem ltT {i n : Nat} (h : i < n) : decide ((i : Int) < (n : Int)) = true := decide_eq_true (by omega)
theorem ltF {i n : Nat} (h : ¬ i < n) : decide ((i : Int) < (n : Int)) = false := decide_eq_false (by omega)

def iterF {α : Type} (step : Nat → α → α) : Nat → Nat → α → α
  | 0, _, g => g
  | m + 1, i, g => iterF step m (i + 1) (step i g)
theorem iterF_last {α : Type} (step : Nat → α → α) : ∀ (m i : Nat) (g : α), iterF step (m + 1) i g = step (i + m) (iterF step m i g)
  | 0, i, g => rfl
  | m + 1, i, g => by
    show iterF step (m + 1) (i + 1) (step i g) = step (i + (m + 1)) (iterF step m (i + 1) (step i g))
    rw [iterF_last step m (i + 1) (step i g), show i + 1 + m = i + (m + 1) by omega]
end Go.Proofs.Ytogcijgklnfjjaa

namespace Go.Proofs.Ytogcijgklnfjjaa
open Go Go.Eng
set_option maxRecDepth 100000
set_option linter.unusedVariables false

end Go.Proofs.Ytogcijgklnfjjaa

namespace Go.Proofs.Ytogcijgklnfjjaa
open Go Go.Eng
set_option maxRecDepth 100000
set_option linter.unusedVariables false

def LtE (g : Nat → Nat) : Prop := ∀ j, g j < ell
theorem LtE.upd {g : Nat → Nat} (h : LtE g) {v : Nat} (hv : v < ell) (i : Nat) : LtE (upd g i v) := fun j => by
  unfold Proofs.Ytogcijgklnfjjaa.upd; split
  · exact hv
  · exact h j
theorem ltE_zero : LtE (fun _ => 0) := fun _ => ell_pos
theorem iterF_inv {α : Type} {P : α → Prop} {step : Nat → α → α} (hs : ∀ i g, P g → P (step i g)) : ∀ (m i : Nat) (g : α), P g → P (iterF step m i g)
  | 0, _, _, h => h
  | m + 1, i, g, h => iterF_inv hs m (i + 1) _ (hs i g h)

noncomputable def numF (xs : List Int) (i : Nat) : Nat := vS (elF xs i)
theorem numF_lt (xs : List Int) : LtE (numF xs) := fun i => vS_lt _
end Go.Proofs.Ytogcijgklnfjjaa

namespace Go.Proofs.Ytogcijgklnfjjaa
open Go Go.Eng
set_option maxRecDepth 100000
set_option linter.unusedVariables false

end Go.Proofs.Ytogcijgklnfjjaa

namespace Go.Proofs.Ytogcijgklnfjjaa
open Go Go.Eng
set_option maxRecDepth 100000
set_option linter.unusedVariables false

theorem invN_zero : invN 0 = 0 := by
  rw [invN_def, powN_def, Nat.zero_pow (by rw [ell_def]; decide), Nat.zero_mod]
theorem numF_arr {p : Nat → Nat} (hp : LtE p) {m i : Nat} (h : i < m) : numF (arrN p m) i = p i := by
  unfold numF; rw [arr_elF p h, vS_sN (hp i)]
structure PB where
  p : Nat → Nat
  m : Nat
  b : Nat
structure PBOk (s : PB) : Prop where
  p : LtE s.p
  b : s.b < ell
end Go.Proofs.Ytogcijgklnfjjaa

namespace Go.Proofs.Ytogcijgklnfjjaa
open Go Go.Eng
set_option maxRecDepth 100000
set_option linter.unusedVariables false

def ptX (p : List Int) (i : Nat) : List Int := List.take 32 (List.drop (i * 64) p)
def ptY (p : List Int) (i : Nat) : List Int := List.take 32 (List.drop (i * 64 + 32) p)
def okP (p : List Int) : Bool := (Nat.beq (p.length % 64) 0 && Nat.ble p.length 1073741824) && p.all fun b => decide (0 ≤ b) && decide (b < 256)
theorem okP_n {p : List Int} (h : okP p = true) : p.length = (p.length / 64) * 64 ∧ p.length ≤ 1073741824 := by
  unfold okP at h
  simp only [Bool.and_eq_true] at h
  have h1 := Nat.eq_of_beq_eq_true h.1.1
  have h2 := Nat.le_of_ble_eq_true h.1.2
  omega
theorem okB_take {p : List Int} (h : p.all (fun b => decide (0 ≤ b) && decide (b < 256)) = true) {e : Nat} (he : e + 32 ≤ p.length) : okB (List.take 32 (List.drop e p)) = true := by
  have h3 := List.all_eq_true.1 h
  unfold okB
  rw [decide_eq_true (by rw [List.length_take, List.length_drop]; omega), Bool.true_and, List.all_eq_true]
  intro b hb
  exact h3 b (List.mem_of_mem_drop (List.mem_of_mem_take hb))
theorem okP_x {p : List Int} (h : okP p = true) {i : Nat} (hi : i < p.length / 64) : okB (ptX p i) = true := by
  have hn := okP_n h
  unfold okP at h
  rw [Bool.and_eq_true] at h
  exact okB_take h.2 (by omega)
theorem okP_y {p : List Int} (h : okP p = true) {i : Nat} (hi : i < p.length / 64) : okB (ptY p i) = true := by
  have hn := okP_n h
  unfold okP at h
  rw [Bool.and_eq_true] at h
  exact okB_take h.2 (by omega)
theorem rows64 (p : List Int) : nI (rowLen 64 p) = ((p.length / 64 : Nat) : Int) := rfl
noncomputable def pX (p : List Int) (i : Nat) : Nat := vS (ptX p i)
noncomputable def pY (p : List Int) (i : Nat) : Nat := vS (ptY p i)
theorem pX_lt (p : List Int) : LtE (pX p) := fun _ => vS_lt _
theorem pY_lt (p : List Int) : LtE (pY p) := fun _ => vS_lt _

def dupAll (key : Nat → List Int) : Nat → Nat → Bool
  | 0, _ => false
  | j + 1, i => hasK key (key i) i || dupAll key j (i + 1)
theorem dupAll_iff {key : Nat → List Int} : ∀ {j i}, dupAll key j i = true ↔ ∃ a b, a < b ∧ i ≤ b ∧ b < i + j ∧ key a = key b
  | 0, i => by
    simp only [dupAll, Bool.false_eq_true, false_iff]
    rintro ⟨a, b, h1, h2, h3, _⟩; omega
  | j + 1, i => by
    unfold dupAll
    rw [Bool.or_eq_true, hasK_iff, dupAll_iff (j := j)]
    constructor
    · rintro (⟨a, h1, h2⟩ | ⟨a, b, h1, h2, h3, h4⟩)
      · exact ⟨a, i, h1, by omega, by omega, h2⟩
      · exact ⟨a, b, h1, by omega, by omega, h4⟩
    · rintro ⟨a, b, h1, h2, h3, h4⟩
      by_cases e : b = i
      · subst e; exact .inl ⟨a, h1, h4⟩
      · exact .inr ⟨a, b, h1, by omega, by omega, h4⟩
noncomputable def keyP (p : List Int) (i : Nat) : List Int := sN (pX p i)
noncomputable def dupsP (p : List Int) : Bool := dupAll (keyP p) (p.length / 64) 0

theorem f9_seen {R : Type} {N : Nat} (K : Int → Option R) (k2 : Bool → Int → Int → List Int → List (List Int) → Option R) {p : List Int} {n : Nat} (hp : okP p = true) (hn : p.length / 64 = n) (hb : n ≤ 30000) :
    ∀ j i : Nat, i + j = n → ∀ fuel, j < fuel → f9_0_lp N (fun w _ _ _ _ _ _ _ _ _ _ => K w) k2 fuel (n : Int) (i : Int) p (seenG (keyP p) i) =
      bif dupAll (keyP p) j i then K 5 else k2 false (n : Int) (n : Int) p (seenG (keyP p) n) := by
  intro j
  induction j with
  | zero =>
    intro i h fuel hf
    obtain ⟨f, rfl⟩ : ∃ f, fuel = f + 1 := ⟨fuel - 1, by omega⟩
    show f9_0_st N (f9_0_lp N _ _ f) _ _ _ _ _ _ = _
    unfold f9_0_st
    rw [ltF (by omega), cond_false, show i = n by omega]
    rfl
  | succ j ih =>
    intro i h fuel hf
    obtain ⟨f, rfl⟩ : ∃ f, fuel = f + 1 := ⟨fuel - 1, by omega⟩
    show f9_0_st N (f9_0_lp N _ _ f) _ _ _ _ _ _ = _
    unfold f9_0_st
    have e1 : List.take 32 (List.drop (Int.toNat (i : Int) * 64 + 0) p) = ptX p i := rfl
    have hk : sN (addN (vS (ptX p i)) (vS (List.replicate 32 (0 : Int)))) = keyP p i := by
      rw [b_zero', vS_sN ell_pos, addN_zero (vS_lt _)]; rfl
    have hz : okB (List.replicate 32 (0 : Int)) = true := by rw [b_zero']; exact okB_sN 0
    rw [ltT (show i < n by omega), rows64, hn, ge0, ltT (show i < n by omega), e1, okP_x hp (by omega), hz, hk, seen_has, wAdd (by omega)]
    simp only [Bool.and_self, cond_true]
    unfold dupAll
    cases hasK (keyP p) (keyP p i) i with
    | true => rfl
    | false =>
      rw [cond_false, Bool.false_or]
      exact ih (i + 1) (by omega) f (by omega)

theorem f9_ys {R : Type} {N : Nat} (k1 : Bool → Int → Int → Int → List Int → List Int → Option R) {p : List Int} {n : Nat} (hp : okP p = true) (hn : p.length / 64 = n) (hb : n ≤ 30000) :
    ∀ j i : Nat, i + j = n → ∀ fuel, j < fuel → ∀ g, LtE g → f9_2_lp N k1 fuel (n : Int) (n : Int) (i : Int) p (arrN g n) = k1 false (n : Int) (n : Int) (n : Int) p (arrN (iterF (fun i g => upd g i (pY p i)) j i g) n) := by
  intro j
  induction j with
  | zero =>
    intro i h fuel hf g hg
    obtain ⟨f, rfl⟩ : ∃ f, fuel = f + 1 := ⟨fuel - 1, by omega⟩
    show f9_2_st N (f9_2_lp N _ f) _ _ _ _ _ _ = _
    unfold f9_2_st
    rw [ltF (by omega), cond_false, show i = n by omega]
    rfl
  | succ j ih =>
    intro i h fuel hf g hg
    obtain ⟨f, rfl⟩ : ∃ f, fuel = f + 1 := ⟨fuel - 1, by omega⟩
    show f9_2_st N (f9_2_lp N _ f) _ _ _ _ _ _ = _
    unfold f9_2_st
    have e1 : List.take 32 (List.drop (Int.toNat (i : Int) * 64 + (0 + 32)) p) = ptY p i := rfl
    have hk : addN (vS (ptY p i)) (vS (List.replicate 32 (0 : Int))) = pY p i := by
      rw [b_zero', vS_sN ell_pos, addN_zero (vS_lt _)]; rfl
    have hz : okB (List.replicate 32 (0 : Int)) = true := by rw [b_zero']; exact okB_sN 0
    rw [ltT (show i < n by omega), rows64, hn, ge0, ltT (show i < n by omega), e1, okP_y hp (by omega), hz, hk, arr_rows, ltT (show i < n by omega), wAdd (by omega), toN, arr_set g _ (show i < n by omega)]
    simp only [Bool.and_self, cond_true]
    exact ih (i + 1) (by omega) f (by omega) _ (hg.upd (vS_lt _) _)

def downF {α : Type} (step : Nat → α → α) (k : Nat) : Nat → α → α
  | 0, g => g
  | m + 1, g => downF step k m (step (k + m) g)
theorem downF_inv {α : Type} {P : α → Prop} {step : Nat → α → α} (hs : ∀ i g, P g → P (step i g)) (k : Nat) : ∀ (m : Nat) (g : α), P g → P (downF step k m g)
  | 0, _, h => h
  | m + 1, g, h => downF_inv hs k m _ (hs _ g h)

noncomputable def ddSt (X : Nat → Nat) (k i : Nat) (g : Nat → Nat) : Nat → Nat := upd g i (mulN (difN (g i) (g (i - 1))) (invN (difN (X i) (X (i - k)))))
theorem f9_dd {R : Type} {N : Nat} (k1 : Bool → Int → Int → Int → List Int → List Int → Option R) {p : List Int} {n k : Nat} (hp : okP p = true) (hn : p.length / 64 = n) (hb : n ≤ 30000) (hk : 1 ≤ k) :
    ∀ m : Nat, k + m ≤ n → ∀ fuel, m < fuel → ∀ g, LtE g → f9_6_lp N k1 fuel (n : Int) (k : Int) (((k + m : Nat) : Int) - 1) p (arrN g n) = k1 false (n : Int) (k : Int) ((k : Int) - 1) p (arrN (downF (ddSt (pX p) k) k m g) n) := by
  intro m
  induction m with
  | zero =>
    intro h fuel hf g hg
    obtain ⟨f, rfl⟩ : ∃ f, fuel = f + 1 := ⟨fuel - 1, by omega⟩
    show f9_6_st N (f9_6_lp N _ f) _ _ _ _ _ _ = _
    unfold f9_6_st
    rw [decide_eq_false (show ¬ (((k + 0 : Nat) : Int) - 1 ≥ (k : Int)) by omega), cond_false]
    rfl
  | succ m ih =>
    intro h fuel hf g hg
    obtain ⟨f, rfl⟩ : ∃ f, fuel = f + 1 := ⟨fuel - 1, by omega⟩
    show f9_6_st N (f9_6_lp N _ f) _ _ _ _ _ _ = _
    unfold f9_6_st
    rw [show ((k + (m + 1) : Nat) : Int) - 1 = ((k + m : Nat) : Int) by omega]
    have w1 : IntKind.i64.wrap (((k + m : Nat) : Int) - (k : Int)) = (m : Int) := by
      rw [show ((k + m : Nat) : Int) - (k : Int) = (m : Int) by omega]; exact wi64 (by omega)
    obtain ⟨q, hq⟩ : ∃ q, k + m = q + 1 := ⟨k + m - 1, by omega⟩
    have w2 : IntKind.i64.wrap (((k + m : Nat) : Int) - 1) = (q : Int) := by rw [hq]; exact wSub (by omega)
    have e1 : List.take 32 (List.drop (Int.toNat ((k + m : Nat) : Int) * 64 + (0 + 0)) p) = ptX p (k + m) := rfl
    have e2 : List.take 32 (List.drop (Int.toNat (m : Int) * 64 + (0 + 0)) p) = ptX p m := rfl
    have hz : okB (List.replicate 32 (0 : Int)) = true := by rw [b_zero']; exact okB_sN 0
    have hv0 : vS (List.replicate 32 (0 : Int)) = 0 := by rw [b_zero']; exact vS_sN ell_pos
    rw [w1, w2]
    dsimp only
    rw [decide_eq_true (show ((k + m : Nat) : Int) ≥ (k : Int) by omega), rows64, hn, ge0, ltT (show k + m < n by omega), ge0, ltT (show m < n by omega), e1, e2, okP_x hp (by omega), okP_x hp (by omega), okB_sN, vS_sN (difN_lt _ _),
      arr_rows, ge0, ltT (show q < n by omega), ltT (show k + m < n by omega), toN, toN, arr_el g (show k + m < n by omega), arr_el g (show q < n by omega), okB_sN, okB_sN, okB_sN, hz, okB_sN, vS_sN (hg _), vS_sN (hg _), vS_sN (difN_lt _ _), hv0, vS_sN (invN_lt _)]
    simp only [Bool.and_self, cond_true]
    rw [arr_set g _ (show k + m < n by omega), arr_set g _ (show k + m < n by omega)]
    have hstep : ddSt (pX p) k (k + m) g = upd g (k + m) (mulN (difN (g (k + m)) (g q)) (invN (difN (vS (ptX p (k + m))) (vS (ptX p m))))) := by
      unfold ddSt
      rw [show k + m - 1 = q by omega, show k + m - k = m by omega]; rfl
    have hd : downF (ddSt (pX p) k) k (m + 1) g = downF (ddSt (pX p) k) k m (ddSt (pX p) k (k + m) g) := rfl
    have hq2 : (q : Int) = ((k + m : Nat) : Int) - 1 := by omega
    rw [hd]
    by_cases h0 : difN (vS (ptX p (k + m))) (vS (ptX p m)) = 0
    · rw [decide_eq_true h0, cond_true]
      rw [h0, invN_zero] at hstep
      rw [← hstep, hq2]
      exact ih (by omega) f (by omega) _ (hg.upd (mulN_lt _ _) _)
    · rw [decide_eq_false h0, cond_false, ← hstep, hq2]
      exact ih (by omega) f (by omega) _ (hg.upd (mulN_lt _ _) _)

noncomputable def ddPass (X : Nat → Nat) (n k : Nat) (g : Nat → Nat) : Nat → Nat := downF (ddSt X k) k (n - k) g
theorem ddPass_lt {X : Nat → Nat} {n k : Nat} {g : Nat → Nat} (h : LtE g) : LtE (ddPass X n k g) := downF_inv (fun i g h => h.upd (mulN_lt _ _) _) _ _ _ h
theorem f9_passes {R : Type} {N : Nat} (k1 : Bool → Int → Int → List Int → List Int → Option R) {p : List Int} {n : Nat} (hp : okP p = true) (hn : p.length / 64 = n) (hb : n ≤ 30000) (hN : n < N) (h1n : 1 ≤ n) :
    ∀ j k : Nat, k + j = n → 1 ≤ k → ∀ fuel, j < fuel → ∀ g, LtE g → f9_4_lp N k1 fuel (n : Int) (k : Int) p (arrN g n) = k1 false (n : Int) (n : Int) p (arrN (iterF (ddPass (pX p) n) j k g) n) := by
  intro j
  induction j with
  | zero =>
    intro k h hk fuel hf g hg
    obtain ⟨f, rfl⟩ : ∃ f, fuel = f + 1 := ⟨fuel - 1, by omega⟩
    show f9_4_st N (f9_4_lp N _ f) _ _ _ _ _ = _
    unfold f9_4_st
    rw [ltF (by omega), cond_false, show k = n by omega]
    rfl
  | succ j ih =>
    intro k h hk fuel hf g hg
    obtain ⟨f, rfl⟩ : ∃ f, fuel = f + 1 := ⟨fuel - 1, by omega⟩
    show f9_4_st N (f9_4_lp N _ f) _ _ _ _ _ = _
    unfold f9_4_st
    obtain ⟨q, hq⟩ : ∃ q, n = q + 1 := ⟨n - 1, by omega⟩
    have w2 : IntKind.i64.wrap ((n : Int) - 1) = ((k + (n - k) : Nat) : Int) - 1 := by
      rw [show ((k + (n - k) : Nat) : Int) - 1 = (q : Int) by omega, hq]; exact wSub (by omega)
    rw [ltT (show k < n by omega), cond_true, w2]
    refine (f9_dd _ hp hn hb hk (n - k) (by omega) N (by omega) g hg).trans ?_
    rw [wAdd (by omega)]
    exact ih (k + 1) (by omega) (by omega) f (by omega) _ (ddPass_lt hg)

noncomputable def upSt (X : Nat → Nat) (k i : Nat) (g : Nat → Nat) : Nat → Nat := upd g i (difN (g (i - 1)) (mulN (g i) (X k)))
theorem f9_up {R : Type} {N : Nat} (k1 : Bool → Int → Int → Int → List Int → List Int → List Int → Option R) {p D : List Int} {n k : Nat} (hp : okP p = true) (hn : p.length / 64 = n) (hb : n ≤ 30000) (hk : k < n) :
    ∀ m : Nat, m + 1 ≤ n → ∀ fuel, m < fuel → ∀ g, LtE g → f9_10_lp N k1 fuel (n : Int) (k : Int) (m : Int) p D (arrN g n) = k1 false (n : Int) (k : Int) 0 p D (arrN (downF (upSt (pX p) k) 1 m g) n) := by
  intro m
  induction m with
  | zero =>
    intro h fuel hf g hg
    obtain ⟨f, rfl⟩ : ∃ f, fuel = f + 1 := ⟨fuel - 1, by omega⟩
    show f9_10_st N (f9_10_lp N _ f) _ _ _ _ _ _ _ = _
    unfold f9_10_st
    rw [decide_eq_false (show ¬ (((0 : Nat) : Int) > 0) by omega), cond_false]
    rfl
  | succ m ih =>
    intro h fuel hf g hg
    obtain ⟨f, rfl⟩ : ∃ f, fuel = f + 1 := ⟨fuel - 1, by omega⟩
    show f9_10_st N (f9_10_lp N _ f) _ _ _ _ _ _ _ = _
    unfold f9_10_st
    have e1 : List.take 32 (List.drop (Int.toNat (k : Int) * 64 + (0 + 0)) p) = ptX p k := rfl
    rw [decide_eq_true (show ((m + 1 : Nat) : Int) > 0 by omega), wSub (by omega)]
    dsimp only
    rw [rows64, hn, ge0, ge0, ge0, ltT (show k < n by omega), arr_rows, ltT (show m < n by omega), ltT (show m + 1 < n by omega), toN, toN, e1, arr_el g (show m + 1 < n by omega), arr_el g (show m < n by omega), okP_x hp (by omega), okB_sN, okB_sN, okB_sN, vS_sN (hg _), vS_sN (hg _), vS_sN (mulN_lt _ _), arr_set g _ (show m + 1 < n by omega)]
    simp only [Bool.and_self, cond_true]
    have hstep : upSt (pX p) k (1 + m) g = upd g (m + 1) (difN (g m) (mulN (g (m + 1)) (vS (ptX p k)))) := by
      unfold upSt
      rw [show 1 + m - 1 = m by omega, show 1 + m = m + 1 by omega]; rfl
    have hd : downF (upSt (pX p) k) 1 (m + 1) g = downF (upSt (pX p) k) 1 m (upSt (pX p) k (1 + m) g) := rfl
    rw [hd, hstep]
    exact ih (by omega) f (by omega) _ (hg.upd (difN_lt _ _) _)

noncomputable def outSt (X D : Nat → Nat) (n k : Nat) (g : Nat → Nat) : Nat → Nat :=
  upd (downF (upSt X k) 1 (n - 1) g) 0 (difN (D k) (mulN (downF (upSt X k) 1 (n - 1) g 0) (X k)))
theorem outSt_lt {X D : Nat → Nat} {n k : Nat} {g : Nat → Nat} (h : LtE g) : LtE (outSt X D n k g) := (downF_inv (P := LtE) (fun i g h => h.upd (difN_lt _ _) _) _ _ _ h).upd (difN_lt _ _) _
theorem f9_outs {R : Type} {N : Nat} (k1 : Bool → Int → Int → List Int → List Int → List Int → Option R) {p : List Int} {D : Nat → Nat} {n : Nat} (hp : okP p = true) (hn : p.length / 64 = n) (hb : n ≤ 30000) (hN : n < N) (h1n : 1 ≤ n) (hD : LtE D) :
    ∀ m : Nat, m ≤ n → ∀ fuel, m < fuel → ∀ g, LtE g → f9_8_lp N k1 fuel (n : Int) ((m : Int) - 1) p (arrN D n) (arrN g n) = k1 false (n : Int) (-1) p (arrN D n) (arrN (downF (outSt (pX p) D n) 0 m g) n) := by
  intro m
  induction m with
  | zero =>
    intro h fuel hf g hg
    obtain ⟨f, rfl⟩ : ∃ f, fuel = f + 1 := ⟨fuel - 1, by omega⟩
    show f9_8_st N (f9_8_lp N _ f) _ _ _ _ _ _ = _
    unfold f9_8_st
    rw [decide_eq_false (show ¬ (((0 : Nat) : Int) - 1 ≥ 0) by omega), cond_false]
    rfl
  | succ m ih =>
    intro h fuel hf g hg
    obtain ⟨f, rfl⟩ : ∃ f, fuel = f + 1 := ⟨fuel - 1, by omega⟩
    show f9_8_st N (f9_8_lp N _ f) _ _ _ _ _ _ = _
    unfold f9_8_st
    obtain ⟨q, hq⟩ : ∃ q, n = q + 1 := ⟨n - 1, by omega⟩
    have w2 : IntKind.i64.wrap ((n : Int) - 1) = ((n - 1 : Nat) : Int) := by
      rw [show ((n - 1 : Nat) : Int) = (q : Int) by omega, hq]; exact wSub (by omega)
    have g1lt : LtE (downF (upSt (pX p) m) 1 (n - 1) g) := downF_inv (P := LtE) (fun i g h => h.upd (difN_lt _ _) _) _ _ _ hg
    rw [show ((m + 1 : Nat) : Int) - 1 = (m : Int) by omega, decide_eq_true (show (m : Int) ≥ 0 by omega), cond_true, w2]
    refine (f9_up _ hp hn hb (show m < n by omega) (n - 1) (by omega) N (by omega) g hg).trans ?_
    have e1 : List.take 32 (List.drop (Int.toNat (m : Int) * 64 + (0 + 0)) p) = ptX p m := rfl
    have w3 : IntKind.i64.wrap ((m : Int) - 1) = (m : Int) - 1 := wrapI (by omega) (by omega)
    have e0 : mulE (Int.toNat 0) 32 = 0 * 32 := rfl
    rw [rows64, hn, ge0, ltT (show m < n by omega), arr_rows, arr_rows, ltT (show m < n by omega), show decide ((0 : Nat) ≤ 0) = true from rfl, decide_eq_true (show (0 : Int) < (n : Int) by omega), e1, e0, toN, arr_el _ (show 0 < n by omega), arr_el D (show m < n by omega), okP_x hp (by omega), okB_sN, okB_sN, okB_sN,
      vS_sN (hD _), vS_sN (g1lt _), vS_sN (mulN_lt _ _), arr_set _ _ (show 0 < n by omega), w3]
    simp only [Bool.and_self, cond_true]
    have hstep : outSt (pX p) D n (0 + m) g = upd (downF (upSt (pX p) m) 1 (n - 1) g) 0 (difN (D m) (mulN (downF (upSt (pX p) m) 1 (n - 1) g 0) (vS (ptX p m)))) := by
      unfold outSt
      rw [show 0 + m = m by omega]; rfl
    have hd : downF (outSt (pX p) D n) 0 (m + 1) g = downF (outSt (pX p) D n) 0 m (outSt (pX p) D n (0 + m) g) := rfl
    rw [hd, ← hstep]
    exact ih (by omega) f (by omega) _ (outSt_lt hg)

noncomputable def ysG (Y : Nat → Nat) (n : Nat) : Nat → Nat := iterF (fun i g => upd g i (Y i)) n 0 (fun _ => 0)
noncomputable def ddG (X Y : Nat → Nat) (n : Nat) : Nat → Nat := iterF (ddPass X n) (n - 1) 1 (ysG Y n)
noncomputable def newtG (X Y : Nat → Nat) (n : Nat) : Nat → Nat := downF (outSt X (ddG X Y n) n) 0 n (fun _ => 0)
theorem ysG_lt {Y : Nat → Nat} (h : LtE Y) (n : Nat) : LtE (ysG Y n) := iterF_inv (fun i g hg => hg.upd (h i) _) _ _ _ ltE_zero
theorem ddG_lt {X Y : Nat → Nat} (h : LtE Y) (n : Nat) : LtE (ddG X Y n) := iterF_inv (fun i g hg => ddPass_lt hg) _ _ _ (ysG_lt h n)
theorem newtG_lt (X Y : Nat → Nat) (n : Nat) : LtE (newtG X Y n) := downF_inv (fun i g hg => outSt_lt hg) _ _ _ ltE_zero

noncomputable def badP (p : List Int) : Bool := decide (p.length / 64 = 0) || decide (p.length / 64 > 255)
noncomputable def I9 : (R : Type) → List DV → (List DV → Option R) → Option R := fun _ ds k => match ds with
  | [.lst (.mix l) 64 p] => match cksEq l ck32 with
    | true => bif okP p then (bif badP p then k [.lst (.one .u8) 32 [], .v (.one (.int .i64 8))] else bif dupsP p then k [.lst (.one .u8) 32 [], .v (.one (.int .i64 5))]
        else k [.lst (.one .u8) 32 (arrN (newtG (pX p) (pY p) (p.length / 64)) (p.length / 64)), .v (.one (.int .i64 0))]) else none
    | false => none
  | _ => none
theorem c9 : Contract Try.prog 9 { sig := S9, impl := I9 } := by
  refine Contract.refine fun R ds k r h => ?_
  unfold I9 at h
  split at h
  · rename_i l p
    refine ⟨_, f9_contract (p.length / 64 + 2) GT2_ok, ?_⟩
    split at h
    · rename_i hl
      have hl := cksEq_iff.1 hl
      subst hl
      cases hc : okP p with
      | false => rw [hc] at h; cases h
      | true =>
        rw [hc, cond_true] at h
        have hlen := okP_n hc
        show call (E9 (p.length / 64 + 2)) S9 161 B9 R9 [DV.lst (RK.mix ck32) 64 p] k = some r
        rw [f9_raw_eq]
        unfold f9_raw
        rw [rows64]
        generalize hn : p.length / 64 = n at *
        unfold badP dupsP at h
        rw [hn] at h
        by_cases h0 : n = 0
        · rw [decide_eq_true h0, Bool.true_or, cond_true] at h
          subst h0
          exact h
        · have e0 : ((n : Int) == 0) = false := by simp; omega
          rw [e0, cond_false]
          dsimp only
          rw [decide_eq_false h0, Bool.false_or] at h
          have e1 : decide ((n : Int) > 255) = decide (n > 255) := by rw [Bool.eq_iff_iff]; simp; omega
          rw [cond_false, e1]
          cases h5 : decide (n > 255) with
          | true => rw [h5] at h; exact h
          | false =>
            rw [h5, cond_false] at h
            rw [cond_false]
            have h5 := of_decide_eq_false h5
            refine (f9_seen _ _ hc hn (by omega) n 0 (by omega) (n + 2) (by omega)).trans ?_
            cases hd : dupAll (keyP p) n 0 with
            | true => rw [hd] at h; exact h
            | false =>
              rw [hd, cond_false] at h
              rw [cond_false]
              have e2 : (decide (0 ≤ (n : Int)) && (decide ((n : Int) ≤ (n : Int)) && (decide ((n : Int) ≤ 281474976710656) && decide ((n : Int) * 32 ≤ 281474976710656)))) = true := by
                simp only [Bool.and_eq_true, decide_eq_true_eq]; omega
              rw [rows64, hn, e2, cond_true, toN, arr_zero]
              refine (f9_ys _ hc hn (by omega) n 0 (by omega) (n + 2) (by omega) _ ltE_zero).trans ?_
              refine (f9_passes _ hc hn (by omega) (by omega) (by omega) (n - 1) 1 (by omega) (by omega) (n + 2) (by omega) _ (ysG_lt (pY_lt p) n)).trans ?_
              rw [e2, cond_true, toN, arr_zero]
              have w2 : IntKind.i64.wrap ((n : Int) - 1) = (n : Int) - 1 := wrapI (by omega) (by omega)
              rw [w2]
              refine (f9_outs _ hc hn (by omega) (by omega) (by omega) (ddG_lt (pY_lt p) n) n (Nat.le_refl n) (n + 2) (by omega) _ ltE_zero).trans ?_
              exact h
    · cases h
  · cases h
end Go.Proofs.Ytogcijgklnfjjaa

namespace Go.Proofs.Ytogcijgklnfjjaa
open Go Go.Eng Go.ChangeShapes Go.WideShapes Go.RowKit
set_option maxRecDepth 100000
theorem own0 : ownKnob Try.prog.godebug = none := by kernel_rfl
theorem laidOut : laidOutB Try.prog = true := by kernel_rfl
theorem wf_u8 {y : Int} (h : (Lit.int .u8 y).wf = true) : 0 ≤ y ∧ y < 256 := by
  have := bounds_u8 h; omega
theorem bulk_one {H : Type} (d : DataW H) : 1 ≤ Rows.uptoBulk d := by
  cases d with
  | lit l => cases l <;> simp [Rows.uptoBulk]
  | nil => simp [Rows.uptoBulk]
  | ptr d => simp [Rows.uptoBulk]
  | slice elems spare => simp [Rows.uptoBulk]
  | agg parts => simp [Rows.uptoBulk]
  | iface t d => simp [Rows.uptoBulk]
  | map entries => simp [Rows.uptoBulk]
  | held h => simp [Rows.uptoBulk]
theorem bulk_length {H : Type} (l : List (DataW H)) : l.length ≤ Rows.uptoBulkAll l := by
  induction l with
  | nil => simp [Rows.uptoBulkAll]
  | cons x r ih => have := bulk_one x; simp only [Rows.uptoBulkAll, List.length_cons]; omega
theorem bulk_slice {H : Type} {d : DataW H} {len : Nat} (h : (d = .nil ∧ len = 0) ∨ ∃ elems spare, d = .slice elems spare ∧ elems.length = len) : len ≤ Rows.uptoBulk d := by
  rcases h with ⟨rfl, rfl⟩ | ⟨elems, spare, rfl, rfl⟩
  · exact Nat.zero_le _
  · have := bulk_length elems
    simp only [Rows.uptoBulk]; omega
theorem bulk_bound {H : Type} {l : List (DataW H)} (hk : Rows.uptoSmall H l = true) : Rows.uptoBulkAll l ≤ 1048576 := of_decide_eq_true hk
theorem elSc (H : Type) (enc : TypeId × Value → H) : IntEl H enc Try.prog 30 .u8 32 := intEl_array Try.underlying30 (by kernel_rfl) (by omega) (intEl_int Try.underlying5 (by kernel_rfl))
theorem elInt (H : Type) (enc : TypeId × Value → H) : IntEl H enc Try.prog 3 .i64 1 := intEl_int Try.underlying3 (by kernel_rfl)
theorem ck43_at : ∀ j, j < 33 → ckAt ck43 j = if j < 1 then .int .i64 else .int .u8 := fun j hj => ckEq_iff.1 ((by decide : ∀ j, j < 33 → ckEq (ckAt ck43 j) (if j < 1 then .int .i64 else .int .u8) = true) j hj)
theorem elSh (H : Type) (enc : TypeId × Value → H) : MixEl H enc Try.prog 43 ck43 33 := mixEl_struct2 Try.underlying43 (by kernel_rfl) (elInt H enc) (elSc H enc) rfl rfl rfl (by decide) ck43_at
theorem okB_row {x : List Int} (hl : x.length = 32) (hw : ∀ y ∈ x, (Lit.int .u8 y).wf = true) : okB x = true := by
  unfold okB
  rw [decide_eq_true hl, Bool.true_and, List.all_eq_true]
  intro b hb
  have := wf_u8 (hw b hb)
  rw [Bool.and_eq_true]
  exact ⟨decide_eq_true this.1, decide_eq_true this.2⟩
theorem okF_row {x : List Int} {len : Nat} (hm : len ≤ 1048576) (hl : x.length = len * 32) (hw : ∀ y ∈ x, (Lit.int .u8 y).wf = true) : okF x = true := by
  unfold okF
  rw [hl, Nat.mul_mod_left, show Nat.ble (len * 32) 1073741824 = true from Nat.ble_eq_true_of_le (by omega)]
  rw [show (Nat.beq 0 0 && true) = true from rfl, Bool.true_and, List.all_eq_true]
  intro b h
  have := wf_u8 (hw b h)
  rw [Bool.and_eq_true]
  exact ⟨decide_eq_true this.1, decide_eq_true this.2⟩
end Go.Proofs.Ytogcijgklnfjjaa

namespace Go.Proofs.Ytogcijgklnfjjaa
open Go Go.Eng
set_option maxRecDepth 100000
set_option linter.unusedVariables false

end Go.Proofs.Ytogcijgklnfjjaa

namespace Go.Proofs.Ytogcijgklnfjjaa
open Go Go.Eng
set_option maxRecDepth 100000
set_option linter.unusedVariables false

end Go.Proofs.Ytogcijgklnfjjaa

namespace Go.Proofs.Ytogcijgklnfjjaa
open Go Go.Eng
set_option maxRecDepth 100000
set_option linter.unusedVariables false

end Go.Proofs.Ytogcijgklnfjjaa

namespace Go.Proofs.Ytogcijgklnfjjaa
open Go Go.Eng
set_option maxRecDepth 100000
set_option linter.unusedVariables false

end Go.Proofs.Ytogcijgklnfjjaa

namespace Go.Proofs.Ytogcijgklnfjjaa
open Go Go.Eng
set_option maxRecDepth 100000
set_option linter.unusedVariables false

end Go.Proofs.Ytogcijgklnfjjaa

namespace Go.Proofs.Ytogcijgklnfjjaa
open Go Go.Eng
set_option maxRecDepth 100000
set_option linter.unusedVariables false

end Go.Proofs.Ytogcijgklnfjjaa

namespace Go.Proofs.Ytogcijgklnfjjaa
open Go Go.Eng
set_option maxRecDepth 100000
set_option linter.unusedVariables false

end Go.Proofs.Ytogcijgklnfjjaa

namespace Go.Proofs.Ytogcijgklnfjjaa
open Go Go.Eng
set_option maxRecDepth 100000
set_option linter.unusedVariables false

theorem upd_self (f : Nat → Nat) (i v : Nat) : upd f i v i = v := by simp [upd]

end Go.Proofs.Ytogcijgklnfjjaa

namespace Go.Proofs.Ytogcijgklnfjjaa
open Go Go.Eng
set_option maxRecDepth 100000
set_option linter.unusedVariables false

end Go.Proofs.Ytogcijgklnfjjaa

namespace Go.Proofs.Ytogcijgklnfjjaa
open Go Go.Eng
set_option maxRecDepth 100000
set_option linter.unusedVariables false

theorem plN_lt (x : Int) : plN x < ell := by
  have h : plN x < 18446744073709551616 := by
    unfold plN IntKind.wrap
    simp only [IntKind.bits, IntKind.signed, Bool.false_and, Bool.false_eq_true, if_false, show (2 : Int) ^ 64 = 18446744073709551616 by decide]
    omega
  rw [ell_def]; omega
theorem headG_lenK {g : Nat → List Int} {K : Nat} (hg : ∀ i, (g i).length = K) : ∀ n, (headG g n).length = n * K
  | 0 => by simp [headG]
  | n + 1 => by rw [headG, List.length_append, headG_lenK hg n, hg, Nat.succ_mul]
theorem headG_split (g : Nat → List Int) {i : Nat} : ∀ {n}, i < n → ∃ C, headG g n = headG g i ++ (g i ++ C)
  | n + 1, h => by
    by_cases e : i = n
    · subst e; exact ⟨[], by rw [List.append_nil]; rfl⟩
    · obtain ⟨C, hC⟩ := headG_split g (i := i) (n := n) (by omega)
      exact ⟨C ++ g n, by show headG g n ++ g n = _; rw [hC]; simp [List.append_assoc]⟩
end Go.Proofs.Ytogcijgklnfjjaa

namespace Go.Proofs.Ytogcijgklnfjjaa
open Go Go.Eng
set_option maxRecDepth 100000
set_option linter.unusedVariables false

noncomputable def plF (ids : List Int) (i : Nat) : Nat := plN (ids.getD i 0)
def shId (s : List Int) (i : Nat) : Int := s.getD (i * 33) 0
def shV (s : List Int) (i : Nat) : List Int := List.take 32 (List.drop (i * 33 + 1) s)
def allB (f : Nat → Bool) : Nat → Bool
  | 0 => true
  | n + 1 => allB f n && f n
theorem allB_iff {f : Nat → Bool} : ∀ {n}, allB f n = true ↔ ∀ i, i < n → f i = true
  | 0 => by simp [allB]
  | n + 1 => by
    unfold allB
    rw [Bool.and_eq_true, allB_iff (n := n)]
    constructor
    · rintro ⟨h1, h2⟩ i hi
      by_cases e : i = n
      · subst e; exact h2
      · exact h1 i (by omega)
    · exact fun h => ⟨fun i hi => h i (by omega), h n (by omega)⟩
def okS (s : List Int) : Bool := (Nat.beq (s.length % 33) 0 && Nat.ble s.length 1073741824) && allB (fun i => okB (shV s i)) (s.length / 33)
theorem okS_n {s : List Int} (h : okS s = true) : s.length = (s.length / 33) * 33 ∧ s.length ≤ 1073741824 ∧ ∀ i, i < s.length / 33 → okB (shV s i) = true := by
  unfold okS at h
  simp only [Bool.and_eq_true] at h
  have h1 := Nat.eq_of_beq_eq_true h.1.1
  have h2 := Nat.le_of_ble_eq_true h.1.2
  exact ⟨by omega, h2, allB_iff.1 h.2⟩
def idsS (s : List Int) (n : Nat) : List Int := headG (fun i => [shId s i]) n
noncomputable def ptsS (s : List Int) (n : Nat) : List Int := headG (fun i => sN (plN (shId s i)) ++ (shV s i ++ [])) n
theorem idsS_len (s : List Int) (n : Nat) : (idsS s n).length = n := by
  have := headG_lenK (g := fun i => [shId s i]) (K := 1) (fun i => rfl) n
  unfold idsS; omega
theorem idsS_get (s : List Int) {i n : Nat} (h : i < n) : (idsS s n).getD i 0 = shId s i := by
  obtain ⟨C, hC⟩ := headG_split (fun i => [shId s i]) h
  have hl : (headG (fun i => [shId s i]) i).length = i := idsS_len s i
  unfold idsS
  rw [hC, List.getD_eq_getElem?_getD, List.getElem?_append_right (by omega), hl, Nat.sub_self]; rfl
theorem ptsS_len {s : List Int} (hs : okS s = true) : ∀ n, n ≤ s.length / 33 → (ptsS s n).length = n * 64
  | 0, _ => rfl
  | n + 1, h => by
    have ih := ptsS_len hs n (by omega)
    show (ptsS s n ++ (sN (plN (shId s n)) ++ (shV s n ++ []))).length = _
    rw [List.length_append, ih, List.length_append, sN_len, List.append_nil, okB_len' ((okS_n hs).2.2 n (by omega))]; omega
theorem ptsS_x {s : List Int} (hs : okS s = true) {i n : Nat} (h : i < n) (hn : n ≤ s.length / 33) : ptX (ptsS s n) i = sN (plN (shId s i)) ∧ ptY (ptsS s n) i = shV s i := by
  obtain ⟨C, hC⟩ := headG_split (fun i => sN (plN (shId s i)) ++ (shV s i ++ [])) h
  have hl : (headG (fun i => sN (plN (shId s i)) ++ (shV s i ++ [])) i).length = i * 64 := ptsS_len hs i (by omega)
  have hv := okB_len' ((okS_n hs).2.2 i (by omega))
  have e : (ptsS s n).drop (i * 64) = sN (plN (shId s i)) ++ (shV s i ++ C) := by
    unfold ptsS
    rw [hC, List.drop_left' hl, List.append_nil, List.append_assoc]
  constructor
  · unfold ptX; rw [e, List.take_left' (sN_len _)]
  · unfold ptY
    rw [← List.drop_drop, e, List.drop_left' (sN_len _), List.take_left' hv]
theorem ptsS_ok {s : List Int} (hs : okS s = true) {n : Nat} (hn : n ≤ s.length / 33) (hb : n ≤ 1048576) : okP (ptsS s n) = true := by
  unfold okP
  rw [Bool.and_eq_true, Bool.and_eq_true]
  refine ⟨⟨?_, ?_⟩, ?_⟩
  · rw [ptsS_len hs n hn, Nat.mul_mod_left]; rfl
  · rw [ptsS_len hs n hn]; exact Nat.ble_eq ▸ (by omega)
  · rw [List.all_eq_true]
    clear hb
    induction n with
    | zero => intro b hb; cases hb
    | succ n ih =>
      intro b hb
      have hb : b ∈ ptsS s n ++ (sN (plN (shId s n)) ++ (shV s n ++ [])) := hb
      have all : ∀ x : List Int, okB x = true → b ∈ x → (decide (0 ≤ b) && decide (b < 256)) = true := fun x hx hm => by
        unfold okB at hx
        rw [Bool.and_eq_true, List.all_eq_true] at hx
        exact hx.2 b hm
      rcases List.mem_append.1 hb with hb | hb
      · exact ih (by omega) b hb
      · rcases List.mem_append.1 hb with hb | hb
        · exact all _ (okB_sN _) hb
        · rw [List.append_nil] at hb
          exact all _ ((okS_n hs).2.2 n (by omega)) hb
end Go.Proofs.Ytogcijgklnfjjaa

namespace Go.Proofs.Ytogcijgklnfjjaa
open Go Go.Eng Go.ChangeShapes Go.WideShapes Go.RowKit Go.ChangeAt
set_option maxRecDepth 100000
theorem okS_row {x : List Int} {len : Nat} (hm : len ≤ 1048576) (hl : x.length = len * 33) (hw : ∀ i y, x[i]? = some y → WfC (ckAt ck43 (i % 33)) y) : okS x = true := by
  unfold okS
  rw [hl, Nat.mul_mod_left, show Nat.ble (len * 33) 1073741824 = true from Nat.ble_eq_true_of_le (by omega), show len * 33 / 33 = len by omega]
  rw [show (Nat.beq 0 0 && true) = true from rfl, Bool.true_and]
  refine allB_iff.2 fun i hi => ?_
  unfold shV
  refine okB_row (by rw [List.length_take, List.length_drop, hl]; omega) fun y hy => ?_
  obtain ⟨j, hj⟩ := List.getElem?_of_mem hy
  have hj32 : j < 32 := by
    by_cases h : j < 32
    · exact h
    · rw [List.getElem?_eq_none (by rw [List.length_take]; omega)] at hj; cases hj
  rw [List.getElem?_take_of_lt hj32, List.getElem?_drop] at hj
  have h1 := hw _ y hj
  rw [show (i * 33 + 1 + j) % 33 = j + 1 by omega, ck43_at _ (by omega), if_neg (by omega)] at h1
  exact h1
end Go.Proofs.Ytogcijgklnfjjaa

namespace Go.Proofs.Ytogcijgklnfjjaa
open Go Go.Eng
end Go.Proofs.Ytogcijgklnfjjaa

namespace Go.Proofs.Ytogcijgklnfjjaa
open Go Go.Eng
set_option maxRecDepth 100000
set_option linter.unusedVariables false

end Go.Proofs.Ytogcijgklnfjjaa

namespace Go.Proofs.Ytogcijgklnfjjaa
open Go Go.Eng
set_option maxRecDepth 100000
set_option linter.unusedVariables false

end Go.Proofs.Ytogcijgklnfjjaa

namespace Go.Proofs.Ytogcijgklnfjjaa
open Go Go.Eng
set_option maxRecDepth 100000
set_option linter.unusedVariables false

end Go.Proofs.Ytogcijgklnfjjaa

namespace Go.Proofs.Ytogcijgklnfjjaa
open Go Go.Eng
set_option maxRecDepth 100000
set_option linter.unusedVariables false

instance : NeZero ell := ⟨by have := ell_pos; omega⟩
abbrev Q := Fin ell
def q (n : Nat) : Q := Fin.ofNat ell n
theorem q_val (n : Nat) : (q n).val = n % ell := rfl
theorem q_eq {a b : Nat} : q a = q b ↔ a % ell = b % ell := by
  constructor
  · intro h; have := congrArg Fin.val h; exact this
  · intro h; exact Fin.ext h
theorem q_inj {a b : Nat} (ha : a < ell) (hb : b < ell) (h : q a = q b) : a = b := by
  have := q_eq.1 h
  rwa [Nat.mod_eq_of_lt ha, Nat.mod_eq_of_lt hb] at this
theorem q_mod (a : Nat) : q (a % ell) = q a := q_eq.2 (Nat.mod_mod _ _)
theorem q_add' (a b : Nat) : q (a + b) = q a + q b := Fin.ext (by
  show (a + b) % ell = (a % ell + b % ell) % ell
  rw [← Nat.add_mod])
theorem q_mul' (a b : Nat) : q (a * b) = q a * q b := Fin.ext (by
  show (a * b) % ell = (a % ell * (b % ell)) % ell
  rw [← Nat.mul_mod])
theorem q_zero : q 0 = 0 := rfl
theorem q_one : q 1 = 1 := rfl
theorem q_add (a b : Nat) : q (addN a b) = q a + q b := by rw [addN_def, q_mod, q_add']
theorem q_mul (a b : Nat) : q (mulN a b) = q a * q b := by rw [mulN_def, q_mod, q_mul']
theorem q_neg {a : Nat} (h : a < ell) : q (negN a) = -q a := by
  have e : q (negN a) + q a = 0 := by rw [← q_add, addN_comm, addN_negN h, q_zero]
  grind
theorem q_dif (a : Nat) {b : Nat} (h : b < ell) : q (difN a b) = q a - q b := by
  unfold difN; rw [q_add, q_neg h]; grind
noncomputable def qi (a : Q) : Q := q (invN a.val)
theorem q_self (a : Q) : q a.val = a := Fin.ext (Nat.mod_eq_of_lt a.isLt)
theorem q_inv {a : Nat} (h : a < ell) : q (invN a) = qi (q a) := by unfold qi; rw [q_val, Nat.mod_eq_of_lt h]
theorem qi_mul {a : Q} (h : a ≠ 0) : a * qi a = 1 := by
  unfold qi
  have h0 : a.val ≠ 0 := fun e => h (by rw [← q_self a, e, q_zero])
  rw [← q_self a, q_val, Nat.mod_eq_of_lt a.isLt, ← q_mul, mulN_inv a.isLt h0, q_one]
theorem no_zero {a b : Q} (h : a * b = 0) : a = 0 ∨ b = 0 := by
  by_cases ha : a = 0
  · exact .inl ha
  · right
    have h1 := qi_mul ha
    grind
theorem sub_ne {a b : Q} (h : a ≠ b) : a - b ≠ 0 := fun e => h (by grind)
theorem q_ne {a b : Nat} (ha : a < ell) (hb : b < ell) (h : a ≠ b) : q a ≠ q b := fun e => h (q_inj ha hb e)

noncomputable def ev : Nat → (Nat → Q) → Q → Q
  | 0, _, _ => 0
  | n + 1, c, x => c 0 + x * ev n (fun i => c (i + 1)) x
noncomputable def pw (x : Q) : Nat → Q
  | 0 => 1
  | n + 1 => x * pw x n
theorem ev_congr : ∀ {n : Nat} {c d : Nat → Q} {x : Q}, (∀ i, i < n → c i = d i) → ev n c x = ev n d x
  | 0, _, _, _, _ => rfl
  | n + 1, c, d, x, h => by
    unfold ev
    rw [h 0 (by omega), ev_congr (n := n) (c := fun i => c (i + 1)) (d := fun i => d (i + 1)) fun i hi => h (i + 1) (by omega)]
theorem ev_sub : ∀ (n : Nat) (c d : Nat → Q) (x : Q), ev n (fun i => c i - d i) x = ev n c x - ev n d x
  | 0, _, _, _ => by unfold ev; grind
  | n + 1, c, d, x => by
    unfold ev
    rw [ev_sub n (fun i => c (i + 1)) (fun i => d (i + 1)) x]; grind
theorem ev_smul : ∀ (n : Nat) (a : Q) (c : Nat → Q) (x : Q), ev n (fun i => a * c i) x = a * ev n c x
  | 0, _, _, _ => by unfold ev; grind
  | n + 1, a, c, x => by
    unfold ev
    rw [ev_smul n a (fun i => c (i + 1)) x]; grind
theorem ev_zero (n : Nat) (x : Q) : ev n (fun _ => 0) x = 0 := by
  induction n with
  | zero => rfl
  | succ n ih => unfold ev; rw [ih]; grind
theorem ev_snoc : ∀ (n : Nat) (c : Nat → Q) (x : Q), ev (n + 1) c x = ev n c x + c n * pw x n
  | 0, c, x => by unfold ev ev pw; grind
  | n + 1, c, x => by
    have ih := ev_snoc n (fun i => c (i + 1)) x
    have e1 : ev (n + 2) c x = c 0 + x * ev (n + 1) (fun i => c (i + 1)) x := rfl
    have e2 : ev (n + 1) c x = c 0 + x * ev n (fun i => c (i + 1)) x := rfl
    have e3 : pw x (n + 1) = x * pw x n := rfl
    rw [e1, e2, e3, ih]; grind
noncomputable def quo : Nat → (Nat → Q) → Q → Nat → Q
  | 0, _, _, _ => 0
  | n + 1, c, s, 0 => ev (n + 1) (fun i => c (i + 1)) s
  | n + 1, c, s, i + 1 => quo n (fun i => c (i + 1)) s i
theorem quo_ev : ∀ (n : Nat) (c : Nat → Q) (s x : Q), ev (n + 1) c x = ev (n + 1) c s + (x - s) * ev n (quo n c s) x
  | 0, c, s, x => by
    have e1 : ∀ y : Q, ev 1 c y = c 0 + y * 0 := fun y => rfl
    have e2 : ev 0 (quo 0 c s) x = 0 := rfl
    rw [e1, e1, e2]; grind
  | n + 1, c, s, x => by
    have ih := quo_ev n (fun i => c (i + 1)) s x
    have e1 : ∀ y, ev (n + 2) c y = c 0 + y * ev (n + 1) (fun i => c (i + 1)) y := fun _ => rfl
    have e2 : ev (n + 1) (quo (n + 1) c s) x = ev (n + 1) (fun i => c (i + 1)) s + x * ev n (quo n (fun i => c (i + 1)) s) x := rfl
    rw [e1 x, e1 s, e2, ih]; grind
theorem quo_top : ∀ (n : Nat) (c : Nat → Q) (s : Q) (i : Nat), n ≤ i → quo n c s i = 0
  | 0, _, _, _, _ => rfl
  | n + 1, c, s, i + 1, h => quo_top n _ s i (by omega)
theorem quo_rec : ∀ (n : Nat) (c : Nat → Q) (s : Q) (j : Nat), j < n → quo n c s j = c (j + 1) + s * quo n c s (j + 1)
  | n + 1, c, s, 0, _ => by
    have e1 : quo (n + 1) c s 0 = c 1 + s * ev n (fun i => c (i + 1 + 1)) s := rfl
    have e2 : quo (n + 1) c s 1 = quo n (fun i => c (i + 1)) s 0 := rfl
    rw [e1, e2]
    cases n with
    | zero => rfl
    | succ n => rfl
  | n + 1, c, s, j + 1, h => quo_rec n (fun i => c (i + 1)) s j (by omega)
theorem roots : ∀ (n : Nat) (c r : Nat → Q), (∀ i, i < n → ev n c (r i) = 0) → (∀ i j, i < j → j < n → r i ≠ r j) → ∀ i, i < n → c i = 0
  | 0, _, _, _, _, i, h => by omega
  | n + 1, c, r, h, hd, i, hi => by
    have hs := h n (by omega)
    have hq : ∀ j, j < n → quo n c (r n) j = 0 := roots n (quo n c (r n)) r (fun j hj => by
      have h1 := quo_ev n c (r n) (r j)
      rw [h j (by omega), hs] at h1
      have h2 : (r j - r n) * ev n (quo n c (r n)) (r j) = 0 := by grind
      rcases no_zero h2 with h3 | h3
      · exact absurd h3 (sub_ne (hd j n hj (by omega)))
      · exact h3) (fun a b h1 h2 => hd a b h1 (by omega))
    have hc : ∀ j, j < n → c (j + 1) = 0 := fun j hj => by
      have h1 := quo_rec n c (r n) j hj
      have h2 : quo n c (r n) (j + 1) = 0 := by
        by_cases e : j + 1 < n
        · exact hq _ e
        · exact quo_top n c _ _ (by omega)
      rw [hq j hj, h2] at h1; grind
    cases i with
    | succ i => exact hc i (by omega)
    | zero =>
      have e1 : ev (n + 1) c (r n) = c 0 + r n * ev n (fun i => c (i + 1)) (r n) := rfl
      rw [hs, ev_congr (d := fun _ => 0) (fun j hj => hc j hj), ev_zero] at e1
      grind
theorem unique {n : Nat} {c d r : Nat → Q} (h : ∀ i, i < n → ev n c (r i) = ev n d (r i)) (hd : ∀ i j, i < j → j < n → r i ≠ r j) : ∀ i, i < n → c i = d i := fun i hi => by
  have := roots n (fun i => c i - d i) r (fun j hj => by rw [ev_sub, h j hj]; grind) hd i hi
  grind

end Go.Proofs.Ytogcijgklnfjjaa

namespace Go.Proofs.Ytogcijgklnfjjaa
open Go Go.Eng
set_option maxRecDepth 100000
set_option linter.unusedVariables false

section
variable (X y : Nat → Q)
noncomputable def nev : Nat → Nat → Q → Q
  | a, 0, _ => y a
  | a, m + 1, x => ((x - X a) * nev (a + 1) m x - (x - X (a + m + 1)) * nev a m x) * qi (X (a + m + 1) - X a)
noncomputable def dd : Nat → Nat → Q
  | 0, j => y j
  | k + 1, j => (dd k j - dd k (j - 1)) * qi (X j - X (j - (k + 1)))
noncomputable def pr (a : Nat) : Nat → Q → Q
  | 0, _ => 1
  | m + 1, x => pr a m x * (x - X (a + m))
theorem pr_front (a : Nat) (x : Q) : ∀ m, pr X a (m + 1) x = (x - X a) * pr X (a + 1) m x
  | 0 => by
    have e1 : pr X a 1 x = 1 * (x - X (a + 0)) := rfl
    have e2 : pr X (a + 1) 0 x = 1 := rfl
    rw [e1, e2, Nat.add_zero]; grind
  | m + 1 => by
    have ih := pr_front a x m
    have e1 : pr X a (m + 2) x = pr X a (m + 1) x * (x - X (a + (m + 1))) := rfl
    have e2 : pr X (a + 1) (m + 1) x = pr X (a + 1) m x * (x - X (a + 1 + m)) := rfl
    rw [e1, e2, ih, show a + (m + 1) = a + 1 + m by omega]; grind
theorem nev_both : ∀ (m a : Nat) (x : Q), (∀ i j, a ≤ i → i < j → j ≤ a + m + 1 → X i ≠ X j) →
    nev X y a (m + 1) x = nev X y a m x + dd X y (m + 1) (a + m + 1) * pr X a (m + 1) x ∧
    nev X y a (m + 1) x = nev X y (a + 1) m x + dd X y (m + 1) (a + m + 1) * pr X (a + 1) (m + 1) x
  | 0, a, x, h => by
    have hd := qi_mul (sub_ne (h a (a + 1) (by omega) (by omega) (by omega)).symm)
    have e1 : nev X y a 1 x = ((x - X a) * y (a + 1) - (x - X (a + 1)) * y a) * qi (X (a + 1) - X a) := rfl
    have e2 : dd X y 1 (a + 0 + 1) = (y (a + 1) - y a) * qi (X (a + 1) - X a) := by
      show (y (a + 0 + 1) - y (a + 0 + 1 - 1)) * qi (X (a + 0 + 1) - X (a + 0 + 1 - (0 + 1))) = _
      rfl
    have e3 : pr X a 1 x = 1 * (x - X (a + 0)) := rfl
    have e4 : pr X (a + 1) 1 x = 1 * (x - X (a + 1 + 0)) := rfl
    have e5 : nev X y a 0 x = y a := rfl
    have e6 : nev X y (a + 1) 0 x = y (a + 1) := rfl
    rw [Nat.add_zero] at e3 e4
    rw [show (0 : Nat) + 1 = 1 from rfl, e1, e2, e3, e4, e5, e6]
    constructor <;> grind
  | m + 1, a, x, h => by
    obtain ⟨a1, a2⟩ := nev_both m a x fun i j h1 h2 h3 => h i j h1 h2 (by omega)
    obtain ⟨b1, b2⟩ := nev_both m (a + 1) x fun i j h1 h2 h3 => h i j (by omega) h2 (by omega)
    have hd := qi_mul (sub_ne (h a (a + m + 2) (by omega) (by omega) (by omega)).symm)
    have e1 : nev X y a (m + 2) x = ((x - X a) * nev X y (a + 1) (m + 1) x - (x - X (a + m + 2)) * nev X y a (m + 1) x) * qi (X (a + m + 2) - X a) := rfl
    have e2 : dd X y (m + 2) (a + (m + 1) + 1) = (dd X y (m + 1) (a + m + 2) - dd X y (m + 1) (a + m + 1)) * qi (X (a + m + 2) - X a) := by
      show (dd X y (m + 1) (a + (m + 1) + 1) - dd X y (m + 1) (a + (m + 1) + 1 - 1)) * qi (X (a + (m + 1) + 1) - X (a + (m + 1) + 1 - (m + 1 + 1))) = _
      rw [show a + (m + 1) + 1 - 1 = a + m + 1 by omega, show a + (m + 1) + 1 - (m + 1 + 1) = a by omega, show a + (m + 1) + 1 = a + m + 2 by omega]
    rw [show a + 1 + m + 1 = a + m + 2 by omega] at b1 b2
    have e3 : pr X a (m + 2) x = (x - X a) * pr X (a + 1) (m + 1) x := pr_front X a x (m + 1)
    have e4 : pr X (a + 1) (m + 2) x = pr X (a + 1) (m + 1) x * (x - X (a + m + 2)) := by
      show pr X (a + 1) (m + 1) x * (x - X (a + 1 + (m + 1))) = _
      rw [show a + 1 + (m + 1) = a + m + 2 by omega]
    rw [show m + 1 + 1 = m + 2 from rfl, e2, e3, e4]
    
    generalize nev X y (a + 1) m x = C at *
    generalize pr X (a + 1) (m + 1) x = M at *
    generalize dd X y (m + 1) (a + m + 2) = d2 at *
    generalize dd X y (m + 1) (a + m + 1) = d1 at *
    rw [b1, a2] at e1
    rw [b1, a2, e1]
    generalize qi (X (a + m + 2) - X a) = I at *
    generalize X (a + m + 2) = u at *
    generalize X a = v at *
    constructor <;> grind
theorem nev_at : ∀ (m a i : Nat), a ≤ i → i ≤ a + m → (∀ i j, a ≤ i → i < j → j ≤ a + m → X i ≠ X j) → nev X y a m (X i) = y i
  | 0, a, i, h1, h2, _ => by rw [show i = a by omega]; rfl
  | m + 1, a, i, h1, h2, h => by
    have hd := qi_mul (sub_ne (h a (a + m + 1) (by omega) (by omega) (by omega)).symm)
    have e1 : nev X y a (m + 1) (X i) = ((X i - X a) * nev X y (a + 1) m (X i) - (X i - X (a + m + 1)) * nev X y a m (X i)) * qi (X (a + m + 1) - X a) := rfl
    rw [e1]
    by_cases c1 : i = a
    · rw [c1, nev_at m a a (by omega) (by omega) fun i j h1 h2 h3 => h i j h1 h2 (by omega)]; grind
    · by_cases c2 : i = a + m + 1
      · rw [c2, nev_at m (a + 1) (a + m + 1) (by omega) (by omega) fun i j h1 h2 h3 => h i j (by omega) h2 (by omega)]; grind
      · rw [nev_at m a i (by omega) (by omega) fun i j h1 h2 h3 => h i j h1 h2 (by omega), nev_at m (a + 1) i (by omega) (by omega) fun i j h1 h2 h3 => h i j (by omega) h2 (by omega)]; grind
noncomputable def nest (D : Nat → Q) : Nat → Nat → Q → Q
  | _, 0, _ => 0
  | k, m + 1, x => D k + (x - X k) * nest D (k + 1) m x
theorem nest_last (D : Nat → Q) (x : Q) : ∀ (m k : Nat), nest X D k (m + 1) x = nest X D k m x + D (k + m) * pr X k m x
  | 0, k => by
    have e1 : nest X D k 1 x = D k + (x - X k) * 0 := rfl
    have e2 : nest X D k 0 x = 0 := rfl
    have e3 : pr X k 0 x = 1 := rfl
    rw [e1, e2, e3, Nat.add_zero]; grind
  | m + 1, k => by
    have ih := nest_last D x m (k + 1)
    have e1 : nest X D k (m + 2) x = D k + (x - X k) * nest X D (k + 1) (m + 1) x := rfl
    have e2 : nest X D k (m + 1) x = D k + (x - X k) * nest X D (k + 1) m x := rfl
    rw [e1, e2, ih, pr_front, show k + 1 + m = k + (m + 1) by omega]; grind
theorem nest_nev (x : Q) : ∀ m, (∀ i j, i < j → j ≤ m → X i ≠ X j) → nest X (fun k => dd X y k k) 0 (m + 1) x = nev X y 0 m x
  | 0, _ => by
    have e1 : nest X (fun k => dd X y k k) 0 1 x = y 0 + (x - X 0) * 0 := rfl
    have e2 : nev X y 0 0 x = y 0 := rfl
    rw [e1, e2]; grind
  | m + 1, h => by
    rw [nest_last, nest_nev x m fun i j h1 h2 => h i j h1 (by omega), (nev_both X y m 0 x fun i j _ h2 h3 => h i j h2 (by omega)).1]
    simp only [Nat.zero_add]
end

theorem down_get {φ : Nat → (Nat → Nat) → Nat} (hφ : ∀ i g g', (∀ j, j ≤ i → g j = g' j) → φ i g = φ i g') (k : Nat) : ∀ (m : Nat) (g : Nat → Nat) (j : Nat),
    downF (fun i g => upd g i (φ i g)) k m g j = if k ≤ j ∧ j < k + m then φ j g else g j
  | 0, g, j => by rw [if_neg (by omega)]; rfl
  | m + 1, g, j => by
    show downF (fun i g => upd g i (φ i g)) k m (upd g (k + m) (φ (k + m) g)) j = _
    rw [down_get hφ k m]
    by_cases h1 : k ≤ j ∧ j < k + m
    · rw [if_pos h1, if_pos (by omega)]
      exact hφ j _ _ fun i hi => by simp [upd, show i ≠ k + m by omega]
    · rw [if_neg h1]
      by_cases h2 : j = k + m
      · subst h2; rw [if_pos (by omega)]; simp [upd]
      · rw [if_neg (by omega)]; simp [upd, h2]

theorem ysG_get (Y : Nat → Nat) (n : Nat) : ∀ (m i : Nat) (g : Nat → Nat) (j : Nat), iterF (fun i g => upd g i (Y i)) m i g j = if i ≤ j ∧ j < i + m then Y j else g j
  | 0, i, g, j => by rw [if_neg (by omega)]; rfl
  | m + 1, i, g, j => by
    show iterF (fun i g => upd g i (Y i)) m (i + 1) (upd g i (Y i)) j = _
    rw [ysG_get Y n m]
    by_cases h1 : j = i
    · subst h1; rw [if_neg (by omega), if_pos (by omega)]; simp [upd]
    · by_cases h2 : i + 1 ≤ j ∧ j < i + 1 + m
      · rw [if_pos h2, if_pos (by omega)]
      · rw [if_neg h2, if_neg (by omega)]; simp [upd, h1]

theorem pass_get (X : Nat → Nat) (n k : Nat) (g : Nat → Nat) (j : Nat) (hk : k ≤ n) : ddPass X n k g j = if k ≤ j ∧ j < n then mulN (difN (g j) (g (j - 1))) (invN (difN (X j) (X (j - k)))) else g j := by
  have := down_get (φ := fun i g => mulN (difN (g i) (g (i - 1))) (invN (difN (X i) (X (i - k))))) (fun i g g' h => by
    rw [h i (Nat.le_refl _), h (i - 1) (by omega)]) k (n - k) g j
  rw [show k + (n - k) = n by omega] at this
  exact this

theorem dd_table {X Y : Nat → Nat} (hX : LtE X) (hY : LtE Y) {n : Nat} : ∀ (k : Nat), k + 1 ≤ n → ∀ j, j < n →
    q (iterF (ddPass X n) k 1 (ysG Y n) j) = dd (fun i => q (X i)) (fun i => q (Y i)) (if j ≤ k then j else k) j
  | 0, h, j, hj => by
    have e : iterF (ddPass X n) 0 1 (ysG Y n) j = Y j := by
      show ysG Y n j = Y j
      unfold ysG
      rw [ysG_get Y n, if_pos (by omega)]
    rw [e]
    by_cases h0 : j ≤ 0
    · rw [if_pos h0, show j = 0 by omega]; rfl
    · rw [if_neg h0]; rfl
  | k + 1, h, j, hj => by
    rw [iterF_last, pass_get X n (1 + k) _ j (by omega)]
    have lt : LtE (iterF (ddPass X n) k 1 (ysG Y n)) := iterF_inv (fun i g hg => ddPass_lt hg) _ _ _ (ysG_lt hY n)
    have ih := dd_table hX hY (n := n) k (by omega)
    by_cases h1 : 1 + k ≤ j ∧ j < n
    · rw [if_pos h1, q_mul, q_inv (difN_lt _ _), q_dif _ (lt _), q_dif _ (hX _), ih j hj, ih (j - 1) (by omega), if_neg (by omega : ¬ j ≤ k)]
      have e2 : (if j - 1 ≤ k then j - 1 else k) = k := by
        by_cases e : j - 1 ≤ k
        · rw [if_pos e]; omega
        · rw [if_neg e]
      have e3 : (if j ≤ k + 1 then j else k + 1) = k + 1 := by
        by_cases e : j ≤ k + 1
        · rw [if_pos e]; omega
        · rw [if_neg e]
      rw [e2, e3, show 1 + k = k + 1 by omega]
      rfl
    · rw [if_neg h1, ih j hj, if_pos (by omega : j ≤ k), if_pos (by omega : j ≤ k + 1)]
theorem ddG_q {X Y : Nat → Nat} (hX : LtE X) (hY : LtE Y) {n : Nat} (hn : 1 ≤ n) {j : Nat} (hj : j < n) : q (ddG X Y n j) = dd (fun i => q (X i)) (fun i => q (Y i)) j j := by
  unfold ddG
  rw [dd_table hX hY (n - 1) (by omega) j hj, if_pos (by omega)]

theorem up_get (X : Nat → Nat) (k m : Nat) (g : Nat → Nat) (j : Nat) : downF (upSt X k) 1 m g j = if 1 ≤ j ∧ j < 1 + m then difN (g (j - 1)) (mulN (g j) (X k)) else g j :=
  down_get (φ := fun i g => difN (g (i - 1)) (mulN (g i) (X k))) (fun i g g' h => by
    rw [h i (Nat.le_refl _), h (i - 1) (by omega)]) 1 m g j
theorem out_ev {X D : Nat → Nat} (hX : LtE X) (hD : LtE D) {n k : Nat} {g : Nat → Nat} (hg : LtE g) (hn : 1 ≤ n) (htop : g (n - 1) = 0) (x : Q) :
    ev n (fun j => q (outSt X D n k g j)) x = q (D k) + (x - q (X k)) * ev n (fun j => q (g j)) x := by
  obtain ⟨m, rfl⟩ : ∃ m, n = m + 1 := ⟨n - 1, by omega⟩
  have hm : m + 1 - 1 = m := by omega
  rw [hm] at htop
  have e0 : outSt X D (m + 1) k g 0 = difN (D k) (mulN (g 0) (X k)) := by
    unfold outSt
    rw [hm, up_get, if_neg (by omega)]; simp [upd]
  have e1 : ∀ j, j < m → outSt X D (m + 1) k g (j + 1) = difN (g j) (mulN (g (j + 1)) (X k)) := fun j hj => by
    unfold outSt
    rw [hm]
    simp only [upd, Nat.succ_ne_zero, if_false]
    rw [up_get, if_pos (by omega)]
    simp
  have l1 : ev (m + 1) (fun j => q (outSt X D (m + 1) k g j)) x = q (outSt X D (m + 1) k g 0) + x * ev m (fun j => q (outSt X D (m + 1) k g (j + 1))) x := rfl
  have l2 : ev (m + 1) (fun j => q (g j)) x = q (g 0) + x * ev m (fun j => q (g (j + 1))) x := rfl
  have l3 : ev (m + 1) (fun j => q (g j)) x = ev m (fun j => q (g j)) x := by
    rw [ev_snoc]; simp only [htop, q_zero]; grind
  have l4 : ev m (fun j => q (outSt X D (m + 1) k g (j + 1))) x = ev m (fun j => q (g j)) x - q (X k) * ev m (fun j => q (g (j + 1))) x := by
    rw [← ev_smul, ← ev_sub]
    exact ev_congr fun j hj => by
      rw [e1 j hj, q_dif _ (mulN_lt _ _), q_mul]; grind
  rw [l1, e0, l4, q_dif _ (mulN_lt _ _), q_mul]
  rw [l3] at l2
  rw [l3]; grind
theorem outs_ev {X D : Nat → Nat} (hX : LtE X) (hD : LtE D) {n : Nat} (hn : 1 ≤ n) (x : Q) : ∀ (m k : Nat), k + m = n → ∃ g, LtE g ∧ (∀ j, n - k ≤ j → g j = 0) ∧
    ev n (fun j => q (g j)) x = nest (fun i => q (X i)) (fun i => q (D i)) k m x ∧ downF (outSt X D n) 0 n (fun _ => 0) = downF (outSt X D n) 0 k g
  | 0, k, h => ⟨fun _ => 0, ltE_zero, fun _ _ => rfl, by rw [show (fun (j : Nat) => q 0) = fun _ => (0 : Q) from rfl, ev_zero]; rfl, by rw [show k = n by omega]⟩
  | m + 1, k, h => by
    obtain ⟨g, g1, g2, g3, g4⟩ := outs_ev hX hD hn x m (k + 1) (by omega)
    refine ⟨outSt X D n k g, outSt_lt g1, ?_, ?_, ?_⟩
    · intro j hj
      unfold outSt
      have hj0 : j ≠ 0 := by omega
      simp only [upd, hj0, if_false]
      rw [up_get]
      by_cases hlt : 1 ≤ j ∧ j < 1 + (n - 1)
      · rw [if_pos hlt, g2 j (by omega), g2 (j - 1) (by omega), zero_mulN]
        unfold difN
        rw [negN_def, Nat.sub_zero, Nat.mod_self, addN_zero ell_pos]
      · rw [if_neg hlt]; exact g2 j (by omega)
    · rw [out_ev hX hD g1 hn (g2 _ (by omega)), g3]
      rfl
    · rw [g4]
      show downF (outSt X D n) 0 k (outSt X D n (0 + k) g) = _
      rw [Nat.zero_add]
theorem newt_ev {X Y : Nat → Nat} (hX : LtE X) (hY : LtE Y) {n : Nat} (hn : 1 ≤ n) (hd : ∀ i j, i < j → j < n → X i ≠ X j) (x : Q) :
    ev n (fun j => q (newtG X Y n j)) x = nev (fun i => q (X i)) (fun i => q (Y i)) 0 (n - 1) x := by
  obtain ⟨g, g1, g2, g3, g4⟩ := outs_ev hX (ddG_lt (X := X) hY n) hn x n 0 (by omega)
  have e : newtG X Y n = g := g4
  rw [e, g3]
  obtain ⟨m, rfl⟩ : ∃ m, n = m + 1 := ⟨n - 1, by omega⟩
  have hq : ∀ i j, i < j → j ≤ m → q (X i) ≠ q (X j) := fun i j h1 h2 => q_ne (hX i) (hX j) (hd i j h1 (by omega))
  rw [show m + 1 - 1 = m by omega, ← nest_nev _ _ x m hq]
  
  have hc : ∀ (m' k : Nat), k + m' ≤ m + 1 → nest (fun i => q (X i)) (fun i => q (ddG X Y (m + 1) i)) k m' x = nest (fun i => q (X i)) (fun k => dd (fun i => q (X i)) (fun i => q (Y i)) k k) k m' x := by
    intro m'
    induction m' with
    | zero => intro k _; rfl
    | succ m' ih =>
      intro k hk
      show q (ddG X Y (m + 1) k) + (x - q (X k)) * nest _ _ (k + 1) m' x = dd _ _ k k + (x - q (X k)) * nest _ _ (k + 1) m' x
      rw [ih (k + 1) (by omega), ddG_q hX hY (by omega) (show k < m + 1 by omega)]
  exact hc (m + 1) 0 (by omega)
theorem newt_at {X Y : Nat → Nat} (hX : LtE X) (hY : LtE Y) {n : Nat} (hn : 1 ≤ n) (hd : ∀ i j, i < j → j < n → X i ≠ X j) {i : Nat} (hi : i < n) :
    ev n (fun j => q (newtG X Y n j)) (q (X i)) = q (Y i) := by
  rw [newt_ev hX hY hn hd]
  exact nev_at (fun i => q (X i)) (fun i => q (Y i)) (n - 1) 0 i (by omega) (by omega) fun a b _ h2 h3 => q_ne (hX a) (hX b) (hd a b h2 (by omega))

end Go.Proofs.Ytogcijgklnfjjaa

namespace Go.Proofs.Ytogcijgklnfjjaa
open Go Go.Eng
set_option maxRecDepth 100000
set_option linter.unusedVariables false

end Go.Proofs.Ytogcijgklnfjjaa

namespace Go.Proofs.Ytogcijgklnfjjaa
open Go Go.Eng
set_option maxRecDepth 100000
set_option linter.unusedVariables false

end Go.Proofs.Ytogcijgklnfjjaa

namespace Go.Proofs.Ytogcijgklnfjjaa
open Go Go.Eng
set_option maxRecDepth 100000
set_option linter.unusedVariables false

end Go.Proofs.Ytogcijgklnfjjaa

namespace Go.Proofs.Ytogcijgklnfjjaa
open Go Go.Eng
set_option maxRecDepth 100000
set_option linter.unusedVariables false

end Go.Proofs.Ytogcijgklnfjjaa

namespace Go.Proofs.Ytogcijgklnfjjaa
open Go Go.Eng
set_option maxRecDepth 100000
set_option linter.unusedVariables false

end Go.Proofs.Ytogcijgklnfjjaa

namespace Go.Proofs.Ytogcijgklnfjjaa
open Go Go.Eng
set_option maxRecDepth 100000
set_option linter.unusedVariables false

end Go.Proofs.Ytogcijgklnfjjaa

namespace Go.Proofs.Ytogcijgklnfjjaa
open Go Go.Eng
set_option maxRecDepth 100000
set_option linter.unusedVariables false

theorem pigeon : ∀ (m n : Nat) (f : Nat → Nat), (∀ i, i < n → f i < m) → (∀ i j, i < j → j < n → f i ≠ f j) → n ≤ m
  | 0, n, f, h, _ => by
    cases n with
    | zero => exact Nat.le_refl _
    | succ n => have := h 0 (by omega); omega
  | m + 1, n, f, h, hi => by
    by_cases hx : ∃ i, i < n ∧ f i = m
    · obtain ⟨i, h1, h2⟩ := hx
      have := pigeon m (n - 1) (fun j => if j = i then f (n - 1) else f j) (fun j hj => by
        split
        · rename_i e
          have := h (n - 1) (by omega)
          have := hi i (n - 1) (by omega) (by omega)
          omega
        · rename_i e
          have := h j (by omega)
          have : f j ≠ m := fun e2 => by
            rcases Nat.lt_or_gt_of_ne e with h3 | h3
            · exact hi j i h3 h1 (by omega)
            · exact hi i j h3 (by omega) (by omega)
          omega) (fun a b hab hb => by
        by_cases ea : a = i
        · rw [if_pos ea, if_neg (by omega)]
          exact (hi b (n - 1) (by omega) (by omega)).symm
        · rw [if_neg ea]
          by_cases eb : b = i
          · rw [if_pos eb]; exact hi a (n - 1) (by omega) (by omega)
          · rw [if_neg eb]; exact hi a b hab (by omega))
      omega
    · have := pigeon m n f (fun j hj => by
        have := h j hj
        have : f j ≠ m := fun e => hx ⟨j, hj, e⟩
        omega) hi
      omega
theorem idsE_ok {xs : List Int} : ∀ {j i : Nat}, idsE xs j i = 0 → (∀ k, i ≤ k → k < i + j → 1 ≤ xs.getD k 0 ∧ xs.getD k 0 ≤ 255) ∧ ∀ a b, a < b → i ≤ b → b < i + j → xs.getD a 0 ≠ xs.getD b 0
  | 0, i, _ => ⟨fun k h1 h2 => by omega, fun a b h1 h2 h3 => by omega⟩
  | j + 1, i, h => by
    unfold idsE at h
    cases h1 : decide (xs.getD i 0 < 1) || decide (xs.getD i 0 > 255) with
    | true => rw [h1, cond_true] at h; cases h
    | false =>
      rw [h1, cond_false] at h
      cases h2 : dupF xs i i 0 with
      | true => rw [h2, cond_true] at h; cases h
      | false =>
        rw [h2, cond_false] at h
        obtain ⟨g1, g2⟩ := idsE_ok h
        rw [Bool.or_eq_false_iff] at h1
        have a1 := of_decide_eq_false h1.1
        have a2 := of_decide_eq_false h1.2
        refine ⟨fun k k1 k2 => ?_, fun a b b1 b2 b3 => ?_⟩
        · by_cases e : k = i
          · subst e; omega
          · exact g1 k (by omega) (by omega)
        · by_cases e : b = i
          · subst e
            intro e2
            have : dupF xs b b 0 = true := dupF_iff.2 ⟨a, by omega, by omega, e2⟩
            rw [h2] at this; cases this
          · exact g2 a b b1 (by omega) (by omega)
structure IdsOk (xs : List Int) : Prop where
  pos : 1 ≤ xs.length
  le : xs.length ≤ 255
  rng : ∀ k, k < xs.length → 1 ≤ xs.getD k 0 ∧ xs.getD k 0 ≤ 255
  ne : ∀ a b, a < b → b < xs.length → xs.getD a 0 ≠ xs.getD b 0
theorem ids_ok {xs : List Int} (h : idsN xs = 0) : IdsOk xs := by
  unfold idsN at h
  cases h0 : Nat.beq xs.length 0 with
  | true => rw [h0, cond_true] at h; cases h
  | false =>
    rw [h0, cond_false] at h
    obtain ⟨g1, g2⟩ := idsE_ok h
    have hp : 1 ≤ xs.length := by
      cases hl : xs.length with
      | zero => rw [hl] at h0; cases h0
      | succ n => omega
    have hr : ∀ k, k < xs.length → 1 ≤ xs.getD k 0 ∧ xs.getD k 0 ≤ 255 := fun k hk => g1 k (by omega) (by omega)
    have hn : ∀ a b, a < b → b < xs.length → xs.getD a 0 ≠ xs.getD b 0 := fun a b h1 h2 => g2 a b h1 (by omega) (by omega)
    refine ⟨hp, ?_, hr, hn⟩
    exact pigeon 255 xs.length (fun i => (xs.getD i 0 - 1).toNat) (fun i hi => by have := hr i hi; omega) (fun a b h1 h2 => by
      have := hr a (by omega)
      have := hr b h2
      have := hn a b h1 h2
      omega)
theorem plN_id {x : Int} (h1 : 1 ≤ x) (h2 : x ≤ 255) : plN x = x.toNat := by
  unfold plN IntKind.wrap
  simp only [IntKind.bits, IntKind.signed, Bool.false_and, Bool.false_eq_true, if_false, show (2 : Int) ^ 64 = 18446744073709551616 by decide]
  omega
theorem IdsOk.pl {xs : List Int} (h : IdsOk xs) : ∀ i j, i < j → j < xs.length → plF xs i ≠ plF xs j := fun i j h1 h2 => by
  have a1 := h.rng i (by omega)
  have a2 := h.rng j h2
  have a3 := h.ne i j h1 h2
  unfold plF
  rw [plN_id a1.1 a1.2, plN_id a2.1 a2.2]; omega
noncomputable def zS : List Int := sN 0
theorem zS_eq : List.replicate 32 (0 : Int) = zS := b_zero'
theorem vS_z : vS (List.replicate 32 (0 : Int)) = 0 := by rw [b_zero']; exact vS_sN ell_pos
theorem okB_z : okB (List.replicate 32 (0 : Int)) = true := by rw [b_zero']; exact okB_sN 0

end Go.Proofs.Ytogcijgklnfjjaa

namespace Go.Proofs.Ytogcijgklnfjjaa
open Go Go.Eng
set_option maxRecDepth 100000
set_option linter.unusedVariables false

def f20_0_sh : Shp := { n := 21, lo := 1, slots := [(0, .one (.fix (At.own 0))), (3, .one (.fix (At.own 1000003))), (4, .one (.int IntKind.i64))], items := [(1000003, .row (RK.one IntKind.u8) 32), (0, .view (RK.one IntKind.u8) 32)] }
def f20_0_ex1 : Shp := { n := 21, lo := 1, slots := [(8, .one (.bool)), (0, .one (.fix (At.own 0))), (3, .one (.fix (At.own 1000003))), (4, .one (.int IntKind.i64))], items := [(1000003, .row (RK.one IntKind.u8) 32), (0, .view (RK.one IntKind.u8) 32)] }
noncomputable def f20_0_st {R : Type} (N : Nat) (self : Int → List Int → List Int → Option R) (k1 : Bool → Int → List Int → List Int → Option R) (x1 : Int) (x2 : List Int) (x3 : List Int) : Option R :=
 bif Decidable.decide (x1 < nI (rowLen 32 x3)) then
 bif Decidable.decide (0 ≤ x1) && Decidable.decide (x1 < nI (rowLen 32 x3)) then
 bif okB (List.take 32 (List.drop (mulE x1.toNat 32) x3)) && okB (List.replicate 32 0) then
 let v0 : List Int := splice (zerosOf (1 * 32)) (Off.at (0 * 32)) (sN (addN (vS (List.take 32 (List.drop (mulE x1.toNat 32) x3))) (vS (List.replicate 32 0))));
 bif ((2 * (rowLen 32 x2 + rowLen 32 v0) + 192) * 32).ble big48 && (rowLen 32 x2 + rowLen 32 v0).ble big48 then
 let v1 : Int := IntKind.i64.wrap (x1 + 1);
 let v2 : List Int := x2 ++ v0;
 self v1 v2 x3
 else Option.none
 else Option.none
 else Option.none
else k1 (Decidable.decide (x1 < nI (rowLen 32 x3))) x1 x2 x3
noncomputable def f20_0_lp {R : Type} (N : Nat) (k1 : Bool → Int → List Int → List Int → Option R) : Nat → Int → List Int → List Int → Option R
 | 0, _, _, _ => none
 | n + 1, x1, x2, x3 => f20_0_st N (f20_0_lp N k1 n) k1 x1 x2 x3
noncomputable def f20_0_F (N : Nat) : (R : Type) → List Leaf → (X → AS → Option R) → Option R := fun _ ls K => match ls with
 | [.i x1, .l x2, .l x3] => f20_0_lp N (fun y1 y2 y3 y4 => K (X.normal) (fill f20_0_ex1 [.b y1, .i y2, .l y3, .l y4])) N x1 x2 x3
 | _ => none
noncomputable def f20_raw {R : Type} (N : Nat) (xs : List Int) (k : List DV → Option R) : Option R :=
 f20_0_lp N (fun w0_1 w0_2 w0_3 w0_4 => k [DV.lst (RK.one IntKind.u8) 32 w0_3]) N 0 [] xs


noncomputable def E20 (N : Nat) : Env := { Θ := Th, Γ := GRX, K := K20, ν := N20, fuel := 0, lp := [(0, mkL N20_0 f20_0_sh (f20_0_F N))] }

theorem f20_0_st_eq {R : Type} (N : Nat) (K : X → AS → Option R) (n : Nat) (x1 : Int) (x2 : List Int) (x3 : List Int) : roundsOf (E20 N) N20_0 0 B20_0 K (n + 1) (fill f20_0_sh [.i x1, .l x2, .l x3]) = f20_0_st N (fun x1 x2 x3 => roundsOf (E20 N) N20_0 0 B20_0 K n (fill f20_0_sh [.i x1, .l x2, .l x3])) (fun y1 y2 y3 y4 => K (X.normal) (fill f20_0_ex1 [.b y1, .i y2, .l y3, .l y4])) x1 x2 x3 := by kernel_rfl
theorem f20_0_lp_eq {R : Type} (N : Nat) (K : X → AS → Option R) : ∀ (n : Nat) (x1 : Int) (x2 : List Int) (x3 : List Int), roundsOf (E20 N) N20_0 0 B20_0 K n (fill f20_0_sh [.i x1, .l x2, .l x3]) = f20_0_lp N (fun y1 y2 y3 y4 => K (X.normal) (fill f20_0_ex1 [.b y1, .i y2, .l y3, .l y4])) n x1 x2 x3
  | 0, _, _, _ => rfl
  | n + 1, x1, x2, x3 => by
    rw [f20_0_st_eq, f20_0_lp, show (fun x1 x2 x3 => roundsOf (E20 N) N20_0 0 B20_0 K n (fill f20_0_sh [.i x1, .l x2, .l x3])) = f20_0_lp N (fun y1 y2 y3 y4 => K (X.normal) (fill f20_0_ex1 [.b y1, .i y2, .l y3, .l y4])) n from by funext x1 x2 x3; exact f20_0_lp_eq N K n x1 x2 x3]
theorem f20_0_ok (N : Nat) (hlp : LoopsOk Try.prog (E20 N).lp B20_0) (hΓ : CtxOk Try.prog (E20 N).Γ) : LoopOk Try.prog (mkL N20_0 f20_0_sh (f20_0_F N)) 0 B20_0 := by
  refine loopOk_of (E := E20 N) thOk hΓ mixed hlp ?_
  intro R ls K r h
  unfold f20_0_F at h
  split at h
  · exact ⟨N, by rw [f20_0_lp_eq]; exact h⟩
  · cases h

theorem lok20_0 (N : Nat) (hΓ : CtxOk Try.prog GRX) : LoopOk Try.prog (mkL N20_0 f20_0_sh (f20_0_F N)) 0 B20_0 := f20_0_ok N (loopsOk_of (l := []) (by kernel_rfl) trivial) hΓ
theorem f20_contract (N : Nat) (hΓ : CtxOk Try.prog GRX) : Contract Try.prog 20 { sig := S20, impl := fun _ ds k => call (E20 N) S20 21 B20 R20 ds k } :=
  call_contract (E := E20 N) thOk hΓ mixed ok20.look ok20.body ok20.n ok20.rv ok20.name rfl (by decide) (loopsOk_of (l := [(0, B20_0)]) (by kernel_rfl) (allOk_cons (L := mkL N20_0 f20_0_sh (f20_0_F N)) rfl (lok20_0 N hΓ) trivial))
theorem f20_raw_eq {R : Type} (N : Nat) (xs : List Int) (k : List DV → Option R) : call (E20 N) S20 21 B20 R20 [.lst (.one .u8) 32 xs] k = f20_raw N xs k := by kernel_rfl
end Go.Proofs.Ytogcijgklnfjjaa

namespace Go.Proofs.Ytogcijgklnfjjaa
open Go Go.Eng
set_option maxRecDepth 100000
set_option linter.unusedVariables false

noncomputable def f21_raw {R : Type} (N : Nat) (xs : List Int) (x : Int) (k : List DV → Option R) : Option R :=
 bif !(Decidable.decide (x ≥ 1) && Decidable.decide (x ≤ 255)) then k [DV.v (SV.one (At.ints IntKind.u8 32 (List.replicate 32 0))), DV.v (SV.one (At.int IntKind.i64 4))] else bif okF xs && okB (sN (plN x)) then k [DV.v (SV.one (At.ints IntKind.u8 32 (sN (evN xs (vS (sN (plN x))))))), DV.v (SV.one (At.int IntKind.i64 0))] else Option.none


noncomputable def E21 (N : Nat) : Env := { Θ := Th, Γ := GT1, K := K21, ν := N21, fuel := 0, lp := [] }


theorem f21_contract (N : Nat) (hΓ : CtxOk Try.prog GT1) : Contract Try.prog 21 { sig := S21, impl := fun _ ds k => call (E21 N) S21 14 B21 R21 ds k } :=
  call_contract (E := E21 N) thOk hΓ mixed ok21.look ok21.body ok21.n ok21.rv ok21.name rfl (by decide) (loopsOk_of (l := []) (by kernel_rfl) trivial)
theorem f21_raw_eq {R : Type} (N : Nat) (xs : List Int) (x : Int) (k : List DV → Option R) : call (E21 N) S21 14 B21 R21 [.lst (.one .u8) 32 xs, .v (.one (.int .i64 x))] k = f21_raw N xs x k := by kernel_rfl
end Go.Proofs.Ytogcijgklnfjjaa

namespace Go.Proofs.Ytogcijgklnfjjaa
open Go Go.Eng
set_option maxRecDepth 100000

def elC : Nat := 7237005577332262213973186563042994240857116359379907606001950938285454250989
theorem ell_elC : ell = elC := ell_def
def sC (v : Nat) : List Int := nats (digs 256 32 v)
theorem sN_sC (v : Nat) : sN v = sC v := sN_def v
def vC (x : List Int) : Nat := numB x % elC
theorem vS_vC (x : List Int) : vS x = vC x := by rw [vS_def, ell_elC]; rfl
def pwC : Nat → Nat → Nat → Nat
  | 0, _, _ => 1
  | n + 1, b, e => bif Nat.beq (e % 2) 1 then b * pwC n (b * b % elC) (e / 2) % elC else pwC n (b * b % elC) (e / 2)
theorem pwC_eq : ∀ (n b e : Nat), e < 2 ^ n → pwC n b e % elC = b ^ e % elC
  | 0, b, e, h => by
    have : e = 0 := by simp at h; exact h
    subst this; rfl
  | n + 1, b, e, h => by
    have ih := pwC_eq n (b * b % elC) (e / 2) (by rw [Nat.pow_succ] at h; omega)
    have e1 : (b * b % elC) ^ (e / 2) % elC = b ^ (2 * (e / 2)) % elC := by
      rw [← Nat.pow_mod, ← Nat.pow_two, ← Nat.pow_mul]
    unfold pwC
    have h2 := Nat.mod_two_eq_zero_or_one e
    cases hb : Nat.beq (e % 2) 1 with
    | true =>
      have h3 := Nat.eq_of_beq_eq_true hb
      rw [cond_true, Nat.mod_mod, Nat.mul_mod, ih, e1, ← Nat.mul_mod]
      have : e = 2 * (e / 2) + 1 := by omega
      rw [show b * b ^ (2 * (e / 2)) = b ^ (2 * (e / 2) + 1) by rw [Nat.pow_succ, Nat.mul_comm], ← this]
    | false =>
      have h3 : e % 2 ≠ 1 := fun q => by rw [q] at hb; cases hb
      rw [cond_false, ih, e1]
      have : e = 2 * (e / 2) := by omega
      rw [← this]
def inC (a : Nat) : Nat := pwC 256 a 7237005577332262213973186563042994240857116359379907606001950938285454250987 % elC
theorem invN_inC (a : Nat) : invN a = inC a := by
  rw [invN_def, powN_def, ell_elC]
  exact (pwC_eq 256 a _ (by decide +kernel)).symm

def adC (a b : Nat) : Nat := (a + b) % elC
def ngC (a : Nat) : Nat := (elC - a) % elC
def mlC (a b : Nat) : Nat := a * b % elC
theorem addN_adC (a b : Nat) : addN a b = adC a b := by rw [addN_def, ell_elC]; rfl
theorem negN_ngC (a : Nat) : negN a = ngC a := by rw [negN_def, ell_elC]; rfl
theorem mulN_mlC (a b : Nat) : mulN a b = mlC a b := by rw [mulN_def, ell_elC]; rfl
theorem difN_C (a b : Nat) : difN a b = adC a (ngC b) := by unfold difN; rw [addN_adC, negN_ngC]

def C30 : (R : Type) → List DV → (List DV → Option R) → Option R := fun _ ds k => match ds with
  | [.v (.one (.ints .u8 32 x)), .v (.one (.ints .u8 32 y))] => bif okB x && okB y then k [.v (.one (.ints .u8 32 (sC (adC (vC x) (vC y)))))] else none
  | _ => none
def C32 : (R : Type) → List DV → (List DV → Option R) → Option R := fun _ ds k => match ds with
  | [.v (.one (.ints .u8 32 x)), .v (.one (.ints .u8 32 y))] => bif okB x && okB y then k [.v (.one (.ints .u8 32 (sC (adC (vC x) (ngC (vC y))))))] else none
  | _ => none
def C33 : (R : Type) → List DV → (List DV → Option R) → Option R := fun _ ds k => match ds with
  | [.v (.one (.ints .u8 32 x)), .v (.one (.ints .u8 32 y))] => bif okB x && okB y then k [.v (.one (.ints .u8 32 (sC (mlC (vC x) (vC y)))))] else none
  | _ => none
def C42 : (R : Type) → List DV → (List DV → Option R) → Option R := fun _ ds k => match ds with
  | [.v (.one (.ints .u8 32 x)), .v (.one (.ints .u8 32 y)), .v (.one (.ints .u8 32 z))] => bif okB x && okB y && okB z then k [.v (.one (.ints .u8 32 (sC (adC (mlC (vC x) (vC y)) (vC z)))))] else none
  | _ => none
def C71 : (R : Type) → List DV → (List DV → Option R) → Option R := fun _ ds k => match ds with
  | [.v (.one (.ints .u8 32 x))] => bif okB x then k [.v (.one (.ints .u8 32 (sC (ngC (vC x)))))] else none
  | _ => none
def C88 : (R : Type) → List DV → (List DV → Option R) → Option R := fun _ ds k => match ds with
  | [.v (.one (.ints .u8 32 x))] => bif okB x then k [.v (.one (.bool (Nat.beq (vC x) 0)))] else none
  | _ => none
def C31 : (R : Type) → List DV → (List DV → Option R) → Option R := fun _ ds k => match ds with
  | [.v (.one (.ints .u8 32 x))] => bif okB x then (bif Nat.beq (vC x) 0 then k [.v (.one (.ints .u8 32 (List.replicate 32 0))), .v (.one (.int .i64 9))] else k [.v (.one (.ints .u8 32 (sC (inC (vC x))))), .v (.one (.int .i64 0))]) else none
  | _ => none
def C40 : (R : Type) → List DV → (List DV → Option R) → Option R := fun _ ds k => match ds with
  | [.v (.one (.int .i64 x))] => k [.v (.one (.ints .u8 32 (sC (IntKind.u64.wrap x).toNat)))]
  | _ => none

theorem beq_dec (a : Nat) : Nat.beq a 0 = decide (a = 0) := by cases a <;> rfl
theorem cC30 : Contract Try.prog 30 { sig := S30, impl := C30 } := by
  refine Contract.refine fun R ds k r h => ⟨_, c30, ?_⟩
  unfold C30 at h
  unfold I30
  split at h
  · simp only [sN_sC, addN_adC, vS_vC]; exact h
  · cases h
theorem cC32 : Contract Try.prog 32 { sig := S32, impl := C32 } := by
  refine Contract.refine fun R ds k r h => ⟨_, c32, ?_⟩
  unfold C32 at h
  unfold I32
  split at h
  · simp only [sN_sC, difN_C, vS_vC]; exact h
  · cases h
theorem cC33 : Contract Try.prog 33 { sig := S33, impl := C33 } := by
  refine Contract.refine fun R ds k r h => ⟨_, c33, ?_⟩
  unfold C33 at h
  unfold I33
  split at h
  · simp only [sN_sC, mulN_mlC, vS_vC]; exact h
  · cases h
theorem cC42 : Contract Try.prog 42 { sig := S42, impl := C42 } := by
  refine Contract.refine fun R ds k r h => ⟨_, c42, ?_⟩
  unfold C42 at h
  unfold I42
  split at h
  · simp only [sN_sC, mulN_mlC, addN_adC, vS_vC]; exact h
  · cases h
theorem cC71 : Contract Try.prog 71 { sig := S71, impl := C71 } := by
  refine Contract.refine fun R ds k r h => ⟨_, c71, ?_⟩
  unfold C71 at h
  unfold I71
  split at h
  · simp only [sN_sC, negN_ngC, vS_vC]; exact h
  · cases h
theorem cC88 : Contract Try.prog 88 { sig := S88, impl := C88 } := by
  refine Contract.refine fun R ds k r h => ⟨_, c88, ?_⟩
  unfold C88 at h
  unfold I88
  split at h
  · simp only [vS_vC, ← beq_dec]; exact h
  · cases h
theorem cC31 : Contract Try.prog 31 { sig := S31, impl := C31 } := by
  refine Contract.refine fun R ds k r h => ⟨_, c31, ?_⟩
  unfold C31 at h
  unfold I31
  split at h
  · simp only [sN_sC, invN_inC, vS_vC, ← beq_dec]; exact h
  · cases h
theorem cC40 : Contract Try.prog 40 { sig := S40, impl := C40 } := by
  refine Contract.refine fun R ds k r h => ⟨_, c40, ?_⟩
  unfold C40 at h
  unfold I40
  split at h
  · simp only [sN_sC, plN]; exact h
  · cases h

def hzC (x : List Int) : Nat → Nat → Bool
  | 0, _ => false
  | j + 1, i => bif Nat.beq (vC (elF x i)) 0 then true else hzC x j (i + 1)
theorem hzC_eq (x : List Int) : ∀ j i, (fz x j i).isSome = hzC x j i
  | 0, _ => rfl
  | j + 1, i => by
    unfold fz hzC
    rw [vS_vC, beq_dec]
    by_cases h : vC (elF x i) = 0
    · rw [if_pos h, decide_eq_true h]; rfl
    · rw [if_neg h, decide_eq_false h]; exact hzC_eq x j (i + 1)
def C77 : (R : Type) → List DV → (List DV → Option R) → Option R := fun _ ds k => match ds with
  | [.lst (.one .u8) 32 x] => bif okF x && !(hzC x (x.length / 32) 0) then k [.lst (.one .u8) 32 (headG (fun i => sC (inC (vC (elF x i)))) (x.length / 32)), .v (.one (.int .i64 0)), .v (.one (.int .i64 0))] else none
  | _ => none
theorem cC77 : Contract Try.prog 77 { sig := S77, impl := C77 } := by
  refine Contract.refine fun R ds k r h => ⟨_, c77b, ?_⟩
  unfold C77 at h
  unfold I77b
  split at h
  · rename_i x
    cases hc : okF x && !(hzC x (x.length / 32) 0) with
    | false => rw [hc] at h; cases h
    | true =>
      rw [hc, cond_true] at h
      rw [Bool.and_eq_true, Bool.not_eq_true'] at hc
      have e : hasZ x = false := by unfold hasZ; rw [hzC_eq]; exact hc.2
      have e2 : invS x = headG (fun i => sC (inC (vC (elF x i)))) (x.length / 32) := by
        unfold invS; simp only [sN_sC, invN_inC, vS_vC]
      show (bif okF x then (bif hasZ x then _ else _) else none) = some r
      rw [hc.1, e, e2]; exact h
  · cases h
def dtC (x y : List Int) : Nat → Nat
  | 0 => 0
  | i + 1 => adC (dtC x y i) (mlC (vC (elF x i)) (vC (elF y i)))
theorem dotF_dtC (x y : List Int) : ∀ i, dotF x y i = dtC x y i
  | 0 => rfl
  | i + 1 => by unfold dotF dtC; rw [addN_adC, mulN_mlC, vS_vC, vS_vC, dotF_dtC x y i]
def C76 : (R : Type) → List DV → (List DV → Option R) → Option R := fun _ ds k => match ds with
  | [.lst (.one .u8) 32 x, .lst (.one .u8) 32 y] => bif okF x && okF y then (bif Nat.beq (x.length / 32) (y.length / 32) then k [.v (.one (.ints .u8 32 (sC (dtC x y (x.length / 32))))), .v (.one (.int .i64 0))] else none) else none
  | _ => none
theorem cC76 : Contract Try.prog 76 { sig := S76, impl := C76 } := by
  refine Contract.refine fun R ds k r h => ⟨_, c76, ?_⟩
  unfold C76 at h
  unfold I76
  split at h
  · rename_i x y
    cases hc : okF x && okF y with
    | false => rw [hc] at h; cases h
    | true =>
      rw [hc, cond_true] at h
      cases he : Nat.beq (x.length / 32) (y.length / 32) with
      | false => rw [he] at h; cases h
      | true =>
        rw [he, cond_true] at h
        simp only [hc, he, cond_true, dotF_dtC, sN_sC]; exact h
  · cases h
def GC : Ctx := [(76, { sig := S76, impl := C76 }), (77, { sig := S77, impl := C77 }), (30, { sig := S30, impl := C30 }), (31, { sig := S31, impl := C31 }), (32, { sig := S32, impl := C32 }), (33, { sig := S33, impl := C33 }), (40, { sig := S40, impl := C40 }), (42, { sig := S42, impl := C42 }), (71, { sig := S71, impl := C71 }), (88, { sig := S88, impl := C88 })]
theorem GC_ok : CtxOk Try.prog GC := ctxOk_cons ok76 rfl cC76 (ctxOk_cons ok77 rfl cC77 (ctxOk_cons ok30 rfl cC30 (ctxOk_cons ok31 rfl cC31 (ctxOk_cons ok32 rfl cC32 (ctxOk_cons ok33 rfl cC33 (ctxOk_cons ok40 rfl cC40 (ctxOk_cons ok42 rfl cC42 (ctxOk_cons ok71 rfl cC71 (ctxOk_cons ok88 rfl cC88 ctxOk_nil)))))))))
end Go.Proofs.Ytogcijgklnfjjaa

namespace Go.Proofs.Ytogcijgklnfjjaa
open Go Go.Eng
set_option maxRecDepth 100000

noncomputable def AE12 : Env := { Θ := Th, Γ := GC, K := K12, ν := [], fuel := 64, lp := [] }
theorem al12 : Contract Try.prog 12 { sig := S12, impl := fun _ ds k => call AE12 S12 4 B12 R12 ds k } :=
  call_contract (E := AE12) thOk GC_ok mixed ok12.look ok12.body ok12.n ok12.rv ok12.name rfl (by decide) (loopsOk_of (l := []) (by kernel_rfl) trivial)
noncomputable def GA12 : Ctx := (12, { sig := S12, impl := fun _ ds k => call AE12 S12 4 B12 R12 ds k }) :: GC
theorem GA12_ok : CtxOk Try.prog GA12 := ctxOk_cons ok12 rfl al12 GC_ok

noncomputable def AE43 : Env := { Θ := Th, Γ := GA12, K := K43, ν := [], fuel := 64, lp := [] }
theorem al43 : Contract Try.prog 43 { sig := S43, impl := fun _ ds k => call AE43 S43 9 B43 R43 ds k } :=
  call_contract (E := AE43) thOk GA12_ok mixed ok43.look ok43.body ok43.n ok43.rv ok43.name rfl (by decide) (loopsOk_of (l := []) (by kernel_rfl) trivial)
noncomputable def GA43 : Ctx := (43, { sig := S43, impl := fun _ ds k => call AE43 S43 9 B43 R43 ds k }) :: GA12
theorem GA43_ok : CtxOk Try.prog GA43 := ctxOk_cons ok43 rfl al43 GA12_ok

noncomputable def AE70 : Env := { Θ := Th, Γ := GA43, K := K70, ν := [], fuel := 64, lp := [] }
theorem al70 : Contract Try.prog 70 { sig := S70, impl := fun _ ds k => call AE70 S70 9 B70 R70 ds k } :=
  call_contract (E := AE70) thOk GA43_ok mixed ok70.look ok70.body ok70.n ok70.rv ok70.name rfl (by decide) (loopsOk_of (l := []) (by kernel_rfl) trivial)
noncomputable def GA70 : Ctx := (70, { sig := S70, impl := fun _ ds k => call AE70 S70 9 B70 R70 ds k }) :: GA43
theorem GA70_ok : CtxOk Try.prog GA70 := ctxOk_cons ok70 rfl al70 GA43_ok

noncomputable def AE108 : Env := { Θ := Th, Γ := GA70, K := K108, ν := [], fuel := 64, lp := [] }
theorem al108 : Contract Try.prog 108 { sig := S108, impl := fun _ ds k => call AE108 S108 6 B108 R108 ds k } :=
  call_contract (E := AE108) thOk GA70_ok mixed ok108.look ok108.body ok108.n ok108.rv ok108.name rfl (by decide) (loopsOk_of (l := []) (by kernel_rfl) trivial)
noncomputable def GA108 : Ctx := (108, { sig := S108, impl := fun _ ds k => call AE108 S108 6 B108 R108 ds k }) :: GA70
theorem GA108_ok : CtxOk Try.prog GA108 := ctxOk_cons ok108 rfl al108 GA70_ok

noncomputable def AE97 : Env := { Θ := Th, Γ := GA108, K := K97, ν := [], fuel := 64, lp := [] }
theorem al97 : Contract Try.prog 97 { sig := S97, impl := fun _ ds k => call AE97 S97 17 B97 R97 ds k } :=
  call_contract (E := AE97) thOk GA108_ok mixed ok97.look ok97.body ok97.n ok97.rv ok97.name rfl (by decide) (loopsOk_of (l := []) (by kernel_rfl) trivial)
noncomputable def GA97 : Ctx := (97, { sig := S97, impl := fun _ ds k => call AE97 S97 17 B97 R97 ds k }) :: GA108
theorem GA97_ok : CtxOk Try.prog GA97 := ctxOk_cons ok97 rfl al97 GA108_ok

noncomputable def AE91 : Env := { Θ := Th, Γ := GA97, K := K91, ν := [(0, ⟨[], []⟩), (2, ⟨[], []⟩)], fuel := 64, lp := [] }
theorem al91 : Contract Try.prog 91 { sig := { ps := [], rs := [] }, impl := fun _ ds k => callN AE91 3 49 B91 R91 ds k, kind := .inl 3 } :=
  inl_contract (E := AE91) thOk GA97_ok mixed ok91 (loopsOk_of (l := [(0, B91_0), (2, B91_2)]) (by kernel_rfl) (allOk_skip rfl (allOk_skip rfl trivial)))
noncomputable def GA91 : Ctx := (91, { sig := { ps := [], rs := [] }, impl := fun _ ds k => callN AE91 3 49 B91 R91 ds k, kind := .inl 3 }) :: GA97
theorem GA91_ok : CtxOk Try.prog GA91 := ctxOk_cons ok91 rfl al91 GA97_ok

noncomputable def AE101 : Env := { Θ := Th, Γ := GA91, K := K101, ν := [], fuel := 64, lp := [] }
theorem al101 : Contract Try.prog 101 { sig := S101, impl := fun _ ds k => call AE101 S101 25 B101 R101 ds k } :=
  call_contract (E := AE101) thOk GA91_ok mixed ok101.look ok101.body ok101.n ok101.rv ok101.name rfl (by decide) (loopsOk_of (l := []) (by kernel_rfl) trivial)
noncomputable def GA101 : Ctx := (101, { sig := S101, impl := fun _ ds k => call AE101 S101 25 B101 R101 ds k }) :: GA91
theorem GA101_ok : CtxOk Try.prog GA101 := ctxOk_cons ok101 rfl al101 GA91_ok

noncomputable def AE75 : Env := { Θ := Th, Γ := GA101, K := K75, ν := [], fuel := 64, lp := [] }
theorem al75 : Contract Try.prog 75 { sig := S75, impl := fun _ ds k => call AE75 S75 8 B75 R75 ds k } :=
  call_contract (E := AE75) thOk GA101_ok mixed ok75.look ok75.body ok75.n ok75.rv ok75.name rfl (by decide) (loopsOk_of (l := []) (by kernel_rfl) trivial)
noncomputable def GA75 : Ctx := (75, { sig := S75, impl := fun _ ds k => call AE75 S75 8 B75 R75 ds k }) :: GA101
theorem GA75_ok : CtxOk Try.prog GA75 := ctxOk_cons ok75 rfl al75 GA101_ok

noncomputable def AE74 : Env := { Θ := Th, Γ := GA75, K := K74, ν := [(0, ⟨[], []⟩)], fuel := 64, lp := [] }
theorem al74 : Contract Try.prog 74 { sig := { ps := [], rs := [] }, impl := fun _ ds k => callN AE74 4 134 B74 R74 ds k, kind := .inl 4 } :=
  inl_contract (E := AE74) thOk GA75_ok mixed ok74 (loopsOk_of (l := [(0, B74_0)]) (by kernel_rfl) (allOk_skip rfl trivial))
noncomputable def GA74 : Ctx := (74, { sig := { ps := [], rs := [] }, impl := fun _ ds k => callN AE74 4 134 B74 R74 ds k, kind := .inl 4 }) :: GA75
theorem GA74_ok : CtxOk Try.prog GA74 := ctxOk_cons ok74 rfl al74 GA75_ok

noncomputable def AE46 : Env := { Θ := Th, Γ := GA74, K := K46, ν := [], fuel := 64, lp := [] }
theorem al46 : Contract Try.prog 46 { sig := { ps := [], rs := [] }, impl := fun _ ds k => callN AE46 1 11 B46 R46 ds k, kind := .inl 1 } :=
  inl_contract (E := AE46) thOk GA74_ok mixed ok46 (loopsOk_of (l := []) (by kernel_rfl) trivial)
noncomputable def GA46 : Ctx := (46, { sig := { ps := [], rs := [] }, impl := fun _ ds k => callN AE46 1 11 B46 R46 ds k, kind := .inl 1 }) :: GA74
theorem GA46_ok : CtxOk Try.prog GA46 := ctxOk_cons ok46 rfl al46 GA74_ok

noncomputable def AE39 : Env := { Θ := Th, Γ := GA46, K := K39, ν := [(0, ⟨[], []⟩)], fuel := 64, lp := [] }
theorem al39 : Contract Try.prog 39 { sig := S39, impl := fun _ ds k => call AE39 S39 29 B39 R39 ds k } :=
  call_contract (E := AE39) thOk GA46_ok mixed ok39.look ok39.body ok39.n ok39.rv ok39.name rfl (by decide) (loopsOk_of (l := [(0, B39_0)]) (by kernel_rfl) (allOk_skip rfl trivial))
noncomputable def GA39 : Ctx := (39, { sig := S39, impl := fun _ ds k => call AE39 S39 29 B39 R39 ds k }) :: GA46
theorem GA39_ok : CtxOk Try.prog GA39 := ctxOk_cons ok39 rfl al39 GA46_ok

noncomputable def AE19 : Env := { Θ := Th, Γ := GA39, K := K19, ν := [(0, ⟨[], []⟩)], fuel := 64, lp := [] }
theorem al19 : Contract Try.prog 19 { sig := S19, impl := fun _ ds k => call AE19 S19 22 B19 R19 ds k } :=
  call_contract (E := AE19) thOk GA39_ok mixed ok19.look ok19.body ok19.n ok19.rv ok19.name rfl (by decide) (loopsOk_of (l := [(0, B19_0)]) (by kernel_rfl) (allOk_skip rfl trivial))
noncomputable def GA19 : Ctx := (19, { sig := S19, impl := fun _ ds k => call AE19 S19 22 B19 R19 ds k }) :: GA39
theorem GA19_ok : CtxOk Try.prog GA19 := ctxOk_cons ok19 rfl al19 GA39_ok

noncomputable def AE49 : Env := { Θ := Th, Γ := GA19, K := K49, ν := [(0, ⟨[], []⟩)], fuel := 64, lp := [] }
theorem al49 : Contract Try.prog 49 { sig := S49, impl := fun _ ds k => call AE49 S49 31 B49 R49 ds k } :=
  call_contract (E := AE49) thOk GA19_ok mixed ok49.look ok49.body ok49.n ok49.rv ok49.name rfl (by decide) (loopsOk_of (l := [(0, B49_0)]) (by kernel_rfl) (allOk_skip rfl trivial))
noncomputable def GA49 : Ctx := (49, { sig := S49, impl := fun _ ds k => call AE49 S49 31 B49 R49 ds k }) :: GA19
theorem GA49_ok : CtxOk Try.prog GA49 := ctxOk_cons ok49 rfl al49 GA19_ok

noncomputable def AE16 : Env := { Θ := Th, Γ := GA49, K := K16, ν := [(0, ⟨[], []⟩)], fuel := 64, lp := [] }
theorem al16 : Contract Try.prog 16 { sig := S16, impl := fun _ ds k => call AE16 S16 32 B16 R16 ds k } :=
  call_contract (E := AE16) thOk GA49_ok mixed ok16.look ok16.body ok16.n ok16.rv ok16.name rfl (by decide) (loopsOk_of (l := [(0, B16_0)]) (by kernel_rfl) (allOk_skip rfl trivial))
noncomputable def GA16 : Ctx := (16, { sig := S16, impl := fun _ ds k => call AE16 S16 32 B16 R16 ds k }) :: GA49
theorem GA16_ok : CtxOk Try.prog GA16 := ctxOk_cons ok16 rfl al16 GA49_ok

noncomputable def AE9 : Env := { Θ := Th, Γ := GA16, K := K9, ν := [(0, ⟨[], []⟩), (2, ⟨[], []⟩), (4, ⟨[], []⟩), (6, ⟨[], []⟩), (8, ⟨[], []⟩), (10, ⟨[], []⟩)], fuel := 64, lp := [] }
theorem al9 : Contract Try.prog 9 { sig := S9, impl := fun _ ds k => call AE9 S9 161 B9 R9 ds k } :=
  call_contract (E := AE9) thOk GA16_ok mixed ok9.look ok9.body ok9.n ok9.rv ok9.name rfl (by decide) (loopsOk_of (l := [(0, B9_0), (2, B9_2), (4, B9_4), (6, B9_6), (8, B9_8), (10, B9_10)]) (by kernel_rfl) (allOk_skip rfl (allOk_skip rfl (allOk_skip rfl (allOk_skip rfl (allOk_skip rfl (allOk_skip rfl trivial)))))))
noncomputable def GA9 : Ctx := (9, { sig := S9, impl := fun _ ds k => call AE9 S9 161 B9 R9 ds k }) :: GA16
theorem GA9_ok : CtxOk Try.prog GA9 := ctxOk_cons ok9 rfl al9 GA16_ok

noncomputable def AE47 : Env := { Θ := Th, Γ := GA9, K := K47, ν := [(0, ⟨[], []⟩)], fuel := 64, lp := [] }
theorem al47 : Contract Try.prog 47 { sig := S47, impl := fun _ ds k => call AE47 S47 38 B47 R47 ds k } :=
  call_contract (E := AE47) thOk GA9_ok mixed ok47.look ok47.body ok47.n ok47.rv ok47.name rfl (by decide) (loopsOk_of (l := [(0, B47_0)]) (by kernel_rfl) (allOk_skip rfl trivial))
noncomputable def GA47 : Ctx := (47, { sig := S47, impl := fun _ ds k => call AE47 S47 38 B47 R47 ds k }) :: GA9
theorem GA47_ok : CtxOk Try.prog GA47 := ctxOk_cons ok47 rfl al47 GA9_ok

noncomputable def AE50 : Env := { Θ := Th, Γ := GA47, K := K50, ν := [(0, ⟨[], []⟩), (2, ⟨[], []⟩), (4, ⟨[], []⟩)], fuel := 64, lp := [] }
theorem al50 : Contract Try.prog 50 { sig := S50, impl := fun _ ds k => call AE50 S50 95 B50 R50 ds k } :=
  call_contract (E := AE50) thOk GA47_ok mixed ok50.look ok50.body ok50.n ok50.rv ok50.name rfl (by decide) (loopsOk_of (l := [(0, B50_0), (2, B50_2), (4, B50_4)]) (by kernel_rfl) (allOk_skip rfl (allOk_skip rfl (allOk_skip rfl trivial))))
noncomputable def GA50 : Ctx := (50, { sig := S50, impl := fun _ ds k => call AE50 S50 95 B50 R50 ds k }) :: GA47
theorem GA50_ok : CtxOk Try.prog GA50 := ctxOk_cons ok50 rfl al50 GA47_ok

noncomputable def AE48 : Env := { Θ := Th, Γ := GA50, K := K48, ν := [(0, ⟨[], []⟩)], fuel := 64, lp := [] }
theorem al48 : Contract Try.prog 48 { sig := S48, impl := fun _ ds k => call AE48 S48 37 B48 R48 ds k } :=
  call_contract (E := AE48) thOk GA50_ok mixed ok48.look ok48.body ok48.n ok48.rv ok48.name rfl (by decide) (loopsOk_of (l := [(0, B48_0)]) (by kernel_rfl) (allOk_skip rfl trivial))
noncomputable def GA48 : Ctx := (48, { sig := S48, impl := fun _ ds k => call AE48 S48 37 B48 R48 ds k }) :: GA50
theorem GA48_ok : CtxOk Try.prog GA48 := ctxOk_cons ok48 rfl al48 GA50_ok

noncomputable def AE44 : Env := { Θ := Th, Γ := GA48, K := K44, ν := [], fuel := 64, lp := [] }
theorem al44 : Contract Try.prog 44 { sig := S44, impl := fun _ ds k => call AE44 S44 28 B44 R44 ds k } :=
  call_contract (E := AE44) thOk GA48_ok mixed ok44.look ok44.body ok44.n ok44.rv ok44.name rfl (by decide) (loopsOk_of (l := []) (by kernel_rfl) trivial)
noncomputable def GA44 : Ctx := (44, { sig := S44, impl := fun _ ds k => call AE44 S44 28 B44 R44 ds k }) :: GA48
theorem GA44_ok : CtxOk Try.prog GA44 := ctxOk_cons ok44 rfl al44 GA48_ok

noncomputable def AE24 : Env := { Θ := Th, Γ := GA44, K := K24, ν := [], fuel := 64, lp := [] }
theorem al24 : Contract Try.prog 24 { sig := S24, impl := fun _ ds k => call AE24 S24 29 B24 R24 ds k } :=
  call_contract (E := AE24) thOk GA44_ok mixed ok24.look ok24.body ok24.n ok24.rv ok24.name rfl (by decide) (loopsOk_of (l := []) (by kernel_rfl) trivial)
noncomputable def GA24 : Ctx := (24, { sig := S24, impl := fun _ ds k => call AE24 S24 29 B24 R24 ds k }) :: GA44
theorem GA24_ok : CtxOk Try.prog GA24 := ctxOk_cons ok24 rfl al24 GA44_ok

noncomputable def AE89 : Env := { Θ := Th, Γ := GA24, K := K89, ν := [(0, ⟨[], []⟩), (2, ⟨[], []⟩), (4, ⟨[], []⟩)], fuel := 64, lp := [] }
theorem al89 : Contract Try.prog 89 { sig := { ps := [], rs := [] }, impl := fun _ ds k => callN AE89 3 95 B89 R89 ds k, kind := .inl 3 } :=
  inl_contract (E := AE89) thOk GA24_ok mixed ok89 (loopsOk_of (l := [(0, B89_0), (2, B89_2), (4, B89_4)]) (by kernel_rfl) (allOk_skip rfl (allOk_skip rfl (allOk_skip rfl trivial))))
noncomputable def GA89 : Ctx := (89, { sig := { ps := [], rs := [] }, impl := fun _ ds k => callN AE89 3 95 B89 R89 ds k, kind := .inl 3 }) :: GA24
theorem GA89_ok : CtxOk Try.prog GA89 := ctxOk_cons ok89 rfl al89 GA24_ok

noncomputable def AE72 : Env := { Θ := Th, Γ := GA89, K := K72, ν := [(0, ⟨[], []⟩), (2, ⟨[], []⟩), (4, ⟨[], []⟩), (6, ⟨[], []⟩)], fuel := 64, lp := [] }
theorem al72 : Contract Try.prog 72 { sig := { ps := [], rs := [] }, impl := fun _ ds k => callN AE72 2 100 B72 R72 ds k, kind := .inl 2 } :=
  inl_contract (E := AE72) thOk GA89_ok mixed ok72 (loopsOk_of (l := [(0, B72_0), (2, B72_2), (4, B72_4), (6, B72_6)]) (by kernel_rfl) (allOk_skip rfl (allOk_skip rfl (allOk_skip rfl (allOk_skip rfl trivial)))))
noncomputable def GA72 : Ctx := (72, { sig := { ps := [], rs := [] }, impl := fun _ ds k => callN AE72 2 100 B72 R72 ds k, kind := .inl 2 }) :: GA89
theorem GA72_ok : CtxOk Try.prog GA72 := ctxOk_cons ok72 rfl al72 GA89_ok

noncomputable def AE90 : Env := { Θ := Th, Γ := GA72, K := K90, ν := [], fuel := 64, lp := [] }
theorem al90 : Contract Try.prog 90 { sig := S90, impl := fun _ ds k => call AE90 S90 8 B90 R90 ds k } :=
  call_contract (E := AE90) thOk GA72_ok mixed ok90.look ok90.body ok90.n ok90.rv ok90.name rfl (by decide) (loopsOk_of (l := []) (by kernel_rfl) trivial)
noncomputable def GA90 : Ctx := (90, { sig := S90, impl := fun _ ds k => call AE90 S90 8 B90 R90 ds k }) :: GA72
theorem GA90_ok : CtxOk Try.prog GA90 := ctxOk_cons ok90 rfl al90 GA72_ok

noncomputable def AE73 : Env := { Θ := Th, Γ := GA90, K := K73, ν := [(0, ⟨[], []⟩), (2, ⟨[], []⟩), (4, ⟨[], []⟩)], fuel := 64, lp := [] }
theorem al73 : Contract Try.prog 73 { sig := S73, impl := fun _ ds k => call AE73 S73 84 B73 R73 ds k } :=
  call_contract (E := AE73) thOk GA90_ok mixed ok73.look ok73.body ok73.n ok73.rv ok73.name rfl (by decide) (loopsOk_of (l := [(0, B73_0), (2, B73_2), (4, B73_4)]) (by kernel_rfl) (allOk_skip rfl (allOk_skip rfl (allOk_skip rfl trivial))))
noncomputable def GA73 : Ctx := (73, { sig := S73, impl := fun _ ds k => call AE73 S73 84 B73 R73 ds k }) :: GA90
theorem GA73_ok : CtxOk Try.prog GA73 := ctxOk_cons ok73 rfl al73 GA90_ok

noncomputable def AE45 : Env := { Θ := Th, Γ := GA73, K := K45, ν := [(0, ⟨[], []⟩), (2, ⟨[], []⟩)], fuel := 64, lp := [] }
theorem al45 : Contract Try.prog 45 { sig := S45, impl := fun _ ds k => call AE45 S45 106 B45 R45 ds k } :=
  call_contract (E := AE45) thOk GA73_ok mixed ok45.look ok45.body ok45.n ok45.rv ok45.name rfl (by decide) (loopsOk_of (l := [(0, B45_0), (2, B45_2)]) (by kernel_rfl) (allOk_skip rfl (allOk_skip rfl trivial)))
noncomputable def GA45 : Ctx := (45, { sig := S45, impl := fun _ ds k => call AE45 S45 106 B45 R45 ds k }) :: GA73
theorem GA45_ok : CtxOk Try.prog GA45 := ctxOk_cons ok45 rfl al45 GA73_ok

noncomputable def AE22 : Env := { Θ := Th, Γ := GA45, K := K22, ν := [(0, ⟨[], []⟩)], fuel := 64, lp := [] }
theorem al22 : Contract Try.prog 22 { sig := S22, impl := fun _ ds k => call AE22 S22 72 B22 R22 ds k } :=
  call_contract (E := AE22) thOk GA45_ok mixed ok22.look ok22.body ok22.n ok22.rv ok22.name rfl (by decide) (loopsOk_of (l := [(0, B22_0)]) (by kernel_rfl) (allOk_skip rfl trivial))
noncomputable def GA22 : Ctx := (22, { sig := S22, impl := fun _ ds k => call AE22 S22 72 B22 R22 ds k }) :: GA45
theorem GA22_ok : CtxOk Try.prog GA22 := ctxOk_cons ok22 rfl al22 GA45_ok

noncomputable def AE13 : Env := { Θ := Th, Γ := GA22, K := K13, ν := [], fuel := 64, lp := [] }
theorem al13 : Contract Try.prog 13 { sig := S13, impl := fun _ ds k => call AE13 S13 88 B13 R13 ds k } :=
  call_contract (E := AE13) thOk GA22_ok mixed ok13.look ok13.body ok13.n ok13.rv ok13.name rfl (by decide) (loopsOk_of (l := []) (by kernel_rfl) trivial)
end Go.Proofs.Ytogcijgklnfjjaa

namespace Go.Proofs.Ytogcijgklnfjjaa
open Go Go.Eng
set_option maxRecDepth 1000000

theorem alive_eq {R : Type} (k : List DV → Option R) : call AE13 S13 88 B13 R13 [] k = k [.v (.one (.bool true))] := by kernel_rfl
def I13 : (R : Type) → List DV → (List DV → Option R) → Option R := fun _ ds k => match ds with
  | [] => k [.v (.one (.bool true))]
  | _ => none
theorem c13 : Contract Try.prog 13 { sig := S13, impl := I13 } := by
  refine Contract.refine fun R ds k r h => ⟨_, al13, ?_⟩
  unfold I13 at h
  split at h
  · rw [alive_eq]; exact h
  · cases h
end Go.Proofs.Ytogcijgklnfjjaa

namespace Go.Proofs.Ytogcijgklnfjjaa
open Go Go.Eng
set_option maxRecDepth 100000
set_option linter.unusedVariables false

theorem f20_loop {R : Type} {N : Nat} (k1 : Bool → Int → List Int → List Int → Option R) {xs : List Int} {n : Nat} (hx : okF xs = true) (hn : xs.length / 32 = n) :
    ∀ j i : Nat, i + j = n → ∀ fuel, j < fuel → f20_0_lp N k1 fuel (i : Int) (arrN (numF xs) i) xs = k1 false (n : Int) (arrN (numF xs) n) xs := by
  have hl := okF_n hx
  intro j
  induction j with
  | zero =>
    intro i h fuel hf
    obtain ⟨f, rfl⟩ : ∃ f, fuel = f + 1 := ⟨fuel - 1, by omega⟩
    show f20_0_st N (f20_0_lp N _ f) _ _ _ _ = _
    unfold f20_0_st
    rw [rows32 hx, hn, ltF (by omega), cond_false, show i = n by omega]
  | succ j ih =>
    intro i h fuel hf
    obtain ⟨f, rfl⟩ : ∃ f, fuel = f + 1 := ⟨fuel - 1, by omega⟩
    show f20_0_st N (f20_0_lp N _ f) _ _ _ _ = _
    unfold f20_0_st
    have e1 : List.take 32 (List.drop (i * 32) xs) = elF xs i := rfl
    have e2 : rowLen 32 (arrN (numF xs) i) = i := arr_div _ _
    have e3 : splice (zerosOf (1 * 32)) (Off.at (0 * 32)) (sN (numF xs i)) = sN (numF xs i) := by
      have := arr_set (fun _ => 0) (numF xs i) (show 0 < 1 by omega)
      rw [← arr_zero] at this
      rw [this]
      show [] ++ sN (upd (fun _ => 0) 0 (numF xs i) 0) = _
      rw [upd_self]; rfl
    have e4 : addN (vS (elF xs i)) 0 = numF xs i := by
      show addN (vS (elF xs i)) 0 = vS (elF xs i)
      apply q_inj (addN_lt _ _) (vS_lt _)
      rw [q_add, q_zero]; grind
    have e5 : rowLen 32 (sN (numF xs i)) = 1 := by show (sN _).length / 32 = 1; rw [sN_len]
    have hle : (Nat.ble ((2 * (i + 1) + 192) * 32) big48 && Nat.ble (i + 1) big48) = true := by
      rw [Bool.and_eq_true, Nat.ble_eq, Nat.ble_eq]; unfold big48; omega
    rw [rows32 hx, hn, ltT (show i < n by omega), ge0, toN, e1, okF_el hx (by omega), okB_z, vS_z, e4, e3]
    dsimp only
    rw [e2, e5, hle, wAdd (by omega), ← arr_succ]
    simp only [Bool.and_self, cond_true]
    exact ih (i + 1) (by omega) f (by omega)
noncomputable def canG (xs : List Int) : List Int := arrN (numF xs) (xs.length / 32)
noncomputable def I20 : (R : Type) → List DV → (List DV → Option R) → Option R := fun _ ds k => match ds with
  | [.lst (.one .u8) 32 xs] => bif okF xs then k [.lst (.one .u8) 32 (canG xs)] else none
  | _ => none
theorem c20 : Contract Try.prog 20 { sig := S20, impl := I20 } := by
  refine Contract.refine fun R ds k r h => ?_
  unfold I20 at h
  split at h
  · rename_i xs
    refine ⟨_, f20_contract (xs.length / 32 + 1) GRX_ok, ?_⟩
    cases hc : okF xs with
    | false => rw [hc] at h; cases h
    | true =>
      rw [hc, cond_true] at h
      rw [f20_raw_eq]
      exact (f20_loop (N := xs.length / 32 + 1) _ hc rfl (xs.length / 32) 0 (by omega) (xs.length / 32 + 1) (by omega)).trans h
  · exact (Option.some_ne_none _ h.symm).elim
noncomputable def I21 : (R : Type) → List DV → (List DV → Option R) → Option R := fun _ ds k => match ds with
  | [.lst (.one .u8) 32 xs, .v (.one (.int .i64 x))] => bif okF xs then (bif decide (x ≥ 1) && decide (x ≤ 255) then k [.v (.one (.ints .u8 32 (sN (evN xs (plN x))))), .v (.one (.int .i64 0))] else k [.v (.one (.ints .u8 32 zS)), .v (.one (.int .i64 4))]) else none
  | _ => none
theorem c21 : Contract Try.prog 21 { sig := S21, impl := I21 } := by
  refine Contract.refine fun R ds k r h => ?_
  unfold I21 at h
  split at h
  · rename_i xs x
    refine ⟨_, f21_contract 0 GT1_ok, ?_⟩
    cases hc : okF xs with
    | false => rw [hc] at h; cases h
    | true =>
      rw [hc, cond_true] at h
      rw [f21_raw_eq]
      unfold f21_raw
      rw [hc, okB_sN, vS_sN (plN_lt _), zS_eq]
      cases hq : decide (x ≥ 1) && decide (x ≤ 255) with
      | true => rw [hq] at h; exact h
      | false => rw [hq] at h; exact h
  · exact (Option.some_ne_none _ h.symm).elim

noncomputable def GL5 : Ctx := (9, { sig := S9, impl := I9 }) :: (11, { sig := S11, impl := I11 }) :: (12, { sig := S12, impl := I12 }) :: (13, { sig := S13, impl := I13 }) :: (17, { sig := S17, impl := I40 }) :: (18, { sig := S18, impl := I18 }) :: (19, { sig := S19, impl := I19 }) :: (20, { sig := S20, impl := I20 }) :: (21, { sig := S21, impl := I21 }) :: []
theorem GL5_ok : CtxOk Try.prog GL5 := ctxOk_cons ok9 rfl c9 (ctxOk_cons ok11 rfl c11 (ctxOk_cons ok12 rfl c12 (ctxOk_cons ok13 rfl c13 (ctxOk_cons ok17 rfl c17 (ctxOk_cons ok18 rfl c18 (ctxOk_cons ok19 rfl c19 (ctxOk_cons ok20 rfl c20 (ctxOk_cons ok21 rfl c21 ctxOk_nil))))))))
def start5 (n : Nat) (s x b : List Int) : AS := { n := n, lo := 0, tmps := [(0, va (.own 0)), (1, va (.ints .u8 32 x)), (2, va (.own 2))], items := [(0, .view (.mix ck43) 33 s), (2, .view (.one .u8) 32 b)] }
end Go.Proofs.Ytogcijgklnfjjaa

namespace Go.Proofs.Ytogcijgklnfjjaa
open Go Go.Eng
set_option maxRecDepth 100000
end Go.Proofs.Ytogcijgklnfjjaa

namespace Go.Proofs.Ytogcijgklnfjjaa
open Go Go.Eng
set_option maxRecDepth 100000
set_option linter.unusedVariables false

end Go.Proofs.Ytogcijgklnfjjaa

namespace Go.Proofs.Ytogcijgklnfjjaa
open Go Go.Eng
set_option maxRecDepth 100000
set_option linter.unusedVariables false

theorem horN_q (xs : List Int) (v : Nat) : ∀ (i r : Nat), q (horN xs v i r) = q r * pw (q v) i + ev i (fun j => q (numF xs j)) (q v)
  | 0, r => by
    have e : ev 0 (fun j => q (numF xs j)) (q v) = 0 := rfl
    have e2 : pw (q v) 0 = 1 := rfl
    rw [e, e2]; show q r = _; grind
  | i + 1, r => by
    have e : horN xs v (i + 1) r = horN xs v i (addN (mulN r v) (vS (elF xs i))) := rfl
    have e2 : pw (q v) (i + 1) = q v * pw (q v) i := rfl
    rw [e, horN_q xs v i, q_add, q_mul, ev_snoc, e2, show vS (elF xs i) = numF xs i from rfl]; grind
theorem evN_q (xs : List Int) (v : Nat) : q (evN xs v) = ev (xs.length / 32) (fun j => q (numF xs j)) (q v) := by
  unfold evN
  rw [horN_q, q_zero]; grind

end Go.Proofs.Ytogcijgklnfjjaa

namespace Go.Proofs.Ytogcijgklnfjjaa
open Go Go.Eng
set_option maxRecDepth 100000
set_option linter.unusedVariables false

end Go.Proofs.Ytogcijgklnfjjaa

namespace Go.Proofs.Ytogcijgklnfjjaa
open Go Go.Eng
set_option maxRecDepth 100000
set_option linter.unusedVariables false

def f5_0_sh : Shp := { n := 157, lo := 0, slots := [(0, .one (.fix (At.own 0))), (2, .one (.fix (At.own 2))), (4, .one (.fix (At.ptr 4 0 Off.z 32))), (7, .one (.fix (At.own 1000007))), (8, .one (.fix (At.own 1000008))), (9, .one (.int IntKind.i64))], items := [(1000007, .row (RK.one IntKind.i64) 1), (1000008, .row (RK.mix ck32) 64), (0, .view (RK.mix ck43) 33), (2, .view (RK.one IntKind.u8) 32), (4, .obj [.ints IntKind.u8 32])] }
def f5_0_ex1 : Shp := { n := 157, lo := 0, slots := [(26, .one (.bool)), (0, .one (.fix (At.own 0))), (2, .one (.fix (At.own 2))), (4, .one (.fix (At.ptr 4 0 Off.z 32))), (7, .one (.fix (At.own 1000007))), (8, .one (.fix (At.own 1000008))), (9, .one (.int IntKind.i64))], items := [(1000007, .row (RK.one IntKind.i64) 1), (1000008, .row (RK.mix ck32) 64), (0, .view (RK.mix ck43) 33), (2, .view (RK.one IntKind.u8) 32), (4, .obj [.ints IntKind.u8 32])] }
noncomputable def f5_0_st {R : Type} (N : Nat) (self : Int → List Int → List Int → List Int → List Int → List Int → Option R) (k1 : Bool → Int → List Int → List Int → List Int → List Int → List Int → Option R) (x1 : Int) (x2 : List Int) (x3 : List Int) (x4 : List Int) (x5 : List Int) (x6 : List Int) : Option R :=
 bif Decidable.decide (x1 < nI (rowLen 33 x4)) then
 bif Decidable.decide (0 ≤ x1) && Decidable.decide (x1 < nI (rowLen 33 x4)) then
 let v0 : List Int := (zerosOf (1 * 1)).set 0 (x4.getD (x1.toNat * 33 + (0 + 0)) 0);
 bif ((2 * (rowLen 1 x2 + rowLen 1 v0) + 192) * 8).ble big48 && (rowLen 1 x2 + rowLen 1 v0).ble big48 then
 bif Decidable.decide (0 ≤ x1) && Decidable.decide (x1 < nI (rowLen 33 x4)) then
 bif Decidable.decide (0 ≤ x1) && Decidable.decide (x1 < nI (rowLen 33 x4)) then
 let v1 : List Int := List.take 32 (List.drop (x1.toNat * 33 + (0 + 1)) x4) ++ [];
 let v2 : List Int := sN (plN (x4.getD (x1.toNat * 33 + (0 + 0)) 0)) ++ v1;
 let v3 : List Int := v2 ++ [];
 bif ((2 * (rowLen 64 x3 + rowLen 64 v3) + 192) * 64).ble big48 && (rowLen 64 x3 + rowLen 64 v3).ble big48 then
 let v4 : Int := IntKind.i64.wrap (x1 + 1);
 let v5 : List Int := x2 ++ v0;
 let v6 : List Int := x3 ++ v3;
 self v4 v5 v6 x4 x5 x6
 else Option.none
 else Option.none
 else Option.none
 else Option.none
 else Option.none
else k1 (Decidable.decide (x1 < nI (rowLen 33 x4))) x1 x2 x3 x4 x5 x6
noncomputable def f5_0_lp {R : Type} (N : Nat) (k1 : Bool → Int → List Int → List Int → List Int → List Int → List Int → Option R) : Nat → Int → List Int → List Int → List Int → List Int → List Int → Option R
 | 0, _, _, _, _, _, _ => none
 | n + 1, x1, x2, x3, x4, x5, x6 => f5_0_st N (f5_0_lp N k1 n) k1 x1 x2 x3 x4 x5 x6
noncomputable def f5_0_F (N : Nat) : (R : Type) → List Leaf → (X → AS → Option R) → Option R := fun _ ls K => match ls with
 | [.i x1, .l x2, .l x3, .l x4, .l x5, .l x6] => f5_0_lp N (fun y1 y2 y3 y4 y5 y6 y7 => K (X.normal) (fill f5_0_ex1 [.b y1, .i y2, .l y3, .l y4, .l y5, .l y6, .l y7])) N x1 x2 x3 x4 x5 x6
 | _ => none
def f5_2_sh : Shp := { n := 157, lo := 0, slots := [(0, .one (.fix (At.own 0))), (2, .one (.fix (At.own 2))), (10, .one (.fix (At.own 67))), (12, .one (.bool)), (13, .one (.int IntKind.i64))], items := [(0, .view (RK.mix ck43) 33), (2, .view (RK.one IntKind.u8) 32), (67, .row (RK.one IntKind.u8) 32)] }
def f5_2_ex1 : Shp := { n := 157, lo := 0, slots := [(6, .one (.bool)), (142, .one (.bool)), (16, .one (.fix (At.ptr 16 0 Off.z 32))), (14, .one (.fix (At.ptr 14 0 Off.z 32))), (109, .one (.bool)), (0, .one (.fix (At.own 0))), (2, .one (.fix (At.own 2))), (10, .one (.fix (At.own 67))), (12, .one (.bool)), (13, .one (.int IntKind.i64))], items := [(139, .row (RK.one IntKind.u8) 32), (138, .row (RK.one IntKind.u8) 32), (16, .obj [.ints IntKind.u8 32]), (14, .obj [.ints IntKind.u8 32]), (0, .view (RK.mix ck43) 33), (2, .view (RK.one IntKind.u8) 32), (67, .row (RK.one IntKind.u8) 32)] }
def f5_2_ex2 : Shp := { n := 157, lo := 0, slots := [(109, .one (.bool)), (0, .one (.fix (At.own 0))), (2, .one (.fix (At.own 2))), (10, .one (.fix (At.own 67))), (12, .one (.bool)), (13, .one (.int IntKind.i64))], items := [(0, .view (RK.mix ck43) 33), (2, .view (RK.one IntKind.u8) 32), (67, .row (RK.one IntKind.u8) 32)] }
noncomputable def f5_2_st {R : Type} (N : Nat) (self : Bool → Int → List Int → List Int → List Int → Option R) (k1 : Bool → Bool → Bool → Bool → Int → List Int → List Int → List Int → List Int → List Int → List Int → List Int → Option R) (k2 : Bool → Bool → Int → List Int → List Int → List Int → Option R) (x1 : Bool) (x2 : Int) (x3 : List Int) (x4 : List Int) (x5 : List Int) : Option R :=
 bif Decidable.decide (x2 < nI (rowLen 33 x3)) then
 bif Decidable.decide (0 ≤ x2) && Decidable.decide (x2 < nI (rowLen 33 x3)) then
 bif okF x5 then
 bif Decidable.decide (x3.getD (x2.toNat * 33 + (0 + 0)) 0 ≥ 1) && Decidable.decide (x3.getD (x2.toNat * 33 + (0 + 0)) 0 ≤ 255) then
 bif Decidable.decide (0 ≤ x2) && Decidable.decide (x2 < nI (rowLen 33 x3)) then
 bif okF x4 then
 bif Decidable.decide (x3.getD (x2.toNat * 33 + (0 + 0)) 0 ≥ 1) && Decidable.decide (x3.getD (x2.toNat * 33 + (0 + 0)) 0 ≤ 255) then
 bif Decidable.decide (0 ≤ x2) && Decidable.decide (x2 < nI (rowLen 33 x3)) then
 let v0 : List Int := splice (zerosOf (1 * 32)) (Off.at (0 * 32)) (List.take 32 (List.drop (x2.toNat * 33 + (0 + 1)) x3));
 bif okF v0 then
 bif Decidable.decide (0 ≤ 0) && Decidable.decide (0 < nI (rowLen 32 (canG v0))) then
 bif !Decidable.decide (sN (evN x5 (plN (x3.getD (x2.toNat * 33 + (0 + 0)) 0))) = List.take 32 (List.drop (mulE (Int.toNat 0) 32) (canG v0))) then k1 Bool.false (!Decidable.decide (sN (evN x5 (plN (x3.getD (x2.toNat * 33 + (0 + 0)) 0))) = List.take 32 (List.drop (mulE (Int.toNat 0) 32) (canG v0)))) (Decidable.decide (x2 < nI (rowLen 33 x3))) x1 x2 (canG v0) v0 (sN (evN x4 (plN (x3.getD (x2.toNat * 33 + (0 + 0)) 0)))) (sN (evN x5 (plN (x3.getD (x2.toNat * 33 + (0 + 0)) 0)))) x3 x4 x5
 else
 bif x1 then
 let v1 : Bool := bif Bool.true then Decidable.decide (sN (evN x4 (plN (x3.getD (x2.toNat * 33 + (0 + 0)) 0))) = sN (evN x5 (plN (x3.getD (x2.toNat * 33 + (0 + 0)) 0)))) else Bool.false;
 let v2 : Int := IntKind.i64.wrap (x2 + 1);
 self v1 v2 x3 x4 x5
 else
 let v3 : Int := IntKind.i64.wrap (x2 + 1);
 self Bool.false v3 x3 x4 x5
 else Option.none
 else Option.none
 else Option.none
 else
 bif Decidable.decide (0 ≤ x2) && Decidable.decide (x2 < nI (rowLen 33 x3)) then
 let v4 : List Int := splice (zerosOf (1 * 32)) (Off.at (0 * 32)) (List.take 32 (List.drop (x2.toNat * 33 + (0 + 1)) x3));
 bif okF v4 then
 bif Decidable.decide (0 ≤ 0) && Decidable.decide (0 < nI (rowLen 32 (canG v4))) then
 bif !Decidable.decide (sN (evN x5 (plN (x3.getD (x2.toNat * 33 + (0 + 0)) 0))) = List.take 32 (List.drop (mulE (Int.toNat 0) 32) (canG v4))) then k1 Bool.false (!Decidable.decide (sN (evN x5 (plN (x3.getD (x2.toNat * 33 + (0 + 0)) 0))) = List.take 32 (List.drop (mulE (Int.toNat 0) 32) (canG v4)))) (Decidable.decide (x2 < nI (rowLen 33 x3))) x1 x2 (canG v4) v4 zS (sN (evN x5 (plN (x3.getD (x2.toNat * 33 + (0 + 0)) 0)))) x3 x4 x5
 else
 bif x1 then
 let v5 : Bool := bif Bool.true then Decidable.decide (zS = sN (evN x5 (plN (x3.getD (x2.toNat * 33 + (0 + 0)) 0)))) else Bool.false;
 let v6 : Int := IntKind.i64.wrap (x2 + 1);
 self v5 v6 x3 x4 x5
 else
 let v7 : Int := IntKind.i64.wrap (x2 + 1);
 self Bool.false v7 x3 x4 x5
 else Option.none
 else Option.none
 else Option.none
 else Option.none
 else Option.none
 else
 bif Decidable.decide (0 ≤ x2) && Decidable.decide (x2 < nI (rowLen 33 x3)) then
 bif okF x4 then
 bif Decidable.decide (x3.getD (x2.toNat * 33 + (0 + 0)) 0 ≥ 1) && Decidable.decide (x3.getD (x2.toNat * 33 + (0 + 0)) 0 ≤ 255) then
 bif Decidable.decide (0 ≤ x2) && Decidable.decide (x2 < nI (rowLen 33 x3)) then
 let v8 : List Int := splice (zerosOf (1 * 32)) (Off.at (0 * 32)) (List.take 32 (List.drop (x2.toNat * 33 + (0 + 1)) x3));
 bif okF v8 then
 bif Decidable.decide (0 ≤ 0) && Decidable.decide (0 < nI (rowLen 32 (canG v8))) then
 bif !Decidable.decide (zS = List.take 32 (List.drop (mulE (Int.toNat 0) 32) (canG v8))) then k1 Bool.false (!Decidable.decide (zS = List.take 32 (List.drop (mulE (Int.toNat 0) 32) (canG v8)))) (Decidable.decide (x2 < nI (rowLen 33 x3))) x1 x2 (canG v8) v8 (sN (evN x4 (plN (x3.getD (x2.toNat * 33 + (0 + 0)) 0)))) zS x3 x4 x5
 else
 bif x1 then
 let v9 : Bool := bif Bool.true then Decidable.decide (sN (evN x4 (plN (x3.getD (x2.toNat * 33 + (0 + 0)) 0))) = zS) else Bool.false;
 let v10 : Int := IntKind.i64.wrap (x2 + 1);
 self v9 v10 x3 x4 x5
 else
 let v11 : Int := IntKind.i64.wrap (x2 + 1);
 self Bool.false v11 x3 x4 x5
 else Option.none
 else Option.none
 else Option.none
 else
 bif Decidable.decide (0 ≤ x2) && Decidable.decide (x2 < nI (rowLen 33 x3)) then
 let v12 : List Int := splice (zerosOf (1 * 32)) (Off.at (0 * 32)) (List.take 32 (List.drop (x2.toNat * 33 + (0 + 1)) x3));
 bif okF v12 then
 bif Decidable.decide (0 ≤ 0) && Decidable.decide (0 < nI (rowLen 32 (canG v12))) then
 bif !Decidable.decide (zS = List.take 32 (List.drop (mulE (Int.toNat 0) 32) (canG v12))) then k1 Bool.false (!Decidable.decide (zS = List.take 32 (List.drop (mulE (Int.toNat 0) 32) (canG v12)))) (Decidable.decide (x2 < nI (rowLen 33 x3))) x1 x2 (canG v12) v12 zS zS x3 x4 x5
 else
 bif x1 then
 let v13 : Bool := bif Bool.true then Decidable.decide (zS = zS) else Bool.false;
 let v14 : Int := IntKind.i64.wrap (x2 + 1);
 self v13 v14 x3 x4 x5
 else
 let v15 : Int := IntKind.i64.wrap (x2 + 1);
 self Bool.false v15 x3 x4 x5
 else Option.none
 else Option.none
 else Option.none
 else Option.none
 else Option.none
 else Option.none
 else Option.none
else k2 (Decidable.decide (x2 < nI (rowLen 33 x3))) x1 x2 x3 x4 x5
noncomputable def f5_2_lp {R : Type} (N : Nat) (k1 : Bool → Bool → Bool → Bool → Int → List Int → List Int → List Int → List Int → List Int → List Int → List Int → Option R) (k2 : Bool → Bool → Int → List Int → List Int → List Int → Option R) : Nat → Bool → Int → List Int → List Int → List Int → Option R
 | 0, _, _, _, _, _ => none
 | n + 1, x1, x2, x3, x4, x5 => f5_2_st N (f5_2_lp N k1 k2 n) k1 k2 x1 x2 x3 x4 x5
noncomputable def f5_2_F (N : Nat) : (R : Type) → List Leaf → (X → AS → Option R) → Option R := fun _ ls K => match ls with
 | [.b x1, .i x2, .l x3, .l x4, .l x5] => f5_2_lp N (fun y1 y2 y3 y4 y5 y6 y7 y8 y9 y10 y11 y12 => K (X.ret) (fill f5_2_ex1 [.b y1, .b y2, .b y3, .b y4, .i y5, .l y6, .l y7, .l y8, .l y9, .l y10, .l y11, .l y12])) (fun y1 y2 y3 y4 y5 y6 => K (X.normal) (fill f5_2_ex2 [.b y1, .b y2, .i y3, .l y4, .l y5, .l y6])) N x1 x2 x3 x4 x5
 | _ => none
noncomputable def f5_raw {R : Type} (N : Nat) (s : List Int) (x : List Int) (b : List Int) (k : List DV → Option R) : Option R :=
 let v0 : List Int := x ++ [];
let v1 : List Int := List.replicate 32 0 ++ v0;
let v2 : List Int := v1 ++ [];
f5_0_lp N
 (fun w3_1 w3_2 w3_3 w3_4 w3_5 w3_6 w3_7 =>
 bif Decidable.decide (nI (rowLen 1 w3_3) > 0) then
 bif w3_3.length.ble 1073741824 then
 let v4 : Bool := bif Bool.true then idsN w3_3 != 0 else Bool.false;
 bif v4 then k [DV.v (SV.one (At.bool Bool.true))]
 else
 let v5 : Bool := bif Bool.false then Bool.true else Decidable.decide (nI (rowLen 64 w3_4) > 255);
 bif v5 then k [DV.v (SV.one (At.bool Bool.true))]
 else
 bif okP w3_4 then
 bif badP w3_4 then k [DV.v (SV.one (At.bool Bool.false))]
 else
 bif dupsP w3_4 then k [DV.v (SV.one (At.bool Bool.false))]
 else
 let v6 : Int := IntKind.i64.wrap (nI (rowLen 33 w3_5) + 1);
 let v7 : Bool := bif Bool.false then Bool.true else nI (rowLen 32 (arrN (newtG (pX w3_4) (pY w3_4) (w3_4.length / 64)) (w3_4.length / 64))) != v6;
 bif v7 then k [DV.v (SV.one (At.bool Bool.false))]
 else
 bif okF (arrN (newtG (pX w3_4) (pY w3_4) (w3_4.length / 64)) (w3_4.length / 64)) && okB (List.replicate 32 0) then
 let v8 : List Int := splice (zerosOf (1 * 32)) (Off.at (0 * 32)) w3_7;
 bif okF v8 then
 bif Decidable.decide (0 ≤ 0) && Decidable.decide (0 < nI (rowLen 32 (canG v8))) then
 let v9 : Bool := bif Bool.false then Bool.true else !Decidable.decide (sN (evN (arrN (newtG (pX w3_4) (pY w3_4) (w3_4.length / 64)) (w3_4.length / 64)) (vS (List.replicate 32 0))) = List.take 32 (List.drop (mulE (Int.toNat 0) 32) (canG v8)));
 bif v9 then k [DV.v (SV.one (At.bool Bool.false))]
 else
 bif nI (rowLen 32 w3_6) == nI (rowLen 32 (arrN (newtG (pX w3_4) (pY w3_4) (w3_4.length / 64)) (w3_4.length / 64))) then
 bif okF w3_6 && okB (List.replicate 32 0) then
 bif okF (arrN (newtG (pX w3_4) (pY w3_4) (w3_4.length / 64)) (w3_4.length / 64)) && okB (List.replicate 32 0) then
 let v10 : Bool := bif Bool.true then Decidable.decide (sN (evN w3_6 (vS (List.replicate 32 0))) = sN (evN (arrN (newtG (pX w3_4) (pY w3_4) (w3_4.length / 64)) (w3_4.length / 64)) (vS (List.replicate 32 0)))) else Bool.false;
 f5_2_lp N (fun w11_1 w11_2 w11_3 w11_4 w11_5 w11_6 w11_7 w11_8 w11_9 w11_10 w11_11 w11_12 => k [DV.v (SV.one (At.bool w11_1))])
 (fun w12_1 w12_2 w12_3 w12_4 w12_5 w12_6 =>
 bif !w12_2 then k [DV.v (SV.one (At.bool Bool.true))]
 else
 bif okF w12_5 then
 bif okF (canG w12_5) && okF w12_6 then
 let v13 : Bool := bif Bool.false then Bool.true else Decidable.decide (canG w12_5 = w12_6);
 k [DV.v (SV.one (At.bool v13))]
 else Option.none
 else Option.none)
 N v10 0 w3_5 w3_6 (arrN (newtG (pX w3_4) (pY w3_4) (w3_4.length / 64)) (w3_4.length / 64))
 else Option.none
 else Option.none
 else
 f5_2_lp N (fun w14_1 w14_2 w14_3 w14_4 w14_5 w14_6 w14_7 w14_8 w14_9 w14_10 w14_11 w14_12 => k [DV.v (SV.one (At.bool w14_1))])
 (fun w15_1 w15_2 w15_3 w15_4 w15_5 w15_6 =>
 bif !w15_2 then k [DV.v (SV.one (At.bool Bool.true))]
 else
 bif okF w15_5 then
 bif okF (canG w15_5) && okF w15_6 then
 let v16 : Bool := bif Bool.false then Bool.true else Decidable.decide (canG w15_5 = w15_6);
 k [DV.v (SV.one (At.bool v16))]
 else Option.none
 else Option.none)
 N Bool.false 0 w3_5 w3_6 (arrN (newtG (pX w3_4) (pY w3_4) (w3_4.length / 64)) (w3_4.length / 64))
 else Option.none
 else Option.none
 else Option.none
 else Option.none
 else Option.none
 else
 let v17 : Bool := bif Bool.false then Bool.true else Decidable.decide (nI (rowLen 64 w3_4) > 255);
 bif v17 then k [DV.v (SV.one (At.bool Bool.true))]
 else
 bif okP w3_4 then
 bif badP w3_4 then k [DV.v (SV.one (At.bool Bool.false))]
 else
 bif dupsP w3_4 then k [DV.v (SV.one (At.bool Bool.false))]
 else
 let v18 : Int := IntKind.i64.wrap (nI (rowLen 33 w3_5) + 1);
 let v19 : Bool := bif Bool.false then Bool.true else nI (rowLen 32 (arrN (newtG (pX w3_4) (pY w3_4) (w3_4.length / 64)) (w3_4.length / 64))) != v18;
 bif v19 then k [DV.v (SV.one (At.bool Bool.false))]
 else
 bif okF (arrN (newtG (pX w3_4) (pY w3_4) (w3_4.length / 64)) (w3_4.length / 64)) && okB (List.replicate 32 0) then
 let v20 : List Int := splice (zerosOf (1 * 32)) (Off.at (0 * 32)) w3_7;
 bif okF v20 then
 bif Decidable.decide (0 ≤ 0) && Decidable.decide (0 < nI (rowLen 32 (canG v20))) then
 let v21 : Bool := bif Bool.false then Bool.true else !Decidable.decide (sN (evN (arrN (newtG (pX w3_4) (pY w3_4) (w3_4.length / 64)) (w3_4.length / 64)) (vS (List.replicate 32 0))) = List.take 32 (List.drop (mulE (Int.toNat 0) 32) (canG v20)));
 bif v21 then k [DV.v (SV.one (At.bool Bool.false))]
 else
 bif nI (rowLen 32 w3_6) == nI (rowLen 32 (arrN (newtG (pX w3_4) (pY w3_4) (w3_4.length / 64)) (w3_4.length / 64))) then
 bif okF w3_6 && okB (List.replicate 32 0) then
 bif okF (arrN (newtG (pX w3_4) (pY w3_4) (w3_4.length / 64)) (w3_4.length / 64)) && okB (List.replicate 32 0) then
 let v22 : Bool := bif Bool.true then Decidable.decide (sN (evN w3_6 (vS (List.replicate 32 0))) = sN (evN (arrN (newtG (pX w3_4) (pY w3_4) (w3_4.length / 64)) (w3_4.length / 64)) (vS (List.replicate 32 0)))) else Bool.false;
 f5_2_lp N (fun w23_1 w23_2 w23_3 w23_4 w23_5 w23_6 w23_7 w23_8 w23_9 w23_10 w23_11 w23_12 => k [DV.v (SV.one (At.bool w23_1))])
 (fun w24_1 w24_2 w24_3 w24_4 w24_5 w24_6 =>
 bif !w24_2 then k [DV.v (SV.one (At.bool Bool.true))]
 else
 bif okF w24_5 then
 bif okF (canG w24_5) && okF w24_6 then
 let v25 : Bool := bif Bool.false then Bool.true else Decidable.decide (canG w24_5 = w24_6);
 k [DV.v (SV.one (At.bool v25))]
 else Option.none
 else Option.none)
 N v22 0 w3_5 w3_6 (arrN (newtG (pX w3_4) (pY w3_4) (w3_4.length / 64)) (w3_4.length / 64))
 else Option.none
 else Option.none
 else
 f5_2_lp N (fun w26_1 w26_2 w26_3 w26_4 w26_5 w26_6 w26_7 w26_8 w26_9 w26_10 w26_11 w26_12 => k [DV.v (SV.one (At.bool w26_1))])
 (fun w27_1 w27_2 w27_3 w27_4 w27_5 w27_6 =>
 bif !w27_2 then k [DV.v (SV.one (At.bool Bool.true))]
 else
 bif okF w27_5 then
 bif okF (canG w27_5) && okF w27_6 then
 let v28 : Bool := bif Bool.false then Bool.true else Decidable.decide (canG w27_5 = w27_6);
 k [DV.v (SV.one (At.bool v28))]
 else Option.none
 else Option.none)
 N Bool.false 0 w3_5 w3_6 (arrN (newtG (pX w3_4) (pY w3_4) (w3_4.length / 64)) (w3_4.length / 64))
 else Option.none
 else Option.none
 else Option.none
 else Option.none)
 N 0 [] v2 s b x


noncomputable def E5 (N : Nat) : Env := { Θ := Th, Γ := GL5, K := K5, ν := N5, fuel := 0, lp := [(0, mkL N5_0 f5_0_sh (f5_0_F N)), (2, mkL N5_2 f5_2_sh (f5_2_F N))] }

theorem f5_0_st_eq {R : Type} (N : Nat) (K : X → AS → Option R) (n : Nat) (x1 : Int) (x2 : List Int) (x3 : List Int) (x4 : List Int) (x5 : List Int) (x6 : List Int) : roundsOf (E5 N) N5_0 0 B5_0 K (n + 1) (fill f5_0_sh [.i x1, .l x2, .l x3, .l x4, .l x5, .l x6]) = f5_0_st N (fun x1 x2 x3 x4 x5 x6 => roundsOf (E5 N) N5_0 0 B5_0 K n (fill f5_0_sh [.i x1, .l x2, .l x3, .l x4, .l x5, .l x6])) (fun y1 y2 y3 y4 y5 y6 y7 => K (X.normal) (fill f5_0_ex1 [.b y1, .i y2, .l y3, .l y4, .l y5, .l y6, .l y7])) x1 x2 x3 x4 x5 x6 := by kernel_rfl
theorem f5_0_lp_eq {R : Type} (N : Nat) (K : X → AS → Option R) : ∀ (n : Nat) (x1 : Int) (x2 : List Int) (x3 : List Int) (x4 : List Int) (x5 : List Int) (x6 : List Int), roundsOf (E5 N) N5_0 0 B5_0 K n (fill f5_0_sh [.i x1, .l x2, .l x3, .l x4, .l x5, .l x6]) = f5_0_lp N (fun y1 y2 y3 y4 y5 y6 y7 => K (X.normal) (fill f5_0_ex1 [.b y1, .i y2, .l y3, .l y4, .l y5, .l y6, .l y7])) n x1 x2 x3 x4 x5 x6
  | 0, _, _, _, _, _, _ => rfl
  | n + 1, x1, x2, x3, x4, x5, x6 => by
    rw [f5_0_st_eq, f5_0_lp, show (fun x1 x2 x3 x4 x5 x6 => roundsOf (E5 N) N5_0 0 B5_0 K n (fill f5_0_sh [.i x1, .l x2, .l x3, .l x4, .l x5, .l x6])) = f5_0_lp N (fun y1 y2 y3 y4 y5 y6 y7 => K (X.normal) (fill f5_0_ex1 [.b y1, .i y2, .l y3, .l y4, .l y5, .l y6, .l y7])) n from by funext x1 x2 x3 x4 x5 x6; exact f5_0_lp_eq N K n x1 x2 x3 x4 x5 x6]
theorem f5_0_ok (N : Nat) (hlp : LoopsOk Try.prog (E5 N).lp B5_0) (hΓ : CtxOk Try.prog (E5 N).Γ) : LoopOk Try.prog (mkL N5_0 f5_0_sh (f5_0_F N)) 0 B5_0 := by
  refine loopOk_of (E := E5 N) thOk hΓ mixed hlp ?_
  intro R ls K r h
  unfold f5_0_F at h
  split at h
  · exact ⟨N, by rw [f5_0_lp_eq]; exact h⟩
  · cases h
theorem f5_2_st_eq {R : Type} (N : Nat) (K : X → AS → Option R) (n : Nat) (x1 : Bool) (x2 : Int) (x3 : List Int) (x4 : List Int) (x5 : List Int) : roundsOf (E5 N) N5_2 2 B5_2 K (n + 1) (fill f5_2_sh [.b x1, .i x2, .l x3, .l x4, .l x5]) = f5_2_st N (fun x1 x2 x3 x4 x5 => roundsOf (E5 N) N5_2 2 B5_2 K n (fill f5_2_sh [.b x1, .i x2, .l x3, .l x4, .l x5])) (fun y1 y2 y3 y4 y5 y6 y7 y8 y9 y10 y11 y12 => K (X.ret) (fill f5_2_ex1 [.b y1, .b y2, .b y3, .b y4, .i y5, .l y6, .l y7, .l y8, .l y9, .l y10, .l y11, .l y12])) (fun y1 y2 y3 y4 y5 y6 => K (X.normal) (fill f5_2_ex2 [.b y1, .b y2, .i y3, .l y4, .l y5, .l y6])) x1 x2 x3 x4 x5 := by kernel_rfl
theorem f5_2_lp_eq {R : Type} (N : Nat) (K : X → AS → Option R) : ∀ (n : Nat) (x1 : Bool) (x2 : Int) (x3 : List Int) (x4 : List Int) (x5 : List Int), roundsOf (E5 N) N5_2 2 B5_2 K n (fill f5_2_sh [.b x1, .i x2, .l x3, .l x4, .l x5]) = f5_2_lp N (fun y1 y2 y3 y4 y5 y6 y7 y8 y9 y10 y11 y12 => K (X.ret) (fill f5_2_ex1 [.b y1, .b y2, .b y3, .b y4, .i y5, .l y6, .l y7, .l y8, .l y9, .l y10, .l y11, .l y12])) (fun y1 y2 y3 y4 y5 y6 => K (X.normal) (fill f5_2_ex2 [.b y1, .b y2, .i y3, .l y4, .l y5, .l y6])) n x1 x2 x3 x4 x5
  | 0, _, _, _, _, _ => rfl
  | n + 1, x1, x2, x3, x4, x5 => by
    rw [f5_2_st_eq, f5_2_lp, show (fun x1 x2 x3 x4 x5 => roundsOf (E5 N) N5_2 2 B5_2 K n (fill f5_2_sh [.b x1, .i x2, .l x3, .l x4, .l x5])) = f5_2_lp N (fun y1 y2 y3 y4 y5 y6 y7 y8 y9 y10 y11 y12 => K (X.ret) (fill f5_2_ex1 [.b y1, .b y2, .b y3, .b y4, .i y5, .l y6, .l y7, .l y8, .l y9, .l y10, .l y11, .l y12])) (fun y1 y2 y3 y4 y5 y6 => K (X.normal) (fill f5_2_ex2 [.b y1, .b y2, .i y3, .l y4, .l y5, .l y6])) n from by funext x1 x2 x3 x4 x5; exact f5_2_lp_eq N K n x1 x2 x3 x4 x5]
theorem f5_2_ok (N : Nat) (hlp : LoopsOk Try.prog (E5 N).lp B5_2) (hΓ : CtxOk Try.prog (E5 N).Γ) : LoopOk Try.prog (mkL N5_2 f5_2_sh (f5_2_F N)) 2 B5_2 := by
  refine loopOk_of (E := E5 N) thOk hΓ mixed hlp ?_
  intro R ls K r h
  unfold f5_2_F at h
  split at h
  · exact ⟨N, by rw [f5_2_lp_eq]; exact h⟩
  · cases h

theorem lok5_2 (N : Nat) (hΓ : CtxOk Try.prog GL5) : LoopOk Try.prog (mkL N5_2 f5_2_sh (f5_2_F N)) 2 B5_2 := f5_2_ok N (loopsOk_of (l := []) (by kernel_rfl) trivial) hΓ
theorem lok5_0 (N : Nat) (hΓ : CtxOk Try.prog GL5) : LoopOk Try.prog (mkL N5_0 f5_0_sh (f5_0_F N)) 0 B5_0 := f5_0_ok N (loopsOk_of (l := []) (by kernel_rfl) trivial) hΓ
theorem f5_loops (N : Nat) (hΓ : CtxOk Try.prog GL5) : LoopsOk Try.prog (E5 N).lp B5 := loopsOk_of (l := [(0, B5_0), (2, B5_2)]) (by kernel_rfl) (allOk_cons (L := mkL N5_0 f5_0_sh (f5_0_F N)) rfl (lok5_0 N hΓ) (allOk_cons (L := mkL N5_2 f5_2_sh (f5_2_F N)) rfl (lok5_2 N hΓ) trivial))
theorem f5_raw_eq {R : Type} (N : Nat) (s : List Int) (x : List Int) (b : List Int) (k : List DV → Option R) : exec (E5 N) B5 (start5 157 s x b) (retK Th { ps := [], rs := [.val] } [] R5 k) = f5_raw N s x b k := by kernel_rfl
end Go.Proofs.Ytogcijgklnfjjaa

namespace Go.Proofs.Ytogcijgklnfjjaa
open Go Go.Eng
set_option maxRecDepth 100000
set_option linter.unusedVariables false

noncomputable def safeP (s x : List Int) (n : Nat) : List Int := ((List.replicate 32 0 ++ (x ++ [])) ++ []) ++ ptsS s n
theorem safeP_succ (s x : List Int) (i : Nat) : safeP s x (i + 1) = safeP s x i ++ ((sN (plN (shId s i)) ++ (shV s i ++ [])) ++ []) := by
  unfold safeP
  rw [List.append_nil (sN (plN (shId s i)) ++ (shV s i ++ [])), List.append_assoc _ (ptsS s i)]; rfl
theorem safeP_len {s x : List Int} (hs : okS s = true) (hx : x.length = 32) {i : Nat} (h : i ≤ s.length / 33) : (safeP s x i).length = (i + 1) * 64 := by
  unfold safeP
  rw [List.length_append, ptsS_len hs i h]
  simp only [List.append_nil, List.length_append, List.length_replicate, hx]
  omega
theorem safeP_ok {s x : List Int} (hs : okS s = true) (hx : okB x = true) {n : Nat} (hn : s.length / 33 = n) (hb : n ≤ 1048575) : okP (safeP s x n) = true := by
  have h1 := ptsS_ok hs (Nat.le_of_eq hn.symm) (by omega)
  have hl := safeP_len hs (okB_len' hx) (Nat.le_of_eq hn.symm)
  unfold okP at h1 ⊢
  rw [hl, Nat.mul_mod_left, show Nat.ble ((n + 1) * 64) 1073741824 = true from Nat.ble_eq_true_of_le (by omega)]
  rw [show (Nat.beq 0 0 && true) = true from rfl, Bool.true_and]
  simp only [Bool.and_eq_true] at h1
  unfold safeP
  have h2 : okB x = true := hx
  unfold okB at h2
  rw [Bool.and_eq_true] at h2
  simp only [List.append_nil, List.all_append, Bool.and_eq_true]
  exact ⟨⟨by decide, h2.2⟩, h1.2⟩
theorem safeP_zero {s x : List Int} (hx : okB x = true) (n : Nat) : pX (safeP s x n) 0 = 0 ∧ pY (safeP s x n) 0 = vS x := by
  have hl := okB_len' hx
  unfold pX pY ptX ptY safeP
  simp only [List.append_nil, Nat.zero_mul, List.drop_zero, Nat.zero_add, List.append_assoc]
  constructor
  · rw [List.take_left' (by simp)]; exact vS_z
  · rw [List.drop_left' (by simp), List.take_left' hl]
theorem safeP_pt {s x : List Int} (hs : okS s = true) (hx : okB x = true) {i n : Nat} (hn : s.length / 33 = n) (h : i < n) : pX (safeP s x n) (i + 1) = plN (shId s i) ∧ pY (safeP s x n) (i + 1) = vS (shV s i) := by
  have hl := okB_len' hx
  obtain ⟨e1, e2⟩ := ptsS_x hs h (Nat.le_of_eq hn.symm)
  have hd : ∀ e, (safeP s x n).drop ((i + 1) * 64 + e) = (ptsS s n).drop (i * 64 + e) := fun e => by
    unfold safeP
    rw [show (i + 1) * 64 + e = 64 + (i * 64 + e) by omega, ← List.drop_drop, List.drop_left' (by simp [hl])]
  have h0 := hd 0
  simp only [Nat.add_zero] at h0
  unfold pX pY
  constructor
  · unfold ptX at e1 ⊢; rw [h0, e1]; exact vS_sN (plN_lt _)
  · unfold ptY at e2 ⊢; rw [hd, e2]
theorem f5_pts {R : Type} {N : Nat} (k1 : Bool → Int → List Int → List Int → List Int → List Int → List Int → Option R) {s x b : List Int} {n : Nat} (hs : okS s = true) (hx : okB x = true) (hn : s.length / 33 = n) (hb : n ≤ 1048576) :
    ∀ j i : Nat, i + j = n → ∀ fuel, j < fuel → f5_0_lp N k1 fuel (i : Int) (idsS s i) (safeP s x i) s b x = k1 false (n : Int) (idsS s n) (safeP s x n) s b x := by
  have hr : nI (rowLen 33 s) = (n : Int) := by show ((s.length / 33 : Nat) : Int) = _; rw [hn]
  intro j
  induction j with
  | zero =>
    intro i h fuel hf
    obtain ⟨f, rfl⟩ : ∃ f, fuel = f + 1 := ⟨fuel - 1, by omega⟩
    show f5_0_st N (f5_0_lp N _ f) _ _ _ _ _ _ _ = _
    unfold f5_0_st
    rw [hr, ltF (by omega), cond_false, show i = n by omega]
  | succ j ih =>
    intro i h fuel hf
    obtain ⟨f, rfl⟩ : ∃ f, fuel = f + 1 := ⟨fuel - 1, by omega⟩
    show f5_0_st N (f5_0_lp N _ f) _ _ _ _ _ _ _ = _
    unfold f5_0_st
    have e1 : (zerosOf (1 * 1)).set 0 (s.getD (Int.toNat (i : Int) * 33 + (0 + 0)) 0) = [shId s i] := rfl
    have e2 : rowLen 1 (idsS s i) = i := idsS_len s i
    have e3 : rowLen 1 [shId s i] = 1 := rfl
    have e4 : s.getD (Int.toNat (i : Int) * 33 + (0 + 0)) 0 = shId s i := rfl
    have e5 : List.take 32 (List.drop (Int.toNat (i : Int) * 33 + (0 + 1)) s) = shV s i := rfl
    have hv := okB_len' ((okS_n hs).2.2 i (by omega))
    have e6 : rowLen 64 ((sN (plN (shId s i)) ++ (shV s i ++ [])) ++ []) = 1 := by
      show ((sN (plN (shId s i)) ++ (shV s i ++ [])) ++ []).length / 64 = 1
      simp only [List.append_nil, List.length_append, sN_len, hv]
    have e7 : rowLen 64 (safeP s x i) = i + 1 := by
      show (safeP s x i).length / 64 = i + 1
      rw [safeP_len hs (okB_len' hx) (by omega)]; omega
    have hle : (Nat.ble ((2 * (i + 1) + 192) * 8) big48 && Nat.ble (i + 1) big48) = true := by
      rw [Bool.and_eq_true, Nat.ble_eq, Nat.ble_eq]; unfold big48; omega
    have hle2 : (Nat.ble ((2 * (i + 1 + 1) + 192) * 64) big48 && Nat.ble (i + 1 + 1) big48) = true := by
      rw [Bool.and_eq_true, Nat.ble_eq, Nat.ble_eq]; unfold big48; omega
    rw [hr, ltT (show i < n by omega), ge0, e1, e4, e5]
    dsimp only
    rw [e2, e3, hle, e6, e7, hle2, wAdd (by omega), ← show idsS s (i + 1) = idsS s i ++ [shId s i] from rfl, ← safeP_succ]
    simp only [Bool.and_self, cond_true]
    exact ih (i + 1) (by omega) f (by omega)
theorem spl32 {x : List Int} (h : x.length = 32) : splice (zerosOf (1 * 32)) (Off.at (0 * 32)) x = x := by
  show (zerosOf 32).take 0 ++ (x ++ (zerosOf 32).drop (0 + x.length)) = x
  rw [h]
  show [] ++ (x ++ []) = x
  rw [List.append_nil]; rfl
theorem can_one {x : List Int} (h : okB x = true) : okF x = true ∧ nI (rowLen 32 (canG x)) = 1 ∧ List.take 32 (List.drop (mulE (Int.toNat 0) 32) (canG x)) = sN (vS x) := by
  have hl := okB_len' h
  have h2 := h
  unfold okB at h2
  rw [Bool.and_eq_true] at h2
  have hf : okF x = true := by
    unfold okF
    rw [hl]
    exact h2.2
  refine ⟨hf, ?_, ?_⟩
  · unfold canG; rw [arr_rows, hl]; rfl
  · unfold canG
    rw [hl]
    have := arr_el (numF x) (i := 0) (n := 1) (by omega)
    have e : numF x 0 = vS x := by
      unfold numF elF
      rw [Nat.zero_mul, List.drop_zero, List.take_of_length_le (by omega)]
    rw [e] at this
    exact this
noncomputable def sameB (s b p : List Int) (c : Bool) : Nat → Nat → Bool
  | 0, _ => c
  | j + 1, i => sameB s b p (bif c then decide (sN (evN b (plN (shId s i))) = sN (evN p (plN (shId s i)))) else false) j (i + 1)
theorem sameB_iff {s b p : List Int} : ∀ {j i : Nat} {c : Bool}, sameB s b p c j i = true → c = true ∧ ∀ l, i ≤ l → l < i + j → evN b (plN (shId s l)) = evN p (plN (shId s l))
  | 0, i, c, h => ⟨h, fun l h1 h2 => by omega⟩
  | j + 1, i, c, h => by
    obtain ⟨h1, h2⟩ := sameB_iff (j := j) h
    cases c with
    | false => cases h1
    | true =>
      rw [cond_true] at h1
      refine ⟨rfl, fun l h3 h4 => ?_⟩
      by_cases e : l = i
      · subst e; exact sN_inj1 (evN_lt _ _) (evN_lt _ _) (of_decide_eq_true h1)
      · exact h2 l (by omega) (by omega)
theorem f5_cmp {R : Type} {N : Nat} (k1 : Bool → Bool → Bool → Bool → Int → List Int → List Int → List Int → List Int → List Int → List Int → List Int → Option R) (k2 : Bool → Bool → Int → List Int → List Int → List Int → Option R) {s b p : List Int} {n : Nat} (hs : okS s = true) (hbk : okF b = true) (hp : okF p = true) (hn : s.length / 33 = n) (hb : n ≤ 255) (hr : ∀ i, i < n → 1 ≤ shId s i ∧ shId s i ≤ 255)
    (hv : ∀ i, i < n → evN p (plN (shId s i)) = vS (shV s i)) :
    ∀ j i : Nat, i + j = n → ∀ fuel, j < fuel → ∀ c, f5_2_lp N k1 k2 fuel c (i : Int) s b p = k2 false (sameB s b p c j i) (n : Int) s b p := by
  have hrw : nI (rowLen 33 s) = (n : Int) := by show ((s.length / 33 : Nat) : Int) = _; rw [hn]
  intro j
  induction j with
  | zero =>
    intro i h fuel hf c
    obtain ⟨f, rfl⟩ : ∃ f, fuel = f + 1 := ⟨fuel - 1, by omega⟩
    show f5_2_st N (f5_2_lp N _ _ f) _ _ _ _ _ _ _ = _
    unfold f5_2_st
    rw [hrw, ltF (by omega), cond_false, show i = n by omega]; rfl
  | succ j ih =>
    intro i h fuel hf c
    obtain ⟨f, rfl⟩ : ∃ f, fuel = f + 1 := ⟨fuel - 1, by omega⟩
    show f5_2_st N (f5_2_lp N _ _ f) _ _ _ _ _ _ _ = _
    unfold f5_2_st
    have e4 : s.getD (Int.toNat (i : Int) * 33 + (0 + 0)) 0 = shId s i := rfl
    have e5 : List.take 32 (List.drop (Int.toNat (i : Int) * 33 + (0 + 1)) s) = shV s i := rfl
    have hB := (okS_n hs).2.2 i (by omega)
    obtain ⟨c1, c2, c3⟩ := can_one hB
    have hi := hr i (by omega)
    have hs2 : sameB s b p c (j + 1) i = sameB s b p (bif c then decide (sN (evN b (plN (shId s i))) = sN (evN p (plN (shId s i)))) else false) j (i + 1) := rfl
    rw [hrw, ltT (show i < n by omega), ge0, e4, e5, spl32 (okB_len' hB), hp, hbk, decide_eq_true (show shId s i ≥ 1 by omega), decide_eq_true (show shId s i ≤ 255 by omega)]
    dsimp only
    rw [c1, c2, c3, wAdd (by omega), hv i (by omega), hs2, hv i (by omega), decide_eq_true (show (0 : Int) < 1 by omega)]
    simp only [Nat.le_refl, Bool.and_self, cond_true, decide_true, Bool.not_true, cond_false]
    cases c with
    | true => simp only [cond_true]; exact ih (i + 1) (by omega) f (by omega) _
    | false => simp only [cond_false]; exact ih (i + 1) (by omega) f (by omega) _

noncomputable def f5_tail {R : Type} (N : Nat) (s x b P : List Int) (k : List DV → Option R) : Option R :=
 let v17 : Bool := bif Bool.false then Bool.true else Decidable.decide (nI (rowLen 64 P) > 255);
 bif v17 then k [DV.v (SV.one (At.bool Bool.true))]
 else
 bif okP P then
 bif badP P then k [DV.v (SV.one (At.bool Bool.false))]
 else
 bif dupsP P then k [DV.v (SV.one (At.bool Bool.false))]
 else
 let v18 : Int := IntKind.i64.wrap (nI (rowLen 33 s) + 1);
 let v19 : Bool := bif Bool.false then Bool.true else nI (rowLen 32 (arrN (newtG (pX P) (pY P) (P.length / 64)) (P.length / 64))) != v18;
 bif v19 then k [DV.v (SV.one (At.bool Bool.false))]
 else
 bif okF (arrN (newtG (pX P) (pY P) (P.length / 64)) (P.length / 64)) && okB (List.replicate 32 0) then
 let v20 : List Int := splice (zerosOf (1 * 32)) (Off.at (0 * 32)) x;
 bif okF v20 then
 bif Decidable.decide (0 ≤ 0) && Decidable.decide (0 < nI (rowLen 32 (canG v20))) then
 let v21 : Bool := bif Bool.false then Bool.true else !Decidable.decide (sN (evN (arrN (newtG (pX P) (pY P) (P.length / 64)) (P.length / 64)) (vS (List.replicate 32 0))) = List.take 32 (List.drop (mulE (Int.toNat 0) 32) (canG v20)));
 bif v21 then k [DV.v (SV.one (At.bool Bool.false))]
 else
 bif nI (rowLen 32 b) == nI (rowLen 32 (arrN (newtG (pX P) (pY P) (P.length / 64)) (P.length / 64))) then
 bif okF b && okB (List.replicate 32 0) then
 bif okF (arrN (newtG (pX P) (pY P) (P.length / 64)) (P.length / 64)) && okB (List.replicate 32 0) then
 let v22 : Bool := bif Bool.true then Decidable.decide (sN (evN b (vS (List.replicate 32 0))) = sN (evN (arrN (newtG (pX P) (pY P) (P.length / 64)) (P.length / 64)) (vS (List.replicate 32 0)))) else Bool.false;
 f5_2_lp N (fun w23_1 w23_2 w23_3 w23_4 w23_5 w23_6 w23_7 w23_8 w23_9 w23_10 w23_11 w23_12 => k [DV.v (SV.one (At.bool w23_1))])
 (fun w24_1 w24_2 w24_3 w24_4 w24_5 w24_6 =>
 bif !w24_2 then k [DV.v (SV.one (At.bool Bool.true))]
 else
 bif okF w24_5 then
 bif okF (canG w24_5) && okF w24_6 then
 let v25 : Bool := bif Bool.false then Bool.true else Decidable.decide (canG w24_5 = w24_6);
 k [DV.v (SV.one (At.bool v25))]
 else Option.none
 else Option.none)
 N v22 0 s b (arrN (newtG (pX P) (pY P) (P.length / 64)) (P.length / 64))
 else Option.none
 else Option.none
 else
 f5_2_lp N (fun w26_1 w26_2 w26_3 w26_4 w26_5 w26_6 w26_7 w26_8 w26_9 w26_10 w26_11 w26_12 => k [DV.v (SV.one (At.bool w26_1))])
 (fun w27_1 w27_2 w27_3 w27_4 w27_5 w27_6 =>
 bif !w27_2 then k [DV.v (SV.one (At.bool Bool.true))]
 else
 bif okF w27_5 then
 bif okF (canG w27_5) && okF w27_6 then
 let v28 : Bool := bif Bool.false then Bool.true else Decidable.decide (canG w27_5 = w27_6);
 k [DV.v (SV.one (At.bool v28))]
 else Option.none
 else Option.none)
 N Bool.false 0 s b (arrN (newtG (pX P) (pY P) (P.length / 64)) (P.length / 64))
 else Option.none
 else Option.none
 else Option.none
 else Option.none
theorem f5_tail_true {s x b : List Int} {n : Nat} (hs : okS s = true) (hx : okB x = true) (hbk : okF b = true) (hsn : s.length / 33 = n) (hb : n ≤ 1048575) (hr : ∀ i, i < n → 1 ≤ shId s i ∧ shId s i ≤ 255) (hne : ∀ i j, i < j → j < n → shId s i ≠ shId s j) :
    f5_tail (n + 2) s x b (safeP s x n) some = some [.v (.one (.bool true))] := by
  have hl := safeP_len hs (okB_len' hx) (Nat.le_of_eq hsn.symm)
  have hd : (safeP s x n).length / 64 = n + 1 := by rw [hl]; omega
  have hrw : nI (rowLen 64 (safeP s x n)) = ((n + 1 : Nat) : Int) := by rw [rows64, hd]
  have hr3 : nI (rowLen 33 s) = (n : Int) := by show ((s.length / 33 : Nat) : Int) = _; rw [hsn]
  unfold f5_tail
  rw [hrw]
  by_cases hq : ((n + 1 : Nat) : Int) > 255
  · rw [decide_eq_true hq]; rfl
  · rw [decide_eq_false hq]
    simp only [cond_false]
    have hX0 := safeP_zero (s := s) hx n
    have hXi : ∀ i, i < n → pX (safeP s x n) (i + 1) = plN (shId s i) ∧ pY (safeP s x n) (i + 1) = vS (shV s i) := fun i hi => safeP_pt hs hx hsn hi
    have hdX : ∀ i j, i < j → j < n + 1 → pX (safeP s x n) i ≠ pX (safeP s x n) j := fun i j h1 h2 => by
      obtain ⟨j', rfl⟩ : ∃ j', j = j' + 1 := ⟨j - 1, by omega⟩
      have hj := hr j' (by omega)
      rw [(hXi j' (by omega)).1, plN_id hj.1 hj.2]
      cases i with
      | zero => rw [hX0.1]; omega
      | succ i =>
        have hi := hr i (by omega)
        rw [(hXi i (by omega)).1, plN_id hi.1 hi.2]
        have := hne i j' (by omega) (by omega)
        omega
    have hdup : dupsP (safeP s x n) = false := by
      cases hq : dupsP (safeP s x n) with
      | false => rfl
      | true =>
        obtain ⟨i, j, h1, _, h3, h4⟩ := dupAll_iff.1 hq
        rw [hd, Nat.zero_add] at h3
        unfold keyP at h4
        exact absurd (sN_inj1 (pX_lt _ _) (pX_lt _ _) h4) (hdX i j h1 h3)
    have hbad : badP (safeP s x n) = false := by
      unfold badP
      rw [hd, decide_eq_false (by omega), decide_eq_false (by omega)]; rfl
    generalize hG : newtG (pX (safeP s x n)) (pY (safeP s x n)) (n + 1) = G
    have hGlt : LtE G := by rw [← hG]; exact newtG_lt _ _ _
    have hev : ∀ l, l < n + 1 → evN (arrN G (n + 1)) (pX (safeP s x n) l) = pY (safeP s x n) l := fun l hl => by
      apply q_inj (evN_lt _ _) (pY_lt _ _)
      rw [evN_q, arr_div, ← newt_at (pX_lt (safeP s x n)) (pY_lt (safeP s x n)) (show 1 ≤ n + 1 by omega) hdX hl, hG]
      exact ev_congr fun i hi => by rw [numF_arr hGlt hi]
    have hev0 := hev 0 (by omega)
    rw [hX0.1, hX0.2] at hev0
    have hevi : ∀ i, i < n → evN (arrN G (n + 1)) (plN (shId s i)) = vS (shV s i) := fun i hi => by
      have := hev (i + 1) (by omega)
      rw [(hXi i hi).1, (hXi i hi).2] at this
      exact this
    obtain ⟨c1, c2, c3⟩ := can_one hx
    have hpk : okF (arrN G (n + 1)) = true := arr_okF (by omega)
    have fin : ∀ (c : Bool), (c = true → b.length / 32 = n + 1 ∧ evN b 0 = vS x) → sameB s b (arrN G (n + 1)) c n 0 = true → canG b = arrN G (n + 1) := fun c hc hsame => by
      obtain ⟨h1, h2⟩ := sameB_iff hsame
      obtain ⟨h3, h4⟩ := hc h1
      unfold canG
      rw [h3]
      apply arr_congr
      intro i hi
      apply q_inj (numF_lt b i) (hGlt i)
      have := unique (n := n + 1) (c := fun j => q (numF b j)) (d := fun j => q (G j)) (r := fun i => q (pX (safeP s x n) i)) (fun l hl => by
        have e1 : ev (n + 1) (fun j => q (numF b j)) (q (pX (safeP s x n) l)) = q (evN b (pX (safeP s x n) l)) := by rw [evN_q, h3]
        have e2 : ev (n + 1) (fun j => q (G j)) (q (pX (safeP s x n) l)) = q (evN (arrN G (n + 1)) (pX (safeP s x n) l)) := by
          rw [evN_q, arr_div]
          exact ev_congr fun i hi => by rw [numF_arr hGlt hi]
        rw [e1, e2, hev l hl]
        cases l with
        | zero => rw [hX0.1, hX0.2, h4]
        | succ l => rw [(hXi l (by omega)).1, (hXi l (by omega)).2, h2 l (by omega) (by omega), hevi l (by omega)]) (fun i j h1 h2 => q_ne (pX_lt _ i) (pX_lt _ j) (hdX i j h1 h2)) i hi
      exact this
    have hw : IntKind.i64.wrap ((n : Int) + 1) = ((n + 1 : Nat) : Int) := wAdd (by omega)
    rw [safeP_ok hs hx hsn (by omega), hbad, hdup, hd, hG, arr_rows, hr3, hw, hpk, okB_z, vS_z, spl32 (okB_len' hx), c1, c2, c3, hbk, hev0, rows32 hbk]
    simp only [Nat.le_refl, Bool.and_self, cond_true, cond_false, decide_true, Bool.not_true, bne_self_eq_false, show decide ((0 : Int) < 1) = true by decide]
    by_cases hlen : (((b.length / 32 : Nat) : Int) == ((n + 1 : Nat) : Int)) = true
    · rw [hlen, cond_true]
      refine (f5_cmp (N := n + 2) _ _ hs hbk hpk hsn (by omega) hr hevi n 0 (by omega) (n + 2) (by omega) _).trans ?_
      cases hsm : sameB s b (arrN G (n + 1)) (decide (sN (evN b 0) = sN (vS x))) n 0 with
      | false => rfl
      | true =>
        have := fin _ (fun hc => ⟨by have := eq_of_beq hlen; omega, sN_inj1 (evN_lt _ _) (vS_lt _) (of_decide_eq_true hc)⟩) hsm
        simp only [hbk, hpk, this, Bool.not_true, cond_false, cond_true, Bool.and_self, decide_true]
    · rw [Bool.not_eq_true] at hlen
      rw [hlen, cond_false]
      refine (f5_cmp (N := n + 2) _ _ hs hbk hpk hsn (by omega) hr hevi n 0 (by omega) (n + 2) (by omega) _).trans ?_
      cases hsm : sameB s b (arrN G (n + 1)) false n 0 with
      | false => rfl
      | true => exact absurd (sameB_iff hsm).1 (by decide)
theorem f5_true {s x b : List Int} {n : Nat} (hs : okS s = true) (hx : okB x = true) (hbk : okF b = true) (hl : s.length = n * 33) (hb : n ≤ 1048576) : f5_raw (n + 2) s x b some = some [.v (.one (.bool true))] := by
  have hsn : s.length / 33 = n := by omega
  have hl1 := idsS_len s n
  have e0 : safeP s x 0 = (List.replicate 32 0 ++ (x ++ [])) ++ [] := List.append_nil _
  have e1 : ∀ K : Bool → Int → List Int → List Int → List Int → List Int → List Int → Option (List DV), f5_0_lp (n + 2) K (n + 2) 0 [] ((List.replicate 32 0 ++ (x ++ [])) ++ []) s b x = K false (n : Int) (idsS s n) (safeP s x n) s b x := fun K => by
    rw [← e0]
    exact f5_pts (N := n + 2) K hs hx hsn hb n 0 (by omega) (n + 2) (by omega)
  unfold f5_raw
  refine (e1 _).trans ?_
  have r1 : nI (rowLen 1 (idsS s n)) = (n : Int) := by rw [rows1, hl1]
  rw [r1, hl1, Nat.ble_eq_true_of_le (show n ≤ 1073741824 by omega)]
  simp only [cond_true]
  by_cases h0 : (n : Int) > 0
  · rw [decide_eq_true h0, cond_true]
    by_cases hid : idsN (idsS s n) = 0
    · rw [hid, show ((0 : Int) != 0) = false from rfl]
      simp only [cond_false]
      have hI := ids_ok hid
      have hle := hI.le
      refine f5_tail_true hs hx hbk hsn (by omega) (fun i hi => ?_) (fun i j h1 h2 => ?_)
      · have := hI.rng i (by omega)
        rw [idsS_get s hi] at this; exact this
      · have := hI.ne i j h1 (by omega)
        rw [idsS_get s (show i < n by omega), idsS_get s h2] at this; exact this
    · rw [show (idsN (idsS s n) != 0) = true by simpa using hid]
      simp only [cond_true]
  · rw [decide_eq_false h0, cond_false]
    exact f5_tail_true hs hx hbk hsn (by omega) (fun i hi => by omega) (fun i j h1 h2 => by omega)
end Go.Proofs.Ytogcijgklnfjjaa

namespace Go.Proofs.Ytogcijgklnfjjaa
open Go Go.Eng Go.ChangeShapes Go.WideShapes Go.RowKit Go.ChangeAt
set_option maxRecDepth 100000

theorem contract5 (H : Type) (enc : TypeId × Value → H) (W : World) (base : Nat) (args : Array Value) (ds gs : List (DataW H)) (before : List MemPlace)
    (hval : ∀ (j : Nat) t v, Try.f5.params[j]? = some t → args[j]? = some v → Value.okWide Try.prog W .any base t v)
    (hW : DataW.Whole enc Try.prog Try.f5.params.toList Rows.shamirSafeSpec.vars false W args.toList ds gs before) (hk : Rows.uptoSmall H (ds ++ gs) = true) :
    Calls Try.prog 5 args W fun e W' => ∃ v, e = .returned v ∧ Rows.shamirSafeSpec.post enc Try.prog Try.f5 false true false false W args v W' := by
  have hW' := hW
  obtain ⟨p, q, hA, hV, rfl, hfz, hnd⟩ := hW
  obtain ⟨rfl, rfl⟩ := trodVars_none hV
  rw [Try.params5] at hA hval
  obtain ⟨v0, vs0, d0, ds0, p0, q0, hargs, rfl, rfl, h0, r0⟩ := trodAll_cons hA
  obtain ⟨v1, vs1, d1, ds1, p1, q1, rfl, rfl, rfl, h1, r1⟩ := trodAll_cons r0
  obtain ⟨v2, vs2, d2, ds2, p2, q2, rfl, rfl, rfl, h2, r2⟩ := trodAll_cons r1
  obtain ⟨rfl, rfl, rfl⟩ := trodAll_nil r2
  obtain rfl : args = #[v0, v1, v2] := by cases args; simp_all
  have hb := bulk_bound hk
  simp only [List.append_nil, Rows.uptoBulkAll, Nat.add_zero] at hb
  obtain ⟨A0, n0, c0, rfl⟩ := okWide_slice Try.underlying39 (hval 0 39 v0 rfl rfl)
  obtain ⟨f0, h0⟩ := h0
  obtain ⟨x0, len0, cap0, Ad0, loc0, o01, o02, l0, o04, o05, o06, w0, o08⟩ := open_viewM (l := ck43) (es := 33) Try.underlying39 (by omega) (elSh H enc) h0
  have b0 : len0 ≤ Rows.uptoBulk d0 := bulk_slice o08
  obtain ⟨x1, rfl, l1, w1⟩ := open_arr Try.underlying30 Try.underlying5 (by kernel_rfl) (by kernel_rfl) (hval 1 30 v1 rfl rfl) h1
  obtain ⟨A2, n2, c2, rfl⟩ := okWide_slice Try.underlying23 (hval 2 23 v2 rfl rfl)
  obtain ⟨f2, h2⟩ := h2
  obtain ⟨x2, len2, cap2, Ad2, loc2, o21, o22, l2, o24, o25, o26, w2, o28⟩ := open_view (k := .u8) (es := 32) Try.underlying23 (by omega) (elSc H enc) h2
  have b2 : len2 ≤ Rows.uptoBulk d2 := bulk_slice o28
  have hs : Sim W { blk := fun _ => False, loc := ({ loc := locOf [(0, loc0), (2, loc2)], tot := fun _ => 0 } : Rho).loc, tot := ({ loc := locOf [(0, loc0), (2, loc2)], tot := fun _ => 0 } : Rho).tot, sh := (start5 157 x0 x1 x2).S, out := ({ loc := locOf [(0, loc0), (2, loc2)], tot := fun _ => 0 } : Rho).out } ({ loc := locOf [(0, loc0), (2, loc2)], tot := fun _ => 0 } : Rho) (start5 157 x0 x1 x2) { tmps := #[.slice A0 n0 c0, .agg (x1.map (Value.int .u8)).toArray, .slice A2 n2 c2] ++ Array.replicate (157 - 3) undef, defers := [] } W := by
    refine sim_startD (s0 := start5 157 x0 x1 x2) (ρ := { loc := locOf [(0, loc0), (2, loc2)], tot := fun _ => 0 }) (args := #[.slice A0 n0 c0, .agg (x1.map (Value.int .u8)).toArray, .slice A2 n2 c2]) (n := 157) (avs := [.s (.one (.own 0)), .s (.one (.ints .u8 32 x1)), .s (.one (.own 2))]) rfl (by simp) rfl ?_ ?_ ?_ (fun b hb => hb.elim) ⟨(show RelAt ({ loc := locOf [(0, loc0), (2, loc2)], tot := fun _ => 0 } : Rho) (start5 157 x0 x1 x2).S (.own 0) [Value.slice A0 n0 c0] from rel_own rfl o01 o02 l0 o05 (by omega) rfl), ⟨rfl, l1⟩, (show RelAt ({ loc := locOf [(0, loc0), (2, loc2)], tot := fun _ => 0 } : Rho) (start5 157 x0 x1 x2).S (.own 2) [Value.slice A2 n2 c2] from rel_own rfl o21 o22 l2 o25 (by omega) rfl), trivial⟩
    · simp [start5, Nodup', putNames]
    · intro j it hi
      simp only [start5, AS.I, findI_cons] at hi
      split at hi
      · rename_i hj; subst hj; injection hi with hi; subst hi
        exact ⟨rfl, ⟨by omega, rfl⟩, ⟨len0, l0⟩, o04⟩
      ·
        split at hi
        · rename_i hj; subst hj; injection hi with hi; subst hi
          exact ⟨rfl, ⟨by omega, trivial⟩, ⟨len2, l2⟩, o24⟩
        ·
          simp [findI] at hi
    · intro j p hp
      simp only [locOf] at hp
      split at hp
      · exact o06 p hp
      ·
        split at hp
        · exact o26 p hp
        ·
          cases hp
  have he := f5_true (okS_row (by omega) l0 w0) (okB_row l1 w1) (okF_row (by omega) l2 w2) l0 (by omega)
  rw [← f5_raw_eq] at he
  refine (law_calls thOk GL5_ok mixed ok5 (f5_loops _ GL5_ok) (fun _ => id) hs he).mono fun e W' ⟨h1, h2, h3, h4⟩ => ?_
  exact ⟨_, h1, post_of_law laidOut (by kernel_rfl) Try.underlying4 rfl (by rw [Try.params5]; intro t ht; simp only [List.mem_cons, List.not_mem_nil, or_false] at ht; rcases ht with rfl | rfl | rfl <;> exact ⟨by kernel_rfl, by decide +kernel⟩) ⟨rfl, rfl, rfl⟩ hW' h2 h3 h4⟩

theorem lifted5 (os : Os) (started : os.Started) (H : Type) (enc : TypeId × Value → H) (F : Stop.Interp) :
    ReturnsInHanded {} Try.checked os 5 .any ((Rows.OpenSpec.upto Rows.shamirSafeSpec).pre6 enc Try.prog Try.f5 Rows.shamirSafeUptoRow.domain false) (((Rows.OpenSpec.upto Rows.shamirSafeSpec).at F).post enc Try.prog Try.f5 false true false false) := by
  refine returnsInHanded_of_cond (C := Try.checked) (s := Rows.OpenSpec.upto Rows.shamirSafeSpec) (k := Rows.uptoSmall) rfl own0 started (by kernel_rfl) Try.func5
    (OpenSpec.witness (enc := enc) (C := Try.checked) (s := Rows.OpenSpec.upto Rows.shamirSafeSpec) (k := Rows.uptoSmall) rfl false ⟨#[], #[.slice none 0 0, .agg (Array.mk (List.replicate 32 (Value.int .u8 0))), .slice none 0 0], []⟩ 8 (by kernel_rfl) (by kernel_rfl) (by kernel_rfl)
      (x := ([.nil, .agg (List.replicate 32 (.lit (.int .u8 0))), .nil], [], [])) (by kernel_rfl) rfl (by kernel_rfl)) ?_
  intro W base args ds gs before hval hW _ hk _
  exact contract5 H enc W base args ds gs before hval hW hk

theorem over5 : Rows.shamirSafeUptoRow.holds Try.pinned (Rows.OpenSpec.upto Rows.shamirSafeSpec) :=
  OpenClaim.holds_of_cond 5 Try.f5 rfl rfl rfl rfl rfl rfl rfl ⟨rfl, rfl, rfl, rfl, rfl⟩ rfl rfl rfl rfl rfl (by kernel_rfl) Try.func5 (by kernel_rfl)
    (of_decide_eq_true (by kernel_rfl)) (by unfold Func.isWrapper; first | (rw [if_pos (by decide +kernel)]; kernel_rfl) | (rw [if_neg (by decide +kernel)]; exact ⟨rfl, rfl⟩))
    (fun os started H enc _ F => lifted5 os started H enc F)

theorem shamirSafe_holds : Rows.ShamirSafeUptoSaid := over5
end Go.Proofs.Ytogcijgklnfjjaa

#print axioms Go.Proofs.Ytogcijgklnfjjaa.shamirSafe_holds
