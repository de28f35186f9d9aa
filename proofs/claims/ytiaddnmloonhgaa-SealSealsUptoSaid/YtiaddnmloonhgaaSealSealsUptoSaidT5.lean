/- SealSeals: for any key, nonce and texts whose data stay within 1,048,576: what is sealed and what is opened is the document's, and the bytes that were handed in stand as they stood. -/
import Derived.Test.YtiaddnmloonhgaaSealSealsUptoSaidT4
import Derived.WalkKit
import Derived.ProofKit
import Derived.JoinedCond
set_option linter.unusedVariables false
set_option linter.unusedSimpArgs false

/- Contexts with Given and the document's streams. -/
namespace Go.Proofs.Ytiaddnmloonhgaa
open Go Go.Eng
set_option maxRecDepth 100000
/-- no function, but a word to the engine: an 'and' is followed where it says yes -/
def noFI : FI := { sig := { ps := [], rs := [] }, impl := fun _ _ _ => none }
theorem ctxOk_prune {Γ : Ctx} (h : CtxOk Try.prog Γ) : CtxOk Try.prog ((999999, noFI) :: Γ) := by
  intro g fi hg
  unfold findF at hg
  split at hg
  · injection hg with hg; subst hg
    refine ⟨fun R ds k r hr => ?_, rfl⟩
    cases (show (none : Option R) = some r from hr)
  · exact h g fi hg
noncomputable def QS0 : Ctx := (15, G15) :: (22, G22) :: (17, { sig := S17, impl := I17 }) :: (19, { sig := S19, impl := I19 }) :: (21, { sig := S21, impl := I21 }) :: G6
theorem QS0_ok : CtxOk Try.prog QS0 := ctxOk_cons ok15 rfl cG15 (ctxOk_cons ok22 rfl cG22 (ctxOk_cons ok17 rfl c17 (ctxOk_cons ok19 rfl c19 (ctxOk_cons ok21 rfl c21 G6_ok))))
noncomputable def QS : Ctx := (999999, noFI) :: QS0
theorem QS_ok : CtxOk Try.prog QS := ctxOk_prune QS0_ok
def start3s (n : Nat) (key : List Int) (ctr : Int) (nonce b : List Int) : AS :=
  { n := n, lo := 0, tmps := [(0, .s (.one (.ints .u8 32 key))), (1, .s (.one (.int .u32 ctr))), (2, .s (.one (.ints .u8 12 nonce))), (3, .s (.one (.own 3)))], items := [(3, .view .u8 1 b)] }
end Go.Proofs.Ytiaddnmloonhgaa

/- The document's tag: its contract; contexts. -/
namespace Go.Proofs.Ytiaddnmloonhgaa
open Go Go.Eng
set_option maxRecDepth 100000
def I25 : (R : Type) → List DV → (List DV → Option R) → Option R := fun _ ds k => match ds with
  | [.v (.one (.ints .u8 32 key)), .lst .u8 1 b] => cond (okN 32 key && okY lim b) (k [.v (.one (.ints .u8 16 (macL key b)))]) none
  | _ => none
theorem c25 : Contract Try.prog 25 { sig := S25, impl := I25 } := by
  refine Contract.refine fun R ds k r h => ?_
  unfold I25 at h
  split at h
  · rename_i key b
    refine ⟨_, f25_contract (b.length + 2) Q25_ok, ?_⟩
    cases hc : okN 32 key && okY lim b with
    | true =>
      rw [hc] at h
      rw [Bool.and_eq_true] at hc
      obtain ⟨l, rfl, hl, hb⟩ := okY_of hc.2
      obtain ⟨k1, k2⟩ := okN_of hc.1
      obtain ⟨kl, rfl⟩ := nats_of (xs := key) fun x hx => (k2 x hx).1
      have hkb : ∀ x ∈ kl, x < 256 := fun x hx => by
        have := (k2 (x : Int) (by unfold nats; exact List.mem_map.mpr ⟨x, hx, rfl⟩)).2
        omega
      rw [f25_raw_eq, nats_length, f25_spec hkb (by rw [← nats_length]; exact k1) hl hb]; exact h
    | false => rw [hc] at h; cases h
  · exact (Option.some_ne_none _ h.symm).elim
noncomputable def QM0 : Ctx := (25, { sig := S25, impl := I25 }) :: QS0
theorem QM0_ok : CtxOk Try.prog QM0 := ctxOk_cons ok25 rfl c25 QS0_ok
noncomputable def QM : Ctx := (999999, noFI) :: QM0
theorem QM_ok : CtxOk Try.prog QM := ctxOk_prune QM0_ok
def start4s (n : Nat) (key b : List Int) : AS :=
  { n := n, lo := 0, tmps := [(0, .s (.one (.ints .u8 32 key))), (1, .s (.one (.own 1)))], items := [(1, .view .u8 1 b)] }
end Go.Proofs.Ytiaddnmloonhgaa

/- The document's small helpers: eight bytes, nonces of numbers; how filled is handed its bytes. -/
namespace Go.Proofs.Ytiaddnmloonhgaa
open Go Go.Eng
set_option maxRecDepth 100000
theorem f98_spec {R : Type} (n : Int) (k : List DV → Option R) : f98_raw 0 n k = k [.lst .u8 1 (bytesL (IntKind.u64.wrap n) 8)] := by kernel_rfl
def I98 : (R : Type) → List DV → (List DV → Option R) → Option R := fun _ ds k => match ds with
  | [.v (.one (.int .i64 n))] => cond (decide (0 ≤ n) && decide (n ≤ 4611686018427387903)) (k [.lst .u8 1 (bytesL n 8)]) none
  | _ => none
theorem c98 : Contract Try.prog 98 { sig := S98, impl := I98 } := by
  refine Contract.refine fun R ds k r h => ⟨_, f98_contract 0 ctxOk_nil, ?_⟩
  unfold I98 at h
  split at h
  · rename_i n
    cases hc : decide (0 ≤ n) && decide (n ≤ 4611686018427387903) with
    | true =>
      rw [hc] at h
      rw [Bool.and_eq_true, decide_eq_true_eq, decide_eq_true_eq] at hc
      obtain ⟨m, rfl⟩ : ∃ m : Nat, n = m := ⟨n.toNat, by omega⟩
      rw [f98_raw_eq, f98_spec, w64 (n := m) (by omega)]; exact h
    | false => rw [hc] at h; cases h
  · cases h
theorem f70_spec {R : Type} (n : Int) (k : List DV → Option R) : f70_raw 0 n k = k [.v (.one (.ints .u8 12 ([0, 0, 0, 0] ++ bytesL n 8)))] := by kernel_rfl
def I70 : (R : Type) → List DV → (List DV → Option R) → Option R := fun _ ds k => match ds with
  | [.v (.one (.int .u64 n))] => k [.v (.one (.ints .u8 12 ([0, 0, 0, 0] ++ bytesL n 8)))]
  | _ => none
theorem c70 : Contract Try.prog 70 { sig := S70, impl := I70 } := by
  refine Contract.refine fun R ds k r h => ⟨_, f70_contract 0 ctxOk_nil, ?_⟩
  unfold I70 at h
  split at h
  · rw [f70_raw_eq, f70_spec]; exact h
  · cases h
def So97 : Sig := { ps := [.own .u8 1], rs := [.fresh .u8 1] }
end Go.Proofs.Ytiaddnmloonhgaa

/- What rime/rimeref12.filled comes to. MADE BY PROGRAM (wip/tools/mkfn.py, EngGen.lean). -/
namespace Go.Proofs.Ytiaddnmloonhgaa
open Go Go.Eng
set_option maxRecDepth 100000
set_option linter.unusedVariables false

def f97_0_sh : Shp := { n := 11, lo := 1, slots := [(0, .one (.fix (At.own 1000000)))], items := [(1000000, .row IntKind.u8 1)] }
def f97_0_ex1 : Shp := { n := 11, lo := 1, slots := [(6, .one (.bool)), (0, .one (.fix (At.own 1000000)))], items := [(1000000, .row IntKind.u8 1)] }
noncomputable def f97_0_st {R : Type} (N : Nat) (self : List Int → Option R) (k1 : Bool → List Int → Option R) (x1 : List Int) : Option R :=
 bif (nI (rowLen 1 x1)).tmod 16 != 0 then
 let v0 : List Int := (zerosOf (1 * 1)).set 0 0;
 bif ((2 * (rowLen 1 x1 + rowLen 1 v0) + 192) * 1).ble big48 && (rowLen 1 x1 + rowLen 1 v0).ble big48 then
 let v1 : List Int := x1 ++ v0;
 self v1
 else Option.none
else k1 ((nI (rowLen 1 x1)).tmod 16 != 0) x1
noncomputable def f97_0_lp {R : Type} (N : Nat) (k1 : Bool → List Int → Option R) : Nat → List Int → Option R
 | 0, _ => none
 | n + 1, x1 => f97_0_st N (f97_0_lp N k1 n) k1 x1
noncomputable def f97_0_F (N : Nat) : (R : Type) → List Leaf → (X → AS → Option R) → Option R := fun _ ls K => match ls with
 | [.l x1] => f97_0_lp N (fun y1 y2 => K (X.normal) (fill f97_0_ex1 [.b y1, .l y2])) N x1
 | _ => none
noncomputable def f97_raw {R : Type} (N : Nat) (x : List Int) (k : List DV → Option R) : Option R :=
 f97_0_lp N (fun w0_1 w0_2 => k [DV.lst IntKind.u8 1 w0_2]) N x


noncomputable def E97 (N : Nat) : Env := { Θ := Th, Γ := [], K := K97, ν := N97, fuel := 0, lp := [(0, mkL N97_0 f97_0_sh (f97_0_F N))] }

theorem f97_0_st_eq {R : Type} (N : Nat) (K : X → AS → Option R) (n : Nat) (x1 : List Int) : roundsOf (E97 N) N97_0 0 B97_0 K (n + 1) (fill f97_0_sh [.l x1]) = f97_0_st N (fun x1 => roundsOf (E97 N) N97_0 0 B97_0 K n (fill f97_0_sh [.l x1])) (fun y1 y2 => K (X.normal) (fill f97_0_ex1 [.b y1, .l y2])) x1 := by kernel_rfl
theorem f97_0_lp_eq {R : Type} (N : Nat) (K : X → AS → Option R) : ∀ (n : Nat) (x1 : List Int), roundsOf (E97 N) N97_0 0 B97_0 K n (fill f97_0_sh [.l x1]) = f97_0_lp N (fun y1 y2 => K (X.normal) (fill f97_0_ex1 [.b y1, .l y2])) n x1
  | 0, _ => rfl
  | n + 1, x1 => by
    rw [f97_0_st_eq, f97_0_lp, show (fun x1 => roundsOf (E97 N) N97_0 0 B97_0 K n (fill f97_0_sh [.l x1])) = f97_0_lp N (fun y1 y2 => K (X.normal) (fill f97_0_ex1 [.b y1, .l y2])) n from by funext x1; exact f97_0_lp_eq N K n x1]
theorem f97_0_ok (N : Nat) (hlp : LoopsOk Try.prog (E97 N).lp B97_0) (hΓ : CtxOk Try.prog (E97 N).Γ) : LoopOk Try.prog (mkL N97_0 f97_0_sh (f97_0_F N)) 0 B97_0 := by
  refine loopOk_of (E := E97 N) thOk hΓ mixed hlp ?_
  intro R ls K r h
  unfold f97_0_F at h
  split at h
  · exact ⟨N, by rw [f97_0_lp_eq]; exact h⟩
  · cases h

theorem lok97_0 (N : Nat) (hΓ : CtxOk Try.prog []) : LoopOk Try.prog (mkL N97_0 f97_0_sh (f97_0_F N)) 0 B97_0 := f97_0_ok N (loopsOk_of (l := []) (by kernel_rfl) trivial) hΓ
theorem f97_contract (N : Nat) (hΓ : CtxOk Try.prog []) : Contract Try.prog 97 { sig := So97, impl := fun _ ds k => call (E97 N) So97 11 B97 R97 ds k } :=
  call_contract (E := E97 N) thOk hΓ mixed ok97.look ok97.body ok97.n ok97.rv ok97.name rfl (by decide) (loopsOk_of (l := [(0, B97_0)]) (by kernel_rfl) (allOk_cons (L := mkL N97_0 f97_0_sh (f97_0_F N)) rfl (lok97_0 N hΓ) trivial))
theorem f97_raw_eq {R : Type} (N : Nat) (x : List Int) (k : List DV → Option R) : call (E97 N) So97 11 B97 R97 [.lst .u8 1 x] k = f97_raw N x k := by kernel_rfl
end Go.Proofs.Ytiaddnmloonhgaa

/- Bytes 0 up to a multiple of sixteen. -/
namespace Go.Proofs.Ytiaddnmloonhgaa
open Go Go.Eng
set_option maxRecDepth 100000
theorem fill_loop {R : Type} {N : Nat} (k1 : Bool → List Int → Option R) : ∀ (m : Nat) (x : List Int), padN x.length = m → x.length ≤ 1099511627776 → ∀ fuel, m < fuel → f97_0_lp N k1 fuel x = k1 false (x ++ List.replicate m 0) := by
  intro m
  induction m with
  | zero =>
    intro x hm hl fuel hf
    obtain ⟨f, rfl⟩ : ∃ f, fuel = f + 1 := ⟨fuel - 1, by omega⟩
    show f97_0_st N (f97_0_lp N k1 f) k1 x = _
    unfold f97_0_st
    unfold padN at hm
    have e : ((nI (rowLen 1 x)).tmod 16 != 0) = false := by
      show ((((x.length : Nat) : Int)).tmod 16 != 0) = false
      rw [show (((x.length : Nat) : Int)).tmod 16 = ((x.length % 16 : Nat) : Int) from rfl, bne_eq_false_iff_eq]; omega
    rw [e, cond_false, List.replicate_zero, List.append_nil]
  | succ m ih =>
    intro x hm hl fuel hf
    obtain ⟨f, rfl⟩ : ∃ f, fuel = f + 1 := ⟨fuel - 1, by omega⟩
    show f97_0_st N (f97_0_lp N k1 f) k1 x = _
    unfold f97_0_st
    unfold padN at hm
    have e : ((nI (rowLen 1 x)).tmod 16 != 0) = true := by
      show ((((x.length : Nat) : Int)).tmod 16 != 0) = true
      rw [show (((x.length : Nat) : Int)).tmod 16 = ((x.length % 16 : Nat) : Int) from rfl, bne_iff_ne]; omega
    rw [e, cond_true]
    dsimp only
    rw [one_set, show rowLen 1 x + rowLen 1 [(0 : Int)] = x.length + 1 from rfl, one_app hl, cond_true]
    rw [ih (x ++ [0]) (by unfold padN; rw [List.length_append, List.length_singleton]; omega) (by rw [List.length_append, List.length_singleton]; omega) f (by omega)]
    rw [List.append_assoc]; rfl
def I97 : (R : Type) → List DV → (List DV → Option R) → Option R := fun _ ds k => match ds with
  | [.lst .u8 1 a] => cond (Nat.ble a.length lim4) (k [.lst .u8 1 (padL a)]) none
  | _ => none
theorem c97 : Contract Try.prog 97 { sig := So97, impl := I97 } := by
  refine Contract.refine fun R ds k r h => ⟨_, f97_contract 20 ctxOk_nil, ?_⟩
  unfold I97 at h
  split at h
  · rename_i a
    rw [f97_raw_eq]
    cases hb : Nat.ble a.length lim4 with
    | true =>
      rw [hb] at h
      have hb := Nat.le_of_ble_eq_true hb
      have hb' : a.length ≤ 274877906944 := hb
      have hp := padN_lt a.length
      unfold f97_raw
      refine (fill_loop (N := 20) _ (padN a.length) a rfl (by omega) 20 (by omega)).trans ?_
      exact h
    | false => rw [hb] at h; cases h
  · cases h
/-- guards into which no reckoning looks -/
noncomputable def okM : List Int → List Int → Bool := (stkD fun key b => okN 32 key && okY lim b).1
theorem okM_def (key b : List Int) : okM key b = (okN 32 key && okY lim b) := congrFun (congrFun (stkD fun key b => okN 32 key && okY lim b).2 key) b
noncomputable def blockS : List Int → Int → List Int → List Int := (stkD blockL).1
theorem blockS_def (key : List Int) (c : Int) (nonce : List Int) : blockS key c nonce = blockL key c nonce := congrFun (congrFun (congrFun (stkD blockL).2 key) c) nonce
noncomputable def macS : List Int → List Int → List Int := (stkD macL).1
theorem macS_def (key b : List Int) : macS key b = macL key b := congrFun (congrFun (stkD macL).2 key) b
noncomputable def okKN : List Int → List Int → Bool := (stkD fun key nonce => okN 32 key && okN 12 nonce).1
theorem okKN_def (key nonce : List Int) : okKN key nonce = (okN 32 key && okN 12 nonce) := congrFun (congrFun (stkD fun key nonce => okN 32 key && okN 12 nonce).2 key) nonce
noncomputable def J25 : (R : Type) → List DV → (List DV → Option R) → Option R := fun _ ds k => match ds with
  | [.v (.one (.ints .u8 32 key)), .lst .u8 1 b] => cond (okM key b) (k [.v (.one (.ints .u8 16 (macS key b)))]) none
  | _ => none
theorem d25 : Contract Try.prog 25 { sig := S25, impl := J25 } := by
  refine Contract.refine fun R ds k r h => ⟨_, c25, ?_⟩
  unfold J25 at h
  split at h
  · rw [okM_def, macS_def] at h; exact h
  · cases h
noncomputable def J19 : (R : Type) → List DV → (List DV → Option R) → Option R := fun _ ds k => match ds with
  | [.v (.one (.ints .u8 32 key)), .v (.one (.int .u32 ctr)), .v (.one (.ints .u8 12 nonce))] => cond (okKN key nonce) (k [.v (.one (.ints .u8 64 (blockS key ctr nonce)))]) none
  | _ => none
theorem d19 : Contract Try.prog 19 { sig := S19, impl := J19 } := by
  refine Contract.refine fun R ds k r h => ⟨_, c19, ?_⟩
  unfold J19 at h
  split at h
  · rw [okKN_def, blockS_def] at h; exact h
  · cases h
noncomputable def Q68 : Ctx := (97, { sig := So97, impl := I97 }) :: (98, { sig := S98, impl := I98 }) :: (25, { sig := S25, impl := J25 }) :: (19, { sig := S19, impl := J19 }) :: []
theorem Q68_ok : CtxOk Try.prog Q68 := ctxOk_cons ok97 rfl c97 (ctxOk_cons ok98 rfl c98 (ctxOk_cons ok25 rfl d25 (ctxOk_cons ok19 rfl d19 ctxOk_nil)))
end Go.Proofs.Ytiaddnmloonhgaa

/- What rime/rimeref12.tag comes to. MADE BY PROGRAM (wip/tools/mkfn.py, EngGen.lean). -/
namespace Go.Proofs.Ytiaddnmloonhgaa
open Go Go.Eng
set_option maxRecDepth 100000
set_option linter.unusedVariables false

noncomputable def f68_raw {R : Type} (N : Nat) (key : List Int) (nonce : List Int) (a : List Int) (b : List Int) (k : List DV → Option R) : Option R :=
 bif okKN key nonce then
 bif (rowLen 1 a * 1).ble big48 && (rowLen 1 a).ble big48 then
 bif a.length.ble lim4 then
 bif ((2 * (rowLen 1 (padL a) + rowLen 1 b) + 192) * 1).ble big48 && (rowLen 1 (padL a) + rowLen 1 b).ble big48 then
 let v0 : List Int := padL a ++ b;
 bif v0.length.ble lim4 then
 bif Decidable.decide (0 ≤ nI (rowLen 1 a)) && Decidable.decide (nI (rowLen 1 a) ≤ 4611686018427387903) then
 bif ((2 * (rowLen 1 (padL v0) + rowLen 1 (bytesL (nI (rowLen 1 a)) 8)) + 192) * 1).ble big48 && (rowLen 1 (padL v0) + rowLen 1 (bytesL (nI (rowLen 1 a)) 8)).ble big48 then
 bif Decidable.decide (0 ≤ nI (rowLen 1 b)) && Decidable.decide (nI (rowLen 1 b) ≤ 4611686018427387903) then
 let v1 : List Int := padL v0 ++ bytesL (nI (rowLen 1 a)) 8;
 bif ((2 * (rowLen 1 v1 + rowLen 1 (bytesL (nI (rowLen 1 b)) 8)) + 192) * 1).ble big48 && (rowLen 1 v1 + rowLen 1 (bytesL (nI (rowLen 1 b)) 8)).ble big48 then
 let v2 : List Int := Go.Eng.sub (blockS key 0 nonce) (plusO Off.z 1 Option.none) (mulE (Go.Eng.subN (hiNat (Option.some 32) 64) Option.none) 1);
 let v3 : Nat := Min.min (rowLen 1 v2) (Go.Eng.subN (hiNat Option.none 32) Option.none);
 let v4 : List Int := splice (List.replicate 32 0) (plusO Off.z 1 Option.none) (List.take (mulE v3 1) v2);
 let v5 : List Int := v1 ++ bytesL (nI (rowLen 1 b)) 8;
 bif okM v4 v5 then k [DV.v (SV.one (At.ints IntKind.u8 16 (macS v4 v5)))] else Option.none
 else Option.none
 else Option.none
 else Option.none
 else Option.none
 else Option.none
 else Option.none
 else Option.none
 else Option.none
else Option.none


noncomputable def E68 (N : Nat) : Env := { Θ := Th, Γ := Q68, K := K68, ν := N68, fuel := 0, lp := [] }


theorem f68_contract (N : Nat) (hΓ : CtxOk Try.prog Q68) : Contract Try.prog 68 { sig := S68, impl := fun _ ds k => call (E68 N) S68 39 B68 R68 ds k } :=
  call_contract (E := E68 N) thOk hΓ mixed ok68.look ok68.body ok68.n ok68.rv ok68.name rfl (by decide) (loopsOk_of (l := []) (by kernel_rfl) trivial)
theorem f68_raw_eq {R : Type} (N : Nat) (key : List Int) (nonce : List Int) (a : List Int) (b : List Int) (k : List DV → Option R) : call (E68 N) S68 39 B68 R68 [.v (.one (.ints .u8 32 key)), .v (.one (.ints .u8 12 nonce)), .lst .u8 1 a, .lst .u8 1 b] k = f68_raw N key nonce a b k := by kernel_rfl
end Go.Proofs.Ytiaddnmloonhgaa

/- The document's tag of what is open and what is sealed is the program's. -/
namespace Go.Proofs.Ytiaddnmloonhgaa
open Go Go.Eng
set_option maxRecDepth 100000

theorem wrapU8_rng (z : Int) : 0 ≤ IntKind.u8.wrap z ∧ IntKind.u8.wrap z < 256 := by
  unfold IntKind.wrap
  simp only [IntKind.bits, IntKind.signed, Bool.false_and]
  have h1 : 0 ≤ z % 256 := Int.emod_nonneg _ (by decide)
  have h2 : z % 256 < 256 := Int.emod_lt_of_pos _ (by decide)
  exact ⟨h1, h2⟩
theorem block_len (key : List Int) (c : Int) (nonce : List Int) : (blockL key c nonce).length = 64 := by unfold blockL; rw [outL_ref]; simp
theorem block_byt (key : List Int) (c : Int) (nonce : List Int) : Bytes (blockL key c nonce) := by
  unfold blockL
  rw [outL_ref]
  intro x hx
  obtain ⟨i, _, rfl⟩ := List.mem_map.1 hx
  exact wrapU8_rng _
theorem bytesGo_byt (n : Int) : ∀ (m i : Nat), Bytes (bytesGo n m i)
  | 0, _ => by intro x hx; cases hx
  | m + 1, i => by
    intro x hx
    rcases List.mem_cons.1 hx with e | hx
    · subst e; exact wrapU8_rng _
    · exact bytesGo_byt n m (i + 1) x hx
theorem bytesL_byt (n : Int) (m : Nat) : Bytes (bytesL n m) := bytesGo_byt n m 0
theorem bytes_app {a b : List Int} (ha : Bytes a) (hb : Bytes b) : Bytes (a ++ b) := by
  intro x hx
  rcases List.mem_append.1 hx with h | h
  · exact ha x h
  · exact hb x h
theorem padL_bytes {a : List Int} (ha : Bytes a) : Bytes (padL a) := by
  refine bytes_app ha fun x hx => ?_
  have := List.eq_of_mem_replicate hx
  omega
theorem padL_twice (a b : List Int) : padL (padL a ++ b) = padL a ++ padL b := by
  have h : padN (padL a ++ b).length = padN b.length := by
    rw [List.length_append, padL_length]
    unfold padN
    omega
  unfold padL at h ⊢
  rw [h, List.append_assoc]
theorem whole_bytes {a b : List Int} (ha : Bytes a) (hb : Bytes b) : Bytes (wholeText a b) := bytes_app (bytes_app (bytes_app (padL_bytes ha) (padL_bytes hb)) (bytesL_byt _ _)) (bytesL_byt _ _)
theorem bytes_take {a : List Int} (ha : Bytes a) (n : Nat) : Bytes (a.take n) := fun x hx => ha x (List.mem_of_mem_take hx)

def limT : Nat := 1073741824
noncomputable def okT : List Int → List Int → List Int → List Int → Bool := (stkD fun key nonce a b => (okN 32 key && okN 12 nonce) && (okY limT a && okY limT b)).1
theorem okT_def (key nonce a b : List Int) : okT key nonce a b = ((okN 32 key && okN 12 nonce) && (okY limT a && okY limT b)) := congrFun (congrFun (congrFun (congrFun (stkD fun key nonce a b => (okN 32 key && okN 12 nonce) && (okY limT a && okY limT b)).2 key) nonce) a) b
theorem okY_bytes {n : Nat} {x : List Int} (h : okY n x = true) : x.length ≤ n ∧ Bytes x := by
  obtain ⟨l, rfl, hl, hb⟩ := okY_of h
  refine ⟨by rw [nats_length]; exact hl, fun b hx => ?_⟩
  unfold nats at hx
  obtain ⟨m, hm, rfl⟩ := List.mem_map.mp hx
  have := hb m hm
  exact ⟨Int.natCast_nonneg m, by show (m : Int) < 256; omega⟩

theorem f68_spec {R : Type} {key nonce a b : List Int} (hk : okN 32 key = true) (hn : okN 12 nonce = true) (ha : okY limT a = true) (hb : okY limT b = true) (k : List DV → Option R) : f68_raw 0 key nonce a b k = k [.v (.one (.ints .u8 16 (tagL key nonce a b)))] := by
  obtain ⟨la, ba⟩ := okY_bytes ha
  obtain ⟨lb, bb⟩ := okY_bytes hb
  have la : a.length ≤ 1073741824 := la
  have lb : b.length ≤ 1073741824 := lb
  have pa := padL_length a
  have pb := padL_length b
  have qa := padN_lt a.length
  have qb := padN_lt b.length
  have pw : (wholeText a b).length ≤ 2147483712 := by
    unfold wholeText
    simp only [List.length_append, bytesL_length]; omega
  have e : ∀ l : List Int, rowLen 1 l = l.length := fun _ => rfl
  have eI : ∀ n : Nat, nI n = (n : Int) := fun _ => rfl
  have big : ∀ n : Nat, n ≤ 4294967296 → (((2 * n + 192) * 1).ble big48 && n.ble big48) = true := fun n h => by
    rw [show ((2 * n + 192) * 1).ble big48 = true from Nat.ble_eq_true_of_le (by unfold big48; omega), show n.ble big48 = true from Nat.ble_eq_true_of_le (by unfold big48; omega)]; rfl
  have lim4b : ∀ n : Nat, n ≤ 4294967296 → n.ble lim4 = true := fun n h => Nat.ble_eq_true_of_le (by unfold lim4; omega)
  have hv2 : Go.Eng.sub (blockL key 0 nonce) (plusO Off.z 1 Option.none) (mulE (Go.Eng.subN (hiNat (Option.some 32) 64) Option.none) 1) = (blockL key 0 nonce).take 32 := rfl
  have l32 : ((blockL key 0 nonce).take 32).length = 32 := by rw [List.length_take, block_len]; decide
  have hv4 : splice (List.replicate 32 0) (plusO Off.z 1 Option.none) (List.take (mulE (min (rowLen 1 ((blockL key 0 nonce).take 32)) (Go.Eng.subN (hiNat Option.none 32) Option.none)) 1) ((blockL key 0 nonce).take 32)) = (blockL key 0 nonce).take 32 := by
    rw [e, l32]
    have e1 : List.take (mulE (min 32 (Go.Eng.subN (hiNat Option.none 32) Option.none)) 1) ((blockL key 0 nonce).take 32) = (blockL key 0 nonce).take 32 := by
      show List.take 32 _ = _
      exact List.take_of_length_le (by omega)
    rw [e1]
    show (blockL key 0 nonce).take 32 ++ (List.replicate 32 0).drop ((blockL key 0 nonce).take 32).length = _
    rw [l32]; exact List.append_nil _
  have hw : padL a ++ padL b ++ bytesL ((a.length : Nat) : Int) 8 ++ bytesL ((b.length : Nat) : Int) 8 = wholeText a b := rfl
  unfold f68_raw
  dsimp only
  rw [okKN_def, hk, hn, Bool.and_self, cond_true, e, e, e, padL_twice, e, e, e, e]
  simp only [blockS_def, macS_def, hv2, hv4, eI, hw]
  rw [show ((a.length * 1).ble big48 && a.length.ble big48) = true by
    rw [show (a.length * 1).ble big48 = true from Nat.ble_eq_true_of_le (by unfold big48; omega), show a.length.ble big48 = true from Nat.ble_eq_true_of_le (by unfold big48; omega)]; rfl, cond_true]
  rw [lim4b _ (by omega), cond_true, big _ (by omega), cond_true, lim4b _ (by rw [List.length_append]; omega), cond_true]
  rw [decide_eq_true (show (0 : Int) ≤ ((a.length : Nat) : Int) by omega), decide_eq_true (show ((a.length : Nat) : Int) ≤ 4611686018427387903 by omega), Bool.and_self, cond_true]
  rw [big _ (by simp only [List.length_append, bytesL_length]; omega), cond_true]
  rw [decide_eq_true (show (0 : Int) ≤ ((b.length : Nat) : Int) by omega), decide_eq_true (show ((b.length : Nat) : Int) ≤ 4611686018427387903 by omega), Bool.and_self, cond_true]
  rw [big _ (by simp only [List.length_append, bytesL_length]; omega), cond_true]
  rw [okM_def, okN_mk l32 (bytes_take (block_byt _ _ _) 32), okY_mk (n := lim) (by unfold lim; omega) (whole_bytes ba bb), Bool.and_self, cond_true]
  rfl
noncomputable def I68 : (R : Type) → List DV → (List DV → Option R) → Option R := fun _ ds k => match ds with
  | [.v (.one (.ints .u8 32 key)), .v (.one (.ints .u8 12 nonce)), .lst .u8 1 a, .lst .u8 1 b] => cond (okT key nonce a b) (k [.v (.one (.ints .u8 16 (tagL key nonce a b)))]) none
  | _ => none
theorem c68 : Contract Try.prog 68 { sig := S68, impl := I68 } := by
  refine Contract.refine fun R ds k r h => ⟨_, f68_contract 0 Q68_ok, ?_⟩
  unfold I68 at h
  split at h
  · rename_i key nonce a b
    rw [okT_def] at h
    cases hc : ((okN 32 key && okN 12 nonce) && (okY limT a && okY limT b)) with
    | true =>
      rw [hc] at h
      simp only [Bool.and_eq_true] at hc
      rw [f68_raw_eq, f68_spec hc.1.1 hc.1.2 hc.2.1 hc.2.2]; exact h
    | false => rw [hc] at h; cases h
  · cases h
end Go.Proofs.Ytiaddnmloonhgaa

/- The document's streams and tags, as something into which no reckoning looks. -/
namespace Go.Proofs.Ytiaddnmloonhgaa
open Go Go.Eng
set_option maxRecDepth 100000
noncomputable def streamS : List Int → Nat → List Int → List Int → List Int := (stkD streamL).1
theorem streamS_def (key : List Int) (c : Nat) (nonce b : List Int) : streamS key c nonce b = streamL key c nonce b := congrFun (congrFun (congrFun (congrFun (stkD streamL).2 key) c) nonce) b
noncomputable def tagS : List Int → List Int → List Int → List Int → List Int := (stkD tagL).1
theorem tagS_def (key nonce a b : List Int) : tagS key nonce a b = tagL key nonce a b := congrFun (congrFun (congrFun (congrFun (stkD tagL).2 key) nonce) a) b
/-- a stream that begins with block 1 -/
noncomputable def okSt : List Int → List Int → List Int → Bool := (stkD fun (key nonce b : List Int) => (okN 32 key && okN 12 nonce) && Nat.ble b.length limT).1
theorem okSt_def (key nonce b : List Int) : okSt key nonce b = ((okN 32 key && okN 12 nonce) && Nat.ble b.length limT) := congrFun (congrFun (congrFun (stkD fun (key nonce b : List Int) => (okN 32 key && okN 12 nonce) && Nat.ble b.length limT).2 key) nonce) b
noncomputable def J17 : (R : Type) → List DV → (List DV → Option R) → Option R := fun _ ds k => match ds with
  | [.v (.one (.ints .u8 32 key)), .v (.one (.int .u32 1)), .v (.one (.ints .u8 12 nonce)), .lst .u8 1 b] =>
    cond (okSt key nonce b) (k [.lst .u8 1 (streamS key 1 nonce b), .v (.one (.int .i64 0))]) none
  | _ => none
theorem d17 : Contract Try.prog 17 { sig := S17, impl := J17 } := by
  refine Contract.refine fun R ds k r h => ⟨_, c17, ?_⟩
  unfold J17 at h
  split at h
  · rename_i key nonce b
    rw [okSt_def] at h
    cases hc : ((okN 32 key && okN 12 nonce) && Nat.ble b.length limT) with
    | true =>
      rw [hc] at h
      rw [Bool.and_eq_true] at hc
      have hl : b.length ≤ 1073741824 := Nat.le_of_ble_eq_true hc.2
      rw [streamS_def] at h
      show (cond ((okN 32 key && okN 12 nonce) && (decide ((0 : Int) ≤ 1) && (decide ((1 : Int) < 4294967296) && Nat.ble b.length lim))) (cond (tooFar (1 : Int).toNat b.length) _ _) none) = _
      rw [hc.1, show Nat.ble b.length lim = true from Nat.ble_eq_true_of_le (by unfold lim; omega)]
      have ht : tooFar (1 : Int).toNat b.length = false := by
        unfold tooFar
        exact decide_eq_false (by show ¬ (4294967296 < 1 + (b.length + 63) / 64); omega)
      rw [ht]
      exact h
    | false => rw [hc] at h; cases h
  · cases h
noncomputable def J68 : (R : Type) → List DV → (List DV → Option R) → Option R := fun _ ds k => match ds with
  | [.v (.one (.ints .u8 32 key)), .v (.one (.ints .u8 12 nonce)), .lst .u8 1 a, .lst .u8 1 b] => cond (okT key nonce a b) (k [.v (.one (.ints .u8 16 (tagS key nonce a b)))]) none
  | _ => none
theorem d68 : Contract Try.prog 68 { sig := S68, impl := J68 } := by
  refine Contract.refine fun R ds k r h => ⟨_, c68, ?_⟩
  unfold J68 at h
  split at h
  · rw [tagS_def] at h; exact h
  · cases h
noncomputable def Q29 : Ctx := (17, { sig := S17, impl := J17 }) :: (68, { sig := S68, impl := J68 }) :: []
theorem Q29_ok : CtxOk Try.prog Q29 := ctxOk_cons ok17 rfl d17 (ctxOk_cons ok68 rfl d68 ctxOk_nil)
end Go.Proofs.Ytiaddnmloonhgaa

/- What rime/rimeref12.Open comes to. MADE BY PROGRAM (wip/tools/mkfn.py, EngGen.lean). -/
namespace Go.Proofs.Ytiaddnmloonhgaa
open Go Go.Eng
set_option maxRecDepth 100000
set_option linter.unusedVariables false

def f27_0_sh : Shp := { n := 51, lo := 4, slots := [(3, .one (.fix (At.own 3))), (4, .one (.fix (At.ptr 4 0 Off.z 32))), (5, .one (.fix (At.ptr 5 0 Off.z 12))), (10, .one (.int IntKind.i64)), (11, .one (.fix (At.ptr 11 0 Off.z 16))), (12, .one (.int IntKind.i64))], items := [(3, .view IntKind.u8 1), (4, .obj [.ints IntKind.u8 32]), (5, .obj [.ints IntKind.u8 12]), (11, .obj [.ints IntKind.u8 16])] }
def f27_0_ex1 : Shp := { n := 51, lo := 4, slots := [(9, .one (.int IntKind.i64)), (8, .one (.fix (At.nils))), (40, .one (.bool)), (28, .one (.bool)), (3, .one (.fix (At.own 3))), (4, .one (.fix (At.ptr 4 0 Off.z 32))), (5, .one (.fix (At.ptr 5 0 Off.z 12))), (10, .one (.int IntKind.i64)), (11, .one (.fix (At.ptr 11 0 Off.z 16))), (12, .one (.int IntKind.i64))], items := [(3, .view IntKind.u8 1), (4, .obj [.ints IntKind.u8 32]), (5, .obj [.ints IntKind.u8 12]), (11, .obj [.ints IntKind.u8 16])] }
def f27_0_ex2 : Shp := { n := 51, lo := 4, slots := [(28, .one (.bool)), (3, .one (.fix (At.own 3))), (4, .one (.fix (At.ptr 4 0 Off.z 32))), (5, .one (.fix (At.ptr 5 0 Off.z 12))), (10, .one (.int IntKind.i64)), (11, .one (.fix (At.ptr 11 0 Off.z 16))), (12, .one (.int IntKind.i64))], items := [(3, .view IntKind.u8 1), (4, .obj [.ints IntKind.u8 32]), (5, .obj [.ints IntKind.u8 12]), (11, .obj [.ints IntKind.u8 16])] }
noncomputable def f27_0_st {R : Type} (N : Nat) (self : Int → Int → List Int → List Int → List Int → List Int → Option R) (k1 : Int → Bool → Bool → Int → Int → List Int → List Int → List Int → List Int → Option R) (k2 : Bool → Int → Int → List Int → List Int → List Int → List Int → Option R) (x1 : Int) (x2 : Int) (x3 : List Int) (x4 : List Int) (x5 : List Int) (x6 : List Int) : Option R :=
 bif Decidable.decide (x2 < 16) then
 let v0 : Int := IntKind.i64.wrap (x1 + x2);
 bif Decidable.decide (0 ≤ v0) && Decidable.decide (v0 < nI (rowLen 1 x3)) then
 bif Decidable.decide (0 ≤ x2) && Decidable.decide (x2 < 16) then
 bif x3.getD (mulE v0.toNat 1) 0 != x6.getD (mulE x2.toNat 1) 0 then k1 121 (x3.getD (mulE v0.toNat 1) 0 != x6.getD (mulE x2.toNat 1) 0) (Decidable.decide (x2 < 16)) x1 x2 x3 x4 x5 x6
 else
 let v1 : Int := IntKind.i64.wrap (x2 + 1);
 self x1 v1 x3 x4 x5 x6
 else Option.none
 else Option.none
else k2 (Decidable.decide (x2 < 16)) x1 x2 x3 x4 x5 x6
noncomputable def f27_0_lp {R : Type} (N : Nat) (k1 : Int → Bool → Bool → Int → Int → List Int → List Int → List Int → List Int → Option R) (k2 : Bool → Int → Int → List Int → List Int → List Int → List Int → Option R) : Nat → Int → Int → List Int → List Int → List Int → List Int → Option R
 | 0, _, _, _, _, _, _ => none
 | n + 1, x1, x2, x3, x4, x5, x6 => f27_0_st N (f27_0_lp N k1 k2 n) k1 k2 x1 x2 x3 x4 x5 x6
noncomputable def f27_0_F (N : Nat) : (R : Type) → List Leaf → (X → AS → Option R) → Option R := fun _ ls K => match ls with
 | [.i x1, .i x2, .l x3, .l x4, .l x5, .l x6] => f27_0_lp N (fun y1 y2 y3 y4 y5 y6 y7 y8 y9 => K (X.ret) (fill f27_0_ex1 [.i y1, .b y2, .b y3, .i y4, .i y5, .l y6, .l y7, .l y8, .l y9])) (fun y1 y2 y3 y4 y5 y6 y7 => K (X.normal) (fill f27_0_ex2 [.b y1, .i y2, .i y3, .l y4, .l y5, .l y6, .l y7])) N x1 x2 x3 x4 x5 x6
 | _ => none
noncomputable def f27_raw {R : Type} (N : Nat) (key : List Int) (nonce : List Int) (a : List Int) (b : List Int) (k : List DV → Option R) : Option R :=
 let v0 : Int := IntKind.i64.wrap (nI (rowLen 1 b) - 16);
bif Decidable.decide (v0 < 0) then k [DV.lst IntKind.u8 1 [], DV.v (SV.one (At.int IntKind.i64 3))]
else
 bif hiOk (Option.some v0) (rowLen 1 b) then
 let v1 : List Int := Go.Eng.sub b (plusO Off.z 1 Option.none) (mulE (Go.Eng.subN (hiNat (Option.some v0) (rowLen 1 b)) Option.none) 1);
 bif okT key nonce a v1 then
 f27_0_lp N (fun w2_1 w2_2 w2_3 w2_4 w2_5 w2_6 w2_7 w2_8 w2_9 => k [DV.lst IntKind.u8 1 [], DV.v (SV.one (At.int IntKind.i64 w2_1))])
 (fun w3_1 w3_2 w3_3 w3_4 w3_5 w3_6 w3_7 =>
 bif hiOk (Option.some w3_2) (rowLen 1 w3_4) then
 let v4 : List Int := Go.Eng.sub w3_4 (plusO Off.z 1 Option.none) (mulE (Go.Eng.subN (hiNat (Option.some w3_2) (rowLen 1 w3_4)) Option.none) 1);
 bif okSt w3_5 w3_6 v4 then k [DV.lst IntKind.u8 1 (streamS w3_5 1 w3_6 v4), DV.v (SV.one (At.int IntKind.i64 0))] else Option.none
 else Option.none)
 N v0 0 b key nonce (tagS key nonce a v1)
 else Option.none
 else Option.none


noncomputable def E27 (N : Nat) : Env := { Θ := Th, Γ := Q29, K := K27, ν := N27, fuel := 0, lp := [(0, mkL N27_0 f27_0_sh (f27_0_F N))] }

theorem f27_0_st_eq {R : Type} (N : Nat) (K : X → AS → Option R) (n : Nat) (x1 : Int) (x2 : Int) (x3 : List Int) (x4 : List Int) (x5 : List Int) (x6 : List Int) : roundsOf (E27 N) N27_0 0 B27_0 K (n + 1) (fill f27_0_sh [.i x1, .i x2, .l x3, .l x4, .l x5, .l x6]) = f27_0_st N (fun x1 x2 x3 x4 x5 x6 => roundsOf (E27 N) N27_0 0 B27_0 K n (fill f27_0_sh [.i x1, .i x2, .l x3, .l x4, .l x5, .l x6])) (fun y1 y2 y3 y4 y5 y6 y7 y8 y9 => K (X.ret) (fill f27_0_ex1 [.i y1, .b y2, .b y3, .i y4, .i y5, .l y6, .l y7, .l y8, .l y9])) (fun y1 y2 y3 y4 y5 y6 y7 => K (X.normal) (fill f27_0_ex2 [.b y1, .i y2, .i y3, .l y4, .l y5, .l y6, .l y7])) x1 x2 x3 x4 x5 x6 := by kernel_rfl
theorem f27_0_lp_eq {R : Type} (N : Nat) (K : X → AS → Option R) : ∀ (n : Nat) (x1 : Int) (x2 : Int) (x3 : List Int) (x4 : List Int) (x5 : List Int) (x6 : List Int), roundsOf (E27 N) N27_0 0 B27_0 K n (fill f27_0_sh [.i x1, .i x2, .l x3, .l x4, .l x5, .l x6]) = f27_0_lp N (fun y1 y2 y3 y4 y5 y6 y7 y8 y9 => K (X.ret) (fill f27_0_ex1 [.i y1, .b y2, .b y3, .i y4, .i y5, .l y6, .l y7, .l y8, .l y9])) (fun y1 y2 y3 y4 y5 y6 y7 => K (X.normal) (fill f27_0_ex2 [.b y1, .i y2, .i y3, .l y4, .l y5, .l y6, .l y7])) n x1 x2 x3 x4 x5 x6
  | 0, _, _, _, _, _, _ => rfl
  | n + 1, x1, x2, x3, x4, x5, x6 => by
    rw [f27_0_st_eq, f27_0_lp, show (fun x1 x2 x3 x4 x5 x6 => roundsOf (E27 N) N27_0 0 B27_0 K n (fill f27_0_sh [.i x1, .i x2, .l x3, .l x4, .l x5, .l x6])) = f27_0_lp N (fun y1 y2 y3 y4 y5 y6 y7 y8 y9 => K (X.ret) (fill f27_0_ex1 [.i y1, .b y2, .b y3, .i y4, .i y5, .l y6, .l y7, .l y8, .l y9])) (fun y1 y2 y3 y4 y5 y6 y7 => K (X.normal) (fill f27_0_ex2 [.b y1, .i y2, .i y3, .l y4, .l y5, .l y6, .l y7])) n from by funext x1 x2 x3 x4 x5 x6; exact f27_0_lp_eq N K n x1 x2 x3 x4 x5 x6]
theorem f27_0_ok (N : Nat) (hlp : LoopsOk Try.prog (E27 N).lp B27_0) (hΓ : CtxOk Try.prog (E27 N).Γ) : LoopOk Try.prog (mkL N27_0 f27_0_sh (f27_0_F N)) 0 B27_0 := by
  refine loopOk_of (E := E27 N) thOk hΓ mixed hlp ?_
  intro R ls K r h
  unfold f27_0_F at h
  split at h
  · exact ⟨N, by rw [f27_0_lp_eq]; exact h⟩
  · cases h

theorem lok27_0 (N : Nat) (hΓ : CtxOk Try.prog Q29) : LoopOk Try.prog (mkL N27_0 f27_0_sh (f27_0_F N)) 0 B27_0 := f27_0_ok N (loopsOk_of (l := []) (by kernel_rfl) trivial) hΓ
theorem f27_contract (N : Nat) (hΓ : CtxOk Try.prog Q29) : Contract Try.prog 27 { sig := S27, impl := fun _ ds k => call (E27 N) S27 51 B27 R27 ds k } :=
  call_contract (E := E27 N) thOk hΓ mixed ok27.look ok27.body ok27.n ok27.rv ok27.name rfl (by decide) (loopsOk_of (l := [(0, B27_0)]) (by kernel_rfl) (allOk_cons (L := mkL N27_0 f27_0_sh (f27_0_F N)) rfl (lok27_0 N hΓ) trivial))
theorem f27_raw_eq {R : Type} (N : Nat) (key : List Int) (nonce : List Int) (a : List Int) (b : List Int) (k : List DV → Option R) : call (E27 N) S27 51 B27 R27 [.v (.one (.ints .u8 32 key)), .v (.one (.ints .u8 12 nonce)), .lst .u8 1 a, .lst .u8 1 b] k = f27_raw N key nonce a b k := by kernel_rfl
end Go.Proofs.Ytiaddnmloonhgaa

/- What rime/rimeref12.Seal comes to. MADE BY PROGRAM (wip/tools/mkfn.py, EngGen.lean). -/
namespace Go.Proofs.Ytiaddnmloonhgaa
open Go Go.Eng
set_option maxRecDepth 100000
set_option linter.unusedVariables false

noncomputable def f29_raw {R : Type} (N : Nat) (key : List Int) (nonce : List Int) (a : List Int) (b : List Int) (k : List DV → Option R) : Option R :=
 bif okSt key nonce b then
 bif okT key nonce a (streamS key 1 nonce b) then
 let v0 : List Int := Go.Eng.sub (tagS key nonce a (streamS key 1 nonce b)) (plusO Off.z 1 Option.none) (mulE (Go.Eng.subN (hiNat Option.none 16) Option.none) 1);
 bif ((2 * (rowLen 1 (streamS key 1 nonce b) + rowLen 1 v0) + 192) * 1).ble big48 && (rowLen 1 (streamS key 1 nonce b) + rowLen 1 v0).ble big48 then
 let v1 : List Int := streamS key 1 nonce b ++ v0;
 k [DV.lst IntKind.u8 1 v1]
 else Option.none
 else Option.none
else Option.none


noncomputable def E29 (N : Nat) : Env := { Θ := Th, Γ := Q29, K := K29, ν := N29, fuel := 0, lp := [] }


theorem f29_contract (N : Nat) (hΓ : CtxOk Try.prog Q29) : Contract Try.prog 29 { sig := S29, impl := fun _ ds k => call (E29 N) S29 27 B29 R29 ds k } :=
  call_contract (E := E29 N) thOk hΓ mixed ok29.look ok29.body ok29.n ok29.rv ok29.name rfl (by decide) (loopsOk_of (l := []) (by kernel_rfl) trivial)
theorem f29_raw_eq {R : Type} (N : Nat) (key : List Int) (nonce : List Int) (a : List Int) (b : List Int) (k : List DV → Option R) : call (E29 N) S29 27 B29 R29 [.v (.one (.ints .u8 32 key)), .v (.one (.ints .u8 12 nonce)), .lst .u8 1 a, .lst .u8 1 b] k = f29_raw N key nonce a b k := by kernel_rfl
end Go.Proofs.Ytiaddnmloonhgaa

/- The document's sealing is the program's. -/
namespace Go.Proofs.Ytiaddnmloonhgaa
open Go Go.Eng
set_option maxRecDepth 100000
theorem stream_len (key : List Int) (c : Nat) (nonce b : List Int) : (streamL key c nonce b).length = b.length := maskL_len _ _
theorem stream_byt (key : List Int) (c : Nat) (nonce b : List Int) : Bytes (streamL key c nonce b) := by
  intro x hx
  unfold streamL maskL at hx
  obtain ⟨i, h, rfl⟩ := List.mem_mapIdx.1 hx
  exact wrapU8_rng _
theorem f29_spec {R : Type} {key nonce a b : List Int} (hk : okN 32 key = true) (hn : okN 12 nonce = true) (ha : okY limT a = true) (hb : okY limT b = true) (k : List DV → Option R) : f29_raw 0 key nonce a b k = k [.lst .u8 1 (sealL key nonce a b)] := by
  obtain ⟨lb, bb⟩ := okY_bytes hb
  have lb' : b.length ≤ 1073741824 := lb
  have ls := stream_len key 1 nonce b
  unfold f29_raw
  dsimp only
  simp only [streamS_def, tagS_def]
  rw [okSt_def, hk, hn, show Nat.ble b.length limT = true from Nat.ble_eq_true_of_le lb, Bool.and_self, Bool.and_self, cond_true]
  rw [okT_def, hk, hn, ha, okY_mk (n := limT) (by rw [ls]; exact lb) (stream_byt key 1 nonce b), Bool.and_self, Bool.and_self, cond_true]
  have hs : Go.Eng.sub (tagL key nonce a (streamL key 1 nonce b)) (plusO Off.z 1 Option.none) (mulE (Go.Eng.subN (hiNat Option.none 16) Option.none) 1) = (tagL key nonce a (streamL key 1 nonce b)).take 16 := rfl
  rw [hs]
  have hl : rowLen 1 (streamL key 1 nonce b) + rowLen 1 ((tagL key nonce a (streamL key 1 nonce b)).take 16) ≤ 1073741840 := by
    show (streamL key 1 nonce b).length + ((tagL key nonce a (streamL key 1 nonce b)).take 16).length ≤ _
    rw [ls, List.length_take]; omega
  generalize rowLen 1 (streamL key 1 nonce b) + rowLen 1 ((tagL key nonce a (streamL key 1 nonce b)).take 16) = n at hl
  rw [show ((2 * n + 192) * 1).ble big48 = true from Nat.ble_eq_true_of_le (by unfold big48; omega), show n.ble big48 = true from Nat.ble_eq_true_of_le (by unfold big48; omega)]
  rfl
noncomputable def I29 : (R : Type) → List DV → (List DV → Option R) → Option R := fun _ ds k => match ds with
  | [.v (.one (.ints .u8 32 key)), .v (.one (.ints .u8 12 nonce)), .lst .u8 1 a, .lst .u8 1 b] => cond (okT key nonce a b) (k [.lst .u8 1 (sealL key nonce a b)]) none
  | _ => none
theorem c29 : Contract Try.prog 29 { sig := S29, impl := I29 } := by
  refine Contract.refine fun R ds k r h => ⟨_, f29_contract 0 Q29_ok, ?_⟩
  unfold I29 at h
  split at h
  · rename_i key nonce a b
    rw [okT_def] at h
    cases hc : ((okN 32 key && okN 12 nonce) && (okY limT a && okY limT b)) with
    | true =>
      rw [hc] at h
      simp only [Bool.and_eq_true] at hc
      rw [f29_raw_eq, f29_spec hc.1.1 hc.1.2 hc.2.1 hc.2.2]; exact h
    | false => rw [hc] at h; cases h
  · cases h
end Go.Proofs.Ytiaddnmloonhgaa

/- The document's opening is the program's. -/
namespace Go.Proofs.Ytiaddnmloonhgaa
open Go Go.Eng
set_option maxRecDepth 100000
theorem tag_len {key nonce a b : List Int} (ha : Bytes a) (hb : Bytes b) : (tagL key nonce a b).length = 16 := by
  unfold tagL
  obtain ⟨k, hk⟩ := nats_of (xs := (blockL key 0 nonce).take 32) fun x hx => (bytes_take (block_byt key 0 nonce) 32 x hx).1
  obtain ⟨l, hl⟩ := nats_of (xs := wholeText a b) fun x hx => (whole_bytes ha hb x hx).1
  have nat_lt : ∀ {m : List Nat}, Bytes (nats m) → ∀ x ∈ m, x < 256 := fun h x hx => by
    have := (h (x : Int) (by unfold nats; exact List.mem_map.mpr ⟨x, hx, rfl⟩)).2
    omega
  have l32 : k.length = 32 := by rw [← nats_length, ← hk, List.length_take, block_len]; decide
  rw [hk, hl, mac_nat (nat_lt (by rw [← hk]; exact bytes_take (block_byt key 0 nonce) 32)) l32 (nat_lt (by rw [← hl]; exact whole_bytes ha hb)), nats_length]
  exact digs_length _ _ _

theorem open_loop {R : Type} {N : Nat} (g : Int → Option R) (k2 : Bool → Int → Int → List Int → List Int → List Int → List Int → Option R) {b t key nonce : List Int} {n : Nat} (hn : n + 16 = b.length) (hl : b.length ≤ 1099511627776) (ht : t.length = 16) :
    ∀ (m i : Nat), i + m = 16 → ∀ fuel, m < fuel → f27_0_lp N (fun w _ _ _ _ _ _ _ _ => g w) k2 fuel (n : Int) (i : Int) b key nonce t = bif decide (b.drop (n + i) = t.drop i) then k2 false (n : Int) 16 b key nonce t else g 121 := by
  intro m
  induction m with
  | zero =>
    intro i h fuel hf
    obtain ⟨f, rfl⟩ : ∃ f, fuel = f + 1 := ⟨fuel - 1, by omega⟩
    have : i = 16 := by omega
    subst this
    rw [List.drop_of_length_le (by omega), List.drop_of_length_le (by omega), decide_eq_true rfl, cond_true]
    rfl
  | succ m ih =>
    intro i h fuel hf
    obtain ⟨f, rfl⟩ : ∃ f, fuel = f + 1 := ⟨fuel - 1, by omega⟩
    show f27_0_st N (f27_0_lp N _ k2 f) _ k2 _ _ _ _ _ _ = _
    unfold f27_0_st
    have e0 : IntKind.i64.wrap ((n : Int) + (i : Int)) = ((n + i : Nat) : Int) := by
      rw [show (n : Int) + (i : Int) = ((n + i : Nat) : Int) by omega]; exact wi64 (by omega)
    have e1 : IntKind.i64.wrap ((i : Int) + 1) = ((i + 1 : Nat) : Int) := by
      rw [show (i : Int) + 1 = ((i + 1 : Nat) : Int) by omega]; exact wi64 (by omega)
    dsimp only
    rw [e0, e1, decide_eq_true (show (i : Int) < 16 by omega), decide_eq_true (show (0 : Int) ≤ ((n + i : Nat) : Int) by omega), decide_eq_true (show ((n + i : Nat) : Int) < nI (rowLen 1 b) by show ((n + i : Nat) : Int) < (b.length : Int); omega), decide_eq_true (show (0 : Int) ≤ (i : Int) by omega)]
    simp only [Bool.and_self, cond_true, mulE_one, Int.toNat_natCast]
    rw [ih (i + 1) (by omega) f (by omega), by_drop (show n + i < b.length by omega), by_drop (show i < t.length by omega)]
    by_cases hx : b.getD (n + i) 0 = t.getD i 0
    · rw [hx, show (t.getD i 0 != t.getD i 0) = false by simp, cond_false, show n + (i + 1) = n + i + 1 by omega]
      congr 1
      exact decide_eq_decide.2 ⟨fun e => by rw [e], fun e => (List.cons.inj e).2⟩
    · rw [show (b.getD (n + i) 0 != t.getD i 0) = true by simpa using hx, cond_true]
      rw [decide_eq_false (fun e => hx (List.cons.inj e).1), cond_false]

theorem f27_spec {R : Type} {key nonce a b : List Int} (hk : okN 32 key = true) (hn : okN 12 nonce = true) (ha : okY limT a = true) (hb : okY limT b = true) (k : List DV → Option R) : f27_raw 17 key nonce a b k = k [.lst .u8 1 (openL key nonce a b).1, .v (.one (.int .i64 (openL key nonce a b).2))] := by
  obtain ⟨la, ba⟩ := okY_bytes ha
  obtain ⟨lb, bb⟩ := okY_bytes hb
  have lb' : b.length ≤ 1073741824 := lb
  unfold f27_raw
  by_cases h16 : b.length < 16
  · have e0 : IntKind.i64.wrap (nI (rowLen 1 b) - 16) = (b.length : Int) - 16 := by
      have hc : b.length = 0 ∨ b.length = 1 ∨ b.length = 2 ∨ b.length = 3 ∨ b.length = 4 ∨ b.length = 5 ∨ b.length = 6 ∨ b.length = 7 ∨ b.length = 8 ∨ b.length = 9 ∨ b.length = 10 ∨ b.length = 11 ∨ b.length = 12 ∨ b.length = 13 ∨ b.length = 14 ∨ b.length = 15 := by omega
      show IntKind.i64.wrap ((b.length : Int) - 16) = _
      rcases hc with h | h | h | h | h | h | h | h | h | h | h | h | h | h | h | h <;> rw [h] <;> decide
    dsimp only
    rw [e0, decide_eq_true (show (b.length : Int) - 16 < 0 by omega), cond_true]
    unfold openL
    rw [if_pos h16]
  · obtain ⟨n, hnl⟩ : ∃ n, n + 16 = b.length := ⟨b.length - 16, by omega⟩
    have e0 : IntKind.i64.wrap (nI (rowLen 1 b) - 16) = (n : Int) := by
      show IntKind.i64.wrap ((b.length : Int) - 16) = _
      rw [show (b.length : Int) - 16 = (n : Int) by omega]; exact wi64 (by omega)
    have hhi : hiOk (some (n : Int)) (rowLen 1 b) = true := hiOk_nat (by show n ≤ b.length; omega)
    have hsub : Go.Eng.sub b (plusO Off.z 1 Option.none) (mulE (Go.Eng.subN (hiNat (Option.some (n : Int)) (rowLen 1 b)) Option.none) 1) = b.take n := by
      show b.take (mulE ((n : Int)).toNat 1) = _
      rw [Int.toNat_natCast, mulE_one]
    have bt : Bytes (b.take n) := bytes_take bb n
    have ltk : (b.take n).length ≤ limT := by rw [List.length_take]; exact Nat.le_trans (Nat.min_le_right _ _) lb
    dsimp only
    rw [e0, decide_eq_false (show ¬ ((n : Int) < 0) by omega), cond_false, hhi, cond_true, hsub]
    rw [okT_def, hk, hn, ha, okY_mk (n := limT) ltk bt, Bool.and_self, Bool.and_self, cond_true, tagS_def]
    refine (open_loop (N := 17) (fun w => k [DV.lst IntKind.u8 1 [], DV.v (SV.one (At.int IntKind.i64 w))]) _ hnl (by omega) (tag_len ba bt) 16 0 rfl 17 (by decide)).trans ?_
    rw [Nat.add_zero, List.drop_zero, hhi, cond_true, hsub, okSt_def, hk, hn, show Nat.ble (b.take n).length limT = true from Nat.ble_eq_true_of_le ltk, streamS_def]
    simp only [Bool.and_self, cond_true]
    unfold openL
    rw [if_neg h16, show b.length - 16 = n by omega, show (b.drop n).take 16 = b.drop n from List.take_of_length_le (by rw [List.length_drop]; omega)]
    by_cases he : b.drop n = tagL key nonce a (b.take n)
    · rw [decide_eq_true he, cond_true, if_pos he.symm]
    · rw [decide_eq_false he, cond_false, if_neg (fun e => he e.symm)]
noncomputable def I27 : (R : Type) → List DV → (List DV → Option R) → Option R := fun _ ds k => match ds with
  | [.v (.one (.ints .u8 32 key)), .v (.one (.ints .u8 12 nonce)), .lst .u8 1 a, .lst .u8 1 b] => cond (okT key nonce a b) (k [.lst .u8 1 (openL key nonce a b).1, .v (.one (.int .i64 (openL key nonce a b).2))]) none
  | _ => none
theorem c27 : Contract Try.prog 27 { sig := S27, impl := I27 } := by
  refine Contract.refine fun R ds k r h => ⟨_, f27_contract 17 Q29_ok, ?_⟩
  unfold I27 at h
  split at h
  · rename_i key nonce a b
    rw [okT_def] at h
    cases hc : ((okN 32 key && okN 12 nonce) && (okY limT a && okY limT b)) with
    | true =>
      rw [hc] at h
      simp only [Bool.and_eq_true] at hc
      rw [f27_raw_eq, f27_spec hc.1.1 hc.1.2 hc.2.1 hc.2.2]; exact h
    | false => rw [hc] at h; cases h
  · cases h
end Go.Proofs.Ytiaddnmloonhgaa

/- Contexts with the document's sealing and opening. -/
namespace Go.Proofs.Ytiaddnmloonhgaa
open Go Go.Eng
set_option maxRecDepth 100000
noncomputable def QE0 : Ctx := (29, { sig := S29, impl := I29 }) :: (27, { sig := S27, impl := I27 }) :: QM0
theorem QE0_ok : CtxOk Try.prog QE0 := ctxOk_cons ok29 rfl c29 (ctxOk_cons ok27 rfl c27 QM0_ok)
noncomputable def QE : Ctx := (999999, noFI) :: QE0
theorem QE_ok : CtxOk Try.prog QE := ctxOk_prune QE0_ok
def start5s (n : Nat) (key nonce a b : List Int) : AS :=
  { n := n, lo := 0, tmps := [(0, .s (.one (.ints .u8 32 key))), (1, .s (.one (.ints .u8 12 nonce))), (2, .s (.one (.own 2))), (3, .s (.one (.own 3)))], items := [(2, .view .u8 1 a), (3, .view .u8 1 b)] }
end Go.Proofs.Ytiaddnmloonhgaa

/- What rime/rimelaw12.SealSeals comes to. MADE BY PROGRAM (wip/tools/mkfn.py, EngGen.lean). -/
namespace Go.Proofs.Ytiaddnmloonhgaa
open Go Go.Eng
set_option maxRecDepth 100000
set_option linter.unusedVariables false

noncomputable def f5_raw {R : Type} (N : Nat) (key : List Int) (nonce : List Int) (a : List Int) (b : List Int) (k : List DV → Option R) : Option R :=
 let v0 : Int := IntKind.i64.wrap (nI (rowLen 1 a) + 3);
bif Decidable.decide (0 ≤ v0) && (Decidable.decide (v0 ≤ v0) && (Decidable.decide (v0 ≤ 281474976710656) && Decidable.decide (v0 * 1 ≤ 281474976710656))) then
 bif Decidable.decide (0 = 0) && (zerosOf (mulE v0.toNat 1)).length.ble limG then
 bif Decidable.decide (0 = 0) && (a.length.ble limG && a.length.ble (marksG (zerosOf (mulE v0.toNat 1)).length).length) then
 bif (overG a (marksG (zerosOf (mulE v0.toNat 1)).length)).length.ble lim then
 bif hiOk (Option.some (nI (rowLen 1 a))) (rowLen 1 (overG a (marksG (zerosOf (mulE v0.toNat 1)).length))) then
 let v1 : Int := IntKind.i64.wrap (nI (rowLen 1 b) + 3);
 bif Decidable.decide (0 ≤ v1) && (Decidable.decide (v1 ≤ v1) && (Decidable.decide (v1 ≤ 281474976710656) && Decidable.decide (v1 * 1 ≤ 281474976710656))) then
 bif Decidable.decide (0 = 0) && (zerosOf (mulE v1.toNat 1)).length.ble limG then
 bif Decidable.decide (0 = 0) && (b.length.ble limG && b.length.ble (marksG (zerosOf (mulE v1.toNat 1)).length).length) then
 bif (overG b (marksG (zerosOf (mulE v1.toNat 1)).length)).length.ble lim then
 bif hiOk (Option.some (nI (rowLen 1 b))) (rowLen 1 (overG b (marksG (zerosOf (mulE v1.toNat 1)).length))) then
 let v2 : List Int := Go.Eng.sub (overG a (marksG (zerosOf (mulE v0.toNat 1)).length)) (plusO Off.z 1 Option.none) (mulE (Go.Eng.subN (hiNat (Option.some (nI (rowLen 1 a))) (rowLen 1 (overG a (marksG (zerosOf (mulE v0.toNat 1)).length)))) Option.none) 1);
 let v3 : List Int := Go.Eng.sub (overG b (marksG (zerosOf (mulE v1.toNat 1)).length)) (plusO Off.z 1 Option.none) (mulE (Go.Eng.subN (hiNat (Option.some (nI (rowLen 1 b))) (rowLen 1 (overG b (marksG (zerosOf (mulE v1.toNat 1)).length)))) Option.none) 1);
 bif v2.length.ble lim5 && v3.length.ble lim5 then
 bif okT key nonce a b then
 bif v2.length.ble lim5 && v3.length.ble lim5 then
 bif okT key nonce a b then
 bif (sealL key nonce v2 v3).length.ble lim then
 bif Decidable.decide (sealL key nonce v2 v3 = sealL key nonce a b) then
 bif (openL key nonce v2 v3).fst.length.ble lim then
 let v4 : Bool := bif Bool.true then Decidable.decide ((openL key nonce v2 v3).fst = (openL key nonce a b).fst) else Bool.false;
 bif v4 then
 let v5 : Bool := bif Bool.true then (openL key nonce v2 v3).snd == (openL key nonce a b).snd else Bool.false;
 bif v5 then
 bif (overG a (marksG (zerosOf (mulE v0.toNat 1)).length)).length.ble lim then
 bif !Decidable.decide (overG a (marksG (zerosOf (mulE v0.toNat 1)).length) = overG a (marksG (zerosOf (mulE v0.toNat 1)).length)) then Option.none
 else
 bif (overG b (marksG (zerosOf (mulE v1.toNat 1)).length)).length.ble lim then
 bif !Decidable.decide (overG b (marksG (zerosOf (mulE v1.toNat 1)).length) = overG b (marksG (zerosOf (mulE v1.toNat 1)).length)) then Option.none
 else
 let v6 : Bool := bif Bool.true then Bool.true else Bool.false;
 k [DV.v (SV.one (At.bool v6))]
 else Option.none
 else Option.none
 else Option.none
 else Option.none
 else Option.none
 else Option.none
 else Option.none
 else Option.none
 else Option.none
 else Option.none
 else Option.none
 else Option.none
 else Option.none
 else Option.none
 else Option.none
 else Option.none
 else Option.none
 else Option.none
 else Option.none
 else Option.none
else Option.none


noncomputable def E5 (N : Nat) : Env := { Θ := Th2, Γ := QE, K := K5, ν := N5, fuel := 0, lp := [] }


theorem f5_loops (N : Nat) (hΓ : CtxOk Try.prog QE) : LoopsOk Try.prog (E5 N).lp B5 := loopsOk_of (l := []) (by kernel_rfl) trivial
theorem f5_raw_eq {R : Type} (N : Nat) (key : List Int) (nonce : List Int) (a : List Int) (b : List Int) (k : List DV → Option R) : exec (E5 N) B5 (start5s 64 key nonce a b) (retK Th2 { ps := [], rs := [.val] } [] R5 k) = f5_raw N key nonce a b k := by kernel_rfl
end Go.Proofs.Ytiaddnmloonhgaa

/- SealSeals: what is compared is the same. -/
namespace Go.Proofs.Ytiaddnmloonhgaa
open Go Go.Eng
set_option maxRecDepth 100000
theorem lim_bleS {n : Nat} (h : n ≤ 1048700) : n.ble lim = true := Nat.ble_eq_true_of_le (by unfold lim; omega)
theorem lim5_ble {n : Nat} (h : n ≤ 1048700) : n.ble lim5 = true := Nat.ble_eq_true_of_le (by unfold lim5; omega)
theorem seal_len_le (key nonce a b : List Int) : (sealL key nonce a b).length ≤ b.length + 16 := by
  unfold sealL
  rw [List.length_append, stream_len, List.length_take]; omega
theorem open_len_le (key nonce a b : List Int) : (openL key nonce a b).1.length ≤ b.length := by
  unfold openL
  split
  · exact Nat.zero_le _
  · split
    · rw [stream_len, List.length_take]; omega
    · exact Nat.zero_le _
theorem okT_row {key nonce a b : List Int} (hk : okN 32 key = true) (hn : okN 12 nonce = true) (la : a.length ≤ 1048576) (lb : b.length ≤ 1048576) (ha : Bytes a) (hb : Bytes b) : okT key nonce a b = true := by
  rw [okT_def, hk, hn, okY_mk (n := limT) (by unfold limT; omega) ha, okY_mk (n := limT) (by unfold limT; omega) hb]; rfl
theorem f5_true (N : Nat) {key nonce a b : List Int} (hT : okT key nonce a b = true) (la : a.length ≤ 1048576) (lb : b.length ≤ 1048576) : f5_raw N key nonce a b some = some [.v (.one (.bool true))] := by
  have h1 := seal_len_le key nonce a b
  have h2 := open_len_le key nonce a b
  have s1 : (sealL key nonce a b).length.ble lim = true := lim_bleS (by omega)
  have s2 : (openL key nonce a b).1.length.ble lim = true := lim_bleS (by omega)
  unfold f5_raw
  dsimp only
  simp only [given_wrap la, given_make la, given_wrap lb, given_make lb, given_len, marksG_length, overG_given, given_hi, given_sub, givenG_length,
    given_lim (show a.length ≤ 1048579 by omega), given_lim (show a.length + 3 ≤ 1048579 by omega), lim_bleS (show a.length ≤ 1048700 by omega), lim_bleS (show a.length + 3 ≤ 1048700 by omega),
    given_lim (show b.length ≤ 1048579 by omega), given_lim (show b.length + 3 ≤ 1048579 by omega), lim_bleS (show b.length ≤ 1048700 by omega), lim_bleS (show b.length + 3 ≤ 1048700 by omega),
    lim5_ble (show a.length ≤ 1048700 by omega), lim5_ble (show b.length ≤ 1048700 by omega),
    hT, s1, s2, cond_true, cond_false, Bool.and_self, decide_true, Bool.true_and, beq_self_eq_true, Bool.not_true, show a.length.ble (a.length + 3) = true from Nat.ble_eq_true_of_le (by omega), show b.length.ble (b.length + 3) = true from Nat.ble_eq_true_of_le (by omega)]
end Go.Proofs.Ytiaddnmloonhgaa

/- SealSeals: for any key, nonce and texts whose data stay within 1,048,576: what is sealed and what is opened is the document's, and the bytes that were handed in stand as they stood. -/
namespace Go.Proofs.Ytiaddnmloonhgaa
open Go Go.Eng Go.ChangeShapes Go.WideShapes Go.RowKit Go.ChangeAt
set_option maxRecDepth 100000

theorem contract5 (H : Type) (enc : TypeId × Value → H) (W : World) (base : Nat) (args : Array Value) (ds gs : List (DataW H)) (before : List MemPlace)
    (hval : ∀ (j : Nat) t v, Try.f5.params[j]? = some t → args[j]? = some v → Value.okWide Try.prog W .any base t v)
    (hW : DataW.Whole enc Try.prog Try.f5.params.toList Rows.sealSealsSpec.vars false W args.toList ds gs before) (hk : Rows.uptoSmall H (ds ++ gs) = true) :
    Calls Try.prog 5 args W fun e W' => ∃ v, e = .returned v ∧ Rows.sealSealsSpec.post enc Try.prog Try.f5 false true false false W args v W' := by
  have hW' := hW
  obtain ⟨p, q, hA, hV, rfl, hfz, hnd⟩ := hW
  obtain ⟨rfl, rfl⟩ := trodVars_none hV
  rw [Try.params5] at hA hval
  obtain ⟨v0, vs0, d0, ds0, p0, q0, hargs, rfl, rfl, h0, r0⟩ := trodAll_cons hA
  obtain ⟨v1, vs1, d1, ds1, p1, q1, rfl, rfl, rfl, h1, r1⟩ := trodAll_cons r0
  obtain ⟨v2, vs2, d2, ds2, p2, q2, rfl, rfl, rfl, h2, r2⟩ := trodAll_cons r1
  obtain ⟨v3, vs3, d3, ds3, p3, q3, rfl, rfl, rfl, h3, r3⟩ := trodAll_cons r2
  obtain ⟨rfl, rfl, rfl⟩ := trodAll_nil r3
  obtain rfl : args = #[v0, v1, v2, v3] := by cases args; simp_all
  have hb := bulk_bound hk
  simp only [List.append_nil, Rows.uptoBulkAll, Nat.add_zero] at hb
  obtain ⟨x0, rfl, l0, w0⟩ := open_arr Try.underlying23 Try.underlying5 (by kernel_rfl) (by kernel_rfl) (hval 0 23 v0 rfl rfl) h0
  obtain ⟨x1, rfl, l1, w1⟩ := open_arr Try.underlying26 Try.underlying5 (by kernel_rfl) (by kernel_rfl) (hval 1 26 v1 rfl rfl) h1
  obtain ⟨A2, n2, c2, rfl⟩ := okWide_slice Try.underlying27 (hval 2 27 v2 rfl rfl)
  obtain ⟨f2, h2⟩ := h2
  obtain ⟨x2, len2, cap2, Ad2, loc2, o21, o22, l2, o24, o25, o26, w2, o28⟩ := open_view (k := .u8) (es := 1) Try.underlying27 (by omega) (elB H enc) h2
  have b2 : len2 ≤ Rows.uptoBulk d2 := bulk_slice o28
  obtain ⟨A3, n3, c3, rfl⟩ := okWide_slice Try.underlying27 (hval 3 27 v3 rfl rfl)
  obtain ⟨f3, h3⟩ := h3
  obtain ⟨x3, len3, cap3, Ad3, loc3, o31, o32, l3, o34, o35, o36, w3, o38⟩ := open_view (k := .u8) (es := 1) Try.underlying27 (by omega) (elB H enc) h3
  have b3 : len3 ≤ Rows.uptoBulk d3 := bulk_slice o38
  have hs : Sim W ⟨fun _ => False, locOf [(2, loc2), (3, loc3)], fun _ => 0, (start5s 64 x0 x1 x2 x3).S⟩ (⟨locOf [(2, loc2), (3, loc3)], fun _ => 0⟩ : Rho) (start5s 64 x0 x1 x2 x3) { tmps := #[.agg (x0.map (Value.int .u8)).toArray, .agg (x1.map (Value.int .u8)).toArray, .slice A2 n2 c2, .slice A3 n3 c3] ++ Array.replicate (64 - 4) undef, defers := [] } W := by
    refine sim_start (s0 := start5s 64 x0 x1 x2 x3) (ρ := ⟨locOf [(2, loc2), (3, loc3)], fun _ => 0⟩) (args := #[.agg (x0.map (Value.int .u8)).toArray, .agg (x1.map (Value.int .u8)).toArray, .slice A2 n2 c2, .slice A3 n3 c3]) (n := 64) (avs := [.s (.one (.ints .u8 32 x0)), .s (.one (.ints .u8 12 x1)), .s (.one (.own 2)), .s (.one (.own 3))]) rfl (by simp) rfl ?_ ?_ ?_ ⟨⟨rfl, l0⟩, ⟨rfl, l1⟩, (show RelAt ⟨locOf [(2, loc2), (3, loc3)], fun _ => 0⟩ (start5s 64 x0 x1 x2 x3).S (.own 2) [Value.slice A2 n2 c2] from rel_own rfl o21 o22 l2 o25 (by omega) rfl), (show RelAt ⟨locOf [(2, loc2), (3, loc3)], fun _ => 0⟩ (start5s 64 x0 x1 x2 x3).S (.own 3) [Value.slice A3 n3 c3] from rel_own rfl o31 o32 l3 o35 (by omega) rfl), trivial⟩
    · simp [start5s, Nodup', putNames]
    · intro j it hi
      simp only [start5s, AS.I, findI_cons] at hi
      split at hi
      · rename_i hj; subst hj; injection hi with hi; subst hi
        exact ⟨_, _, _, rfl, by omega, ⟨len2, l2⟩, o24⟩
      ·
        split at hi
        · rename_i hj; subst hj; injection hi with hi; subst hi
          exact ⟨_, _, _, rfl, by omega, ⟨len3, l3⟩, o34⟩
        ·
          simp [findI] at hi
    · intro j p hp
      simp only [locOf] at hp
      split at hp
      · exact o26 p hp
      ·
        split at hp
        · exact o36 p hp
        ·
          cases hp
  have he := f5_true 0 (a := x2) (b := x3) (okT_row (okN_row l0 w0) (okN_row l1 w1) (by omega) (by omega) (fun b hb => wf_u8 (w2 b hb)) (fun b hb => wf_u8 (w3 b hb))) (by omega) (by omega)
  rw [← f5_raw_eq] at he
  refine (law_calls thOk2 QE_ok mixed ok5 (f5_loops 0 QE_ok) (fun _ => id) hs he).mono fun e W' ⟨h1, h2, h3, h4⟩ => ?_
  exact ⟨_, h1, post_of_law laidOut (by kernel_rfl) Try.underlying4 rfl (by rw [Try.params5]; intro t ht; simp only [List.mem_cons, List.not_mem_nil, or_false] at ht; rcases ht with rfl | rfl | rfl | rfl <;> exact ⟨by kernel_rfl, by decide +kernel⟩) ⟨rfl, rfl, rfl⟩ hW' h2 h3 h4⟩

theorem lifted5 (os : Os) (started : os.Started) (H : Type) (enc : TypeId × Value → H) (F : Stop.Interp) :
    ReturnsInHanded {} Try.checked os 5 .any ((Rows.OpenSpec.upto Rows.sealSealsSpec).pre6 enc Try.prog Try.f5 Rows.sealSealsUptoRow.domain false) (((Rows.OpenSpec.upto Rows.sealSealsSpec).at F).post enc Try.prog Try.f5 false true false false) := by
  refine returnsInHanded_of_cond (C := Try.checked) (s := Rows.OpenSpec.upto Rows.sealSealsSpec) (k := Rows.uptoSmall) rfl own0 started (by kernel_rfl) Try.func5
    (OpenSpec.witness (enc := enc) (C := Try.checked) (s := Rows.OpenSpec.upto Rows.sealSealsSpec) (k := Rows.uptoSmall) rfl false ⟨#[], #[.agg (Array.mk (List.replicate 32 (Value.int .u8 0))), .agg (Array.mk (List.replicate 12 (Value.int .u8 0))), .slice none 0 0, .slice none 0 0], []⟩ 8 (by kernel_rfl) (by kernel_rfl) (by kernel_rfl)
      (x := ([.agg (List.replicate 32 (.lit (.int .u8 0))), .agg (List.replicate 12 (.lit (.int .u8 0))), .nil, .nil], [], [])) (by kernel_rfl) rfl (by kernel_rfl)) ?_
  intro W base args ds gs before hval hW _ hk _
  exact contract5 H enc W base args ds gs before hval hW hk

theorem over5 : Rows.sealSealsUptoRow.holds Try.pinned (Rows.OpenSpec.upto Rows.sealSealsSpec) :=
  OpenClaim.holds_of_cond 5 Try.f5 rfl rfl rfl rfl rfl rfl rfl ⟨rfl, rfl, rfl, rfl, rfl⟩ rfl rfl rfl rfl rfl (by kernel_rfl) Try.func5 (by kernel_rfl)
    (of_decide_eq_true (by kernel_rfl)) (by unfold Func.isWrapper; first | (rw [if_pos (by decide +kernel)]; kernel_rfl) | (rw [if_neg (by decide +kernel)]; exact ⟨rfl, rfl⟩))
    (fun os started H enc _ F => lifted5 os started H enc F)

theorem sealSeals_holds : Rows.SealSealsUptoSaid := over5
end Go.Proofs.Ytiaddnmloonhgaa

#print axioms Go.Proofs.Ytiaddnmloonhgaa.sealSeals_holds
