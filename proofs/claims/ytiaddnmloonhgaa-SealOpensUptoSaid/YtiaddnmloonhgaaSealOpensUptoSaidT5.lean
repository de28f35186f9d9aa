/- SealOpens, for every case of bulk at most 1,048,576: what the document seals, with one byte turned, opens as the document says; as a box, too. -/
import Derived.Test.YtiaddnmloonhgaaSealOpensUptoSaidT4
import Derived.WalkKit
import Derived.ProofKit
import Derived.JoinedCond
set_option linter.unusedVariables false
set_option linter.unusedSimpArgs false

/- What rime/rimeref12.filled comes to. MADE BY PROGRAM (wip/tools/mkfn.py, EngGen.lean). -/
namespace Go.Proofs.Ytiaddnmloonhgaa
open Go Go.Eng
set_option maxRecDepth 100000
set_option linter.unusedVariables false

def f97_0_sh : Shp := { n := 11, lo := 1, slots := [(0, .one (.fix (At.own 1000000)))], items := [(1000000, .row IntKind.u8 1)] }
def f97_0_ex1 : Shp := { n := 11, lo := 1, slots := [(6, .one (.bool)), (0, .one (.fix (At.own 1000000)))], items := [(1000000, .row IntKind.u8 1)] }
noncomputable def f97_0_st {R : Type} (N : Nat) (self : List Int → Option R) (k1 : Bool → List Int → Option R) (x1 : List Int) : Option R :=
 bif (nI (rowLen 1 x1)).tmod 16 != 0 then
 let v0 : List Int := (zerosOf (1 * 1)).set 0 0;
 bif ((2 * (rowLen 1 x1 + rowLen 1 v0) + 192) * 1).ble big48 && (rowLen 1 x1 + rowLen 1 v0).ble big48 then
 let v1 : List Int := x1 ++ v0;
 self v1
 else Option.none
else k1 ((nI (rowLen 1 x1)).tmod 16 != 0) x1
noncomputable def f97_0_lp {R : Type} (N : Nat) (k1 : Bool → List Int → Option R) : Nat → List Int → Option R
 | 0, _ => none
 | n + 1, x1 => f97_0_st N (f97_0_lp N k1 n) k1 x1
noncomputable def f97_0_F (N : Nat) : (R : Type) → List Leaf → (X → AS → Option R) → Option R := fun _ ls K => match ls with
 | [.l x1] => f97_0_lp N (fun y1 y2 => K (X.normal) (fill f97_0_ex1 [.b y1, .l y2])) N x1
 | _ => none
noncomputable def f97_raw {R : Type} (N : Nat) (x : List Int) (k : List DV → Option R) : Option R :=
 f97_0_lp N (fun w0_1 w0_2 => k [DV.lst IntKind.u8 1 w0_2]) N x


noncomputable def E97 (N : Nat) : Env := { Θ := Th, Γ := [], K := K97, ν := N97, fuel := 0, lp := [(0, mkL N97_0 f97_0_sh (f97_0_F N))] }

theorem f97_0_st_eq {R : Type} (N : Nat) (K : X → AS → Option R) (n : Nat) (x1 : List Int) : roundsOf (E97 N) N97_0 0 B97_0 K (n + 1) (fill f97_0_sh [.l x1]) = f97_0_st N (fun x1 => roundsOf (E97 N) N97_0 0 B97_0 K n (fill f97_0_sh [.l x1])) (fun y1 y2 => K (X.normal) (fill f97_0_ex1 [.b y1, .l y2])) x1 := by kernel_rfl
theorem f97_0_lp_eq {R : Type} (N : Nat) (K : X → AS → Option R) : ∀ (n : Nat) (x1 : List Int), roundsOf (E97 N) N97_0 0 B97_0 K n (fill f97_0_sh [.l x1]) = f97_0_lp N (fun y1 y2 => K (X.normal) (fill f97_0_ex1 [.b y1, .l y2])) n x1
  | 0, _ => rfl
  | n + 1, x1 => by
    rw [f97_0_st_eq, f97_0_lp, show (fun x1 => roundsOf (E97 N) N97_0 0 B97_0 K n (fill f97_0_sh [.l x1])) = f97_0_lp N (fun y1 y2 => K (X.normal) (fill f97_0_ex1 [.b y1, .l y2])) n from by funext x1; exact f97_0_lp_eq N K n x1]
theorem f97_0_ok (N : Nat) (hlp : LoopsOk Try.prog (E97 N).lp B97_0) (hΓ : CtxOk Try.prog (E97 N).Γ) : LoopOk Try.prog (mkL N97_0 f97_0_sh (f97_0_F N)) 0 B97_0 := by
  refine loopOk_of (E := E97 N) thOk hΓ mixed hlp ?_
  intro R ls K r h
  unfold f97_0_F at h
  split at h
  · exact ⟨N, by rw [f97_0_lp_eq]; exact h⟩
  · cases h

theorem lok97_0 (N : Nat) (hΓ : CtxOk Try.prog []) : LoopOk Try.prog (mkL N97_0 f97_0_sh (f97_0_F N)) 0 B97_0 := f97_0_ok N (loopsOk_of (l := []) (by kernel_rfl) trivial) hΓ
theorem f97_contract (N : Nat) (hΓ : CtxOk Try.prog []) : Contract Try.prog 97 { sig := So97, impl := fun _ ds k => call (E97 N) So97 11 B97 R97 ds k } :=
  call_contract (E := E97 N) thOk hΓ mixed ok97.look ok97.body ok97.n ok97.rv ok97.name rfl (by decide) (loopsOk_of (l := [(0, B97_0)]) (by kernel_rfl) (allOk_cons (L := mkL N97_0 f97_0_sh (f97_0_F N)) rfl (lok97_0 N hΓ) trivial))
theorem f97_raw_eq {R : Type} (N : Nat) (x : List Int) (k : List DV → Option R) : call (E97 N) So97 11 B97 R97 [.lst .u8 1 x] k = f97_raw N x k := by kernel_rfl
end Go.Proofs.Ytiaddnmloonhgaa

/- Bytes 0 up to a multiple of sixteen. -/
namespace Go.Proofs.Ytiaddnmloonhgaa
open Go Go.Eng
set_option maxRecDepth 100000
theorem fill_loop {R : Type} {N : Nat} (k1 : Bool → List Int → Option R) : ∀ (m : Nat) (x : List Int), padN x.length = m → x.length ≤ 1099511627776 → ∀ fuel, m < fuel → f97_0_lp N k1 fuel x = k1 false (x ++ List.replicate m 0) := by
  intro m
  induction m with
  | zero =>
    intro x hm hl fuel hf
    obtain ⟨f, rfl⟩ : ∃ f, fuel = f + 1 := ⟨fuel - 1, by omega⟩
    show f97_0_st N (f97_0_lp N k1 f) k1 x = _
    unfold f97_0_st
    unfold padN at hm
    have e : ((nI (rowLen 1 x)).tmod 16 != 0) = false := by
      show ((((x.length : Nat) : Int)).tmod 16 != 0) = false
      rw [show (((x.length : Nat) : Int)).tmod 16 = ((x.length % 16 : Nat) : Int) from rfl, bne_eq_false_iff_eq]; omega
    rw [e, cond_false, List.replicate_zero, List.append_nil]
  | succ m ih =>
    intro x hm hl fuel hf
    obtain ⟨f, rfl⟩ : ∃ f, fuel = f + 1 := ⟨fuel - 1, by omega⟩
    show f97_0_st N (f97_0_lp N k1 f) k1 x = _
    unfold f97_0_st
    unfold padN at hm
    have e : ((nI (rowLen 1 x)).tmod 16 != 0) = true := by
      show ((((x.length : Nat) : Int)).tmod 16 != 0) = true
      rw [show (((x.length : Nat) : Int)).tmod 16 = ((x.length % 16 : Nat) : Int) from rfl, bne_iff_ne]; omega
    rw [e, cond_true]
    dsimp only
    rw [one_set, show rowLen 1 x + rowLen 1 [(0 : Int)] = x.length + 1 from rfl, one_app hl, cond_true]
    rw [ih (x ++ [0]) (by unfold padN; rw [List.length_append, List.length_singleton]; omega) (by rw [List.length_append, List.length_singleton]; omega) f (by omega)]
    rw [List.append_assoc]; rfl
def I97 : (R : Type) → List DV → (List DV → Option R) → Option R := fun _ ds k => match ds with
  | [.lst .u8 1 a] => cond (Nat.ble a.length lim4) (k [.lst .u8 1 (padL a)]) none
  | _ => none
theorem c97 : Contract Try.prog 97 { sig := So97, impl := I97 } := by
  refine Contract.refine fun R ds k r h => ⟨_, f97_contract 20 ctxOk_nil, ?_⟩
  unfold I97 at h
  split at h
  · rename_i a
    rw [f97_raw_eq]
    cases hb : Nat.ble a.length lim4 with
    | true =>
      rw [hb] at h
      have hb := Nat.le_of_ble_eq_true hb
      have hb' : a.length ≤ 274877906944 := hb
      have hp := padN_lt a.length
      unfold f97_raw
      refine (fill_loop (N := 20) _ (padN a.length) a rfl (by omega) 20 (by omega)).trans ?_
      exact h
    | false => rw [hb] at h; cases h
  · cases h
/-- guards into which no reckoning looks -/
noncomputable def okM : List Int → List Int → Bool := (stkD fun key b => okN 32 key && okY lim b).1
theorem okM_def (key b : List Int) : okM key b = (okN 32 key && okY lim b) := congrFun (congrFun (stkD fun key b => okN 32 key && okY lim b).2 key) b
noncomputable def blockS : List Int → Int → List Int → List Int := (stkD blockL).1
theorem blockS_def (key : List Int) (c : Int) (nonce : List Int) : blockS key c nonce = blockL key c nonce := congrFun (congrFun (congrFun (stkD blockL).2 key) c) nonce
noncomputable def macS : List Int → List Int → List Int := (stkD macL).1
theorem macS_def (key b : List Int) : macS key b = macL key b := congrFun (congrFun (stkD macL).2 key) b
noncomputable def okKN : List Int → List Int → Bool := (stkD fun key nonce => okN 32 key && okN 12 nonce).1
theorem okKN_def (key nonce : List Int) : okKN key nonce = (okN 32 key && okN 12 nonce) := congrFun (congrFun (stkD fun key nonce => okN 32 key && okN 12 nonce).2 key) nonce
noncomputable def J25 : (R : Type) → List DV → (List DV → Option R) → Option R := fun _ ds k => match ds with
  | [.v (.one (.ints .u8 32 key)), .lst .u8 1 b] => cond (okM key b) (k [.v (.one (.ints .u8 16 (macS key b)))]) none
  | _ => none
theorem d25 : Contract Try.prog 25 { sig := S25, impl := J25 } := by
  refine Contract.refine fun R ds k r h => ⟨_, c25, ?_⟩
  unfold J25 at h
  split at h
  · rw [okM_def, macS_def] at h; exact h
  · cases h
noncomputable def J19 : (R : Type) → List DV → (List DV → Option R) → Option R := fun _ ds k => match ds with
  | [.v (.one (.ints .u8 32 key)), .v (.one (.int .u32 ctr)), .v (.one (.ints .u8 12 nonce))] => cond (okKN key nonce) (k [.v (.one (.ints .u8 64 (blockS key ctr nonce)))]) none
  | _ => none
theorem d19 : Contract Try.prog 19 { sig := S19, impl := J19 } := by
  refine Contract.refine fun R ds k r h => ⟨_, c19, ?_⟩
  unfold J19 at h
  split at h
  · rw [okKN_def, blockS_def] at h; exact h
  · cases h
noncomputable def Q68 : Ctx := (97, { sig := So97, impl := I97 }) :: (98, { sig := S98, impl := I98 }) :: (25, { sig := S25, impl := J25 }) :: (19, { sig := S19, impl := J19 }) :: []
theorem Q68_ok : CtxOk Try.prog Q68 := ctxOk_cons ok97 rfl c97 (ctxOk_cons ok98 rfl c98 (ctxOk_cons ok25 rfl d25 (ctxOk_cons ok19 rfl d19 ctxOk_nil)))
end Go.Proofs.Ytiaddnmloonhgaa

/- What rime/rimeref12.tag comes to. MADE BY PROGRAM (wip/tools/mkfn.py, EngGen.lean). -/
namespace Go.Proofs.Ytiaddnmloonhgaa
open Go Go.Eng
set_option maxRecDepth 100000
set_option linter.unusedVariables false

noncomputable def f68_raw {R : Type} (N : Nat) (key : List Int) (nonce : List Int) (a : List Int) (b : List Int) (k : List DV → Option R) : Option R :=
 bif okKN key nonce then
 bif (rowLen 1 a * 1).ble big48 && (rowLen 1 a).ble big48 then
 bif a.length.ble lim4 then
 bif ((2 * (rowLen 1 (padL a) + rowLen 1 b) + 192) * 1).ble big48 && (rowLen 1 (padL a) + rowLen 1 b).ble big48 then
 let v0 : List Int := padL a ++ b;
 bif v0.length.ble lim4 then
 bif Decidable.decide (0 ≤ nI (rowLen 1 a)) && Decidable.decide (nI (rowLen 1 a) ≤ 4611686018427387903) then
 bif ((2 * (rowLen 1 (padL v0) + rowLen 1 (bytesL (nI (rowLen 1 a)) 8)) + 192) * 1).ble big48 && (rowLen 1 (padL v0) + rowLen 1 (bytesL (nI (rowLen 1 a)) 8)).ble big48 then
 bif Decidable.decide (0 ≤ nI (rowLen 1 b)) && Decidable.decide (nI (rowLen 1 b) ≤ 4611686018427387903) then
 let v1 : List Int := padL v0 ++ bytesL (nI (rowLen 1 a)) 8;
 bif ((2 * (rowLen 1 v1 + rowLen 1 (bytesL (nI (rowLen 1 b)) 8)) + 192) * 1).ble big48 && (rowLen 1 v1 + rowLen 1 (bytesL (nI (rowLen 1 b)) 8)).ble big48 then
 let v2 : List Int := Go.Eng.sub (blockS key 0 nonce) (plusO Off.z 1 Option.none) (mulE (Go.Eng.subN (hiNat (Option.some 32) 64) Option.none) 1);
 let v3 : Nat := Min.min (rowLen 1 v2) (Go.Eng.subN (hiNat Option.none 32) Option.none);
 let v4 : List Int := splice (List.replicate 32 0) (plusO Off.z 1 Option.none) (List.take (mulE v3 1) v2);
 let v5 : List Int := v1 ++ bytesL (nI (rowLen 1 b)) 8;
 bif okM v4 v5 then k [DV.v (SV.one (At.ints IntKind.u8 16 (macS v4 v5)))] else Option.none
 else Option.none
 else Option.none
 else Option.none
 else Option.none
 else Option.none
 else Option.none
 else Option.none
 else Option.none
else Option.none


noncomputable def E68 (N : Nat) : Env := { Θ := Th, Γ := Q68, K := K68, ν := N68, fuel := 0, lp := [] }


theorem f68_contract (N : Nat) (hΓ : CtxOk Try.prog Q68) : Contract Try.prog 68 { sig := S68, impl := fun _ ds k => call (E68 N) S68 39 B68 R68 ds k } :=
  call_contract (E := E68 N) thOk hΓ mixed ok68.look ok68.body ok68.n ok68.rv ok68.name rfl (by decide) (loopsOk_of (l := []) (by kernel_rfl) trivial)
theorem f68_raw_eq {R : Type} (N : Nat) (key : List Int) (nonce : List Int) (a : List Int) (b : List Int) (k : List DV → Option R) : call (E68 N) S68 39 B68 R68 [.v (.one (.ints .u8 32 key)), .v (.one (.ints .u8 12 nonce)), .lst .u8 1 a, .lst .u8 1 b] k = f68_raw N key nonce a b k := by kernel_rfl
end Go.Proofs.Ytiaddnmloonhgaa

/- The document's tag of what is open and what is sealed is the program's. -/
namespace Go.Proofs.Ytiaddnmloonhgaa
open Go Go.Eng
set_option maxRecDepth 100000

theorem wrapU8_rng (z : Int) : 0 ≤ IntKind.u8.wrap z ∧ IntKind.u8.wrap z < 256 := by
  unfold IntKind.wrap
  simp only [IntKind.bits, IntKind.signed, Bool.false_and]
  have h1 : 0 ≤ z % 256 := Int.emod_nonneg _ (by decide)
  have h2 : z % 256 < 256 := Int.emod_lt_of_pos _ (by decide)
  exact ⟨h1, h2⟩
theorem block_len (key : List Int) (c : Int) (nonce : List Int) : (blockL key c nonce).length = 64 := by unfold blockL; rw [outL_ref]; simp
theorem block_byt (key : List Int) (c : Int) (nonce : List Int) : Bytes (blockL key c nonce) := by
  unfold blockL
  rw [outL_ref]
  intro x hx
  obtain ⟨i, _, rfl⟩ := List.mem_map.1 hx
  exact wrapU8_rng _
theorem bytesGo_byt (n : Int) : ∀ (m i : Nat), Bytes (bytesGo n m i)
  | 0, _ => by intro x hx; cases hx
  | m + 1, i => by
    intro x hx
    rcases List.mem_cons.1 hx with e | hx
    · subst e; exact wrapU8_rng _
    · exact bytesGo_byt n m (i + 1) x hx
theorem bytesL_byt (n : Int) (m : Nat) : Bytes (bytesL n m) := bytesGo_byt n m 0
theorem bytes_app {a b : List Int} (ha : Bytes a) (hb : Bytes b) : Bytes (a ++ b) := by
  intro x hx
  rcases List.mem_append.1 hx with h | h
  · exact ha x h
  · exact hb x h
theorem padL_bytes {a : List Int} (ha : Bytes a) : Bytes (padL a) := by
  refine bytes_app ha fun x hx => ?_
  have := List.eq_of_mem_replicate hx
  omega
theorem padL_twice (a b : List Int) : padL (padL a ++ b) = padL a ++ padL b := by
  have h : padN (padL a ++ b).length = padN b.length := by
    rw [List.length_append, padL_length]
    unfold padN
    omega
  unfold padL at h ⊢
  rw [h, List.append_assoc]
theorem whole_bytes {a b : List Int} (ha : Bytes a) (hb : Bytes b) : Bytes (wholeText a b) := bytes_app (bytes_app (bytes_app (padL_bytes ha) (padL_bytes hb)) (bytesL_byt _ _)) (bytesL_byt _ _)
theorem bytes_take {a : List Int} (ha : Bytes a) (n : Nat) : Bytes (a.take n) := fun x hx => ha x (List.mem_of_mem_take hx)

def limT : Nat := 1073741824
noncomputable def okT : List Int → List Int → List Int → List Int → Bool := (stkD fun key nonce a b => (okN 32 key && okN 12 nonce) && (okY limT a && okY limT b)).1
theorem okT_def (key nonce a b : List Int) : okT key nonce a b = ((okN 32 key && okN 12 nonce) && (okY limT a && okY limT b)) := congrFun (congrFun (congrFun (congrFun (stkD fun key nonce a b => (okN 32 key && okN 12 nonce) && (okY limT a && okY limT b)).2 key) nonce) a) b
theorem okY_bytes {n : Nat} {x : List Int} (h : okY n x = true) : x.length ≤ n ∧ Bytes x := by
  obtain ⟨l, rfl, hl, hb⟩ := okY_of h
  refine ⟨by rw [nats_length]; exact hl, fun b hx => ?_⟩
  unfold nats at hx
  obtain ⟨m, hm, rfl⟩ := List.mem_map.mp hx
  have := hb m hm
  exact ⟨Int.natCast_nonneg m, by show (m : Int) < 256; omega⟩

theorem f68_spec {R : Type} {key nonce a b : List Int} (hk : okN 32 key = true) (hn : okN 12 nonce = true) (ha : okY limT a = true) (hb : okY limT b = true) (k : List DV → Option R) : f68_raw 0 key nonce a b k = k [.v (.one (.ints .u8 16 (tagL key nonce a b)))] := by
  obtain ⟨la, ba⟩ := okY_bytes ha
  obtain ⟨lb, bb⟩ := okY_bytes hb
  have la : a.length ≤ 1073741824 := la
  have lb : b.length ≤ 1073741824 := lb
  have pa := padL_length a
  have pb := padL_length b
  have qa := padN_lt a.length
  have qb := padN_lt b.length
  have pw : (wholeText a b).length ≤ 2147483712 := by
    unfold wholeText
    simp only [List.length_append, bytesL_length]; omega
  have e : ∀ l : List Int, rowLen 1 l = l.length := fun _ => rfl
  have eI : ∀ n : Nat, nI n = (n : Int) := fun _ => rfl
  have big : ∀ n : Nat, n ≤ 4294967296 → (((2 * n + 192) * 1).ble big48 && n.ble big48) = true := fun n h => by
    rw [show ((2 * n + 192) * 1).ble big48 = true from Nat.ble_eq_true_of_le (by unfold big48; omega), show n.ble big48 = true from Nat.ble_eq_true_of_le (by unfold big48; omega)]; rfl
  have lim4b : ∀ n : Nat, n ≤ 4294967296 → n.ble lim4 = true := fun n h => Nat.ble_eq_true_of_le (by unfold lim4; omega)
  have hv2 : Go.Eng.sub (blockL key 0 nonce) (plusO Off.z 1 Option.none) (mulE (Go.Eng.subN (hiNat (Option.some 32) 64) Option.none) 1) = (blockL key 0 nonce).take 32 := rfl
  have l32 : ((blockL key 0 nonce).take 32).length = 32 := by rw [List.length_take, block_len]; decide
  have hv4 : splice (List.replicate 32 0) (plusO Off.z 1 Option.none) (List.take (mulE (min (rowLen 1 ((blockL key 0 nonce).take 32)) (Go.Eng.subN (hiNat Option.none 32) Option.none)) 1) ((blockL key 0 nonce).take 32)) = (blockL key 0 nonce).take 32 := by
    rw [e, l32]
    have e1 : List.take (mulE (min 32 (Go.Eng.subN (hiNat Option.none 32) Option.none)) 1) ((blockL key 0 nonce).take 32) = (blockL key 0 nonce).take 32 := by
      show List.take 32 _ = _
      exact List.take_of_length_le (by omega)
    rw [e1]
    show (blockL key 0 nonce).take 32 ++ (List.replicate 32 0).drop ((blockL key 0 nonce).take 32).length = _
    rw [l32]; exact List.append_nil _
  have hw : padL a ++ padL b ++ bytesL ((a.length : Nat) : Int) 8 ++ bytesL ((b.length : Nat) : Int) 8 = wholeText a b := rfl
  unfold f68_raw
  dsimp only
  rw [okKN_def, hk, hn, Bool.and_self, cond_true, e, e, e, padL_twice, e, e, e, e]
  simp only [blockS_def, macS_def, hv2, hv4, eI, hw]
  rw [show ((a.length * 1).ble big48 && a.length.ble big48) = true by
    rw [show (a.length * 1).ble big48 = true from Nat.ble_eq_true_of_le (by unfold big48; omega), show a.length.ble big48 = true from Nat.ble_eq_true_of_le (by unfold big48; omega)]; rfl, cond_true]
  rw [lim4b _ (by omega), cond_true, big _ (by omega), cond_true, lim4b _ (by rw [List.length_append]; omega), cond_true]
  rw [decide_eq_true (show (0 : Int) ≤ ((a.length : Nat) : Int) by omega), decide_eq_true (show ((a.length : Nat) : Int) ≤ 4611686018427387903 by omega), Bool.and_self, cond_true]
  rw [big _ (by simp only [List.length_append, bytesL_length]; omega), cond_true]
  rw [decide_eq_true (show (0 : Int) ≤ ((b.length : Nat) : Int) by omega), decide_eq_true (show ((b.length : Nat) : Int) ≤ 4611686018427387903 by omega), Bool.and_self, cond_true]
  rw [big _ (by simp only [List.length_append, bytesL_length]; omega), cond_true]
  rw [okM_def, okN_mk l32 (bytes_take (block_byt _ _ _) 32), okY_mk (n := lim) (by unfold lim; omega) (whole_bytes ba bb), Bool.and_self, cond_true]
  rfl
noncomputable def I68 : (R : Type) → List DV → (List DV → Option R) → Option R := fun _ ds k => match ds with
  | [.v (.one (.ints .u8 32 key)), .v (.one (.ints .u8 12 nonce)), .lst .u8 1 a, .lst .u8 1 b] => cond (okT key nonce a b) (k [.v (.one (.ints .u8 16 (tagL key nonce a b)))]) none
  | _ => none
theorem c68 : Contract Try.prog 68 { sig := S68, impl := I68 } := by
  refine Contract.refine fun R ds k r h => ⟨_, f68_contract 0 Q68_ok, ?_⟩
  unfold I68 at h
  split at h
  · rename_i key nonce a b
    rw [okT_def] at h
    cases hc : ((okN 32 key && okN 12 nonce) && (okY limT a && okY limT b)) with
    | true =>
      rw [hc] at h
      simp only [Bool.and_eq_true] at hc
      rw [f68_raw_eq, f68_spec hc.1.1 hc.1.2 hc.2.1 hc.2.2]; exact h
    | false => rw [hc] at h; cases h
  · cases h
end Go.Proofs.Ytiaddnmloonhgaa

/- The document's streams and tags, as something into which no reckoning looks. -/
namespace Go.Proofs.Ytiaddnmloonhgaa
open Go Go.Eng
set_option maxRecDepth 100000
noncomputable def streamS : List Int → Nat → List Int → List Int → List Int := (stkD streamL).1
theorem streamS_def (key : List Int) (c : Nat) (nonce b : List Int) : streamS key c nonce b = streamL key c nonce b := congrFun (congrFun (congrFun (congrFun (stkD streamL).2 key) c) nonce) b
noncomputable def tagS : List Int → List Int → List Int → List Int → List Int := (stkD tagL).1
theorem tagS_def (key nonce a b : List Int) : tagS key nonce a b = tagL key nonce a b := congrFun (congrFun (congrFun (congrFun (stkD tagL).2 key) nonce) a) b
/-- a stream that begins with block 1 -/
noncomputable def okSt : List Int → List Int → List Int → Bool := (stkD fun (key nonce b : List Int) => (okN 32 key && okN 12 nonce) && Nat.ble b.length limT).1
theorem okSt_def (key nonce b : List Int) : okSt key nonce b = ((okN 32 key && okN 12 nonce) && Nat.ble b.length limT) := congrFun (congrFun (congrFun (stkD fun (key nonce b : List Int) => (okN 32 key && okN 12 nonce) && Nat.ble b.length limT).2 key) nonce) b
noncomputable def J17 : (R : Type) → List DV → (List DV → Option R) → Option R := fun _ ds k => match ds with
  | [.v (.one (.ints .u8 32 key)), .v (.one (.int .u32 1)), .v (.one (.ints .u8 12 nonce)), .lst .u8 1 b] =>
    cond (okSt key nonce b) (k [.lst .u8 1 (streamS key 1 nonce b), .v (.one (.int .i64 0))]) none
  | _ => none
theorem d17 : Contract Try.prog 17 { sig := S17, impl := J17 } := by
  refine Contract.refine fun R ds k r h => ⟨_, c17, ?_⟩
  unfold J17 at h
  split at h
  · rename_i key nonce b
    rw [okSt_def] at h
    cases hc : ((okN 32 key && okN 12 nonce) && Nat.ble b.length limT) with
    | true =>
      rw [hc] at h
      rw [Bool.and_eq_true] at hc
      have hl : b.length ≤ 1073741824 := Nat.le_of_ble_eq_true hc.2
      rw [streamS_def] at h
      show (cond ((okN 32 key && okN 12 nonce) && (decide ((0 : Int) ≤ 1) && (decide ((1 : Int) < 4294967296) && Nat.ble b.length lim))) (cond (tooFar (1 : Int).toNat b.length) _ _) none) = _
      rw [hc.1, show Nat.ble b.length lim = true from Nat.ble_eq_true_of_le (by unfold lim; omega)]
      have ht : tooFar (1 : Int).toNat b.length = false := by
        unfold tooFar
        exact decide_eq_false (by show ¬ (4294967296 < 1 + (b.length + 63) / 64); omega)
      rw [ht]
      exact h
    | false => rw [hc] at h; cases h
  · cases h
noncomputable def J68 : (R : Type) → List DV → (List DV → Option R) → Option R := fun _ ds k => match ds with
  | [.v (.one (.ints .u8 32 key)), .v (.one (.ints .u8 12 nonce)), .lst .u8 1 a, .lst .u8 1 b] => cond (okT key nonce a b) (k [.v (.one (.ints .u8 16 (tagS key nonce a b)))]) none
  | _ => none
theorem d68 : Contract Try.prog 68 { sig := S68, impl := J68 } := by
  refine Contract.refine fun R ds k r h => ⟨_, c68, ?_⟩
  unfold J68 at h
  split at h
  · rw [tagS_def] at h; exact h
  · cases h
noncomputable def Q29 : Ctx := (17, { sig := S17, impl := J17 }) :: (68, { sig := S68, impl := J68 }) :: []
theorem Q29_ok : CtxOk Try.prog Q29 := ctxOk_cons ok17 rfl d17 (ctxOk_cons ok68 rfl d68 ctxOk_nil)
end Go.Proofs.Ytiaddnmloonhgaa

/- What rime/rimeref12.Open comes to. MADE BY PROGRAM (wip/tools/mkfn.py, EngGen.lean). -/
namespace Go.Proofs.Ytiaddnmloonhgaa
open Go Go.Eng
set_option maxRecDepth 100000
set_option linter.unusedVariables false

def f27_0_sh : Shp := { n := 51, lo := 4, slots := [(3, .one (.fix (At.own 3))), (4, .one (.fix (At.ptr 4 0 Off.z 32))), (5, .one (.fix (At.ptr 5 0 Off.z 12))), (10, .one (.int IntKind.i64)), (11, .one (.fix (At.ptr 11 0 Off.z 16))), (12, .one (.int IntKind.i64))], items := [(3, .view IntKind.u8 1), (4, .obj [.ints IntKind.u8 32]), (5, .obj [.ints IntKind.u8 12]), (11, .obj [.ints IntKind.u8 16])] }
def f27_0_ex1 : Shp := { n := 51, lo := 4, slots := [(9, .one (.int IntKind.i64)), (8, .one (.fix (At.nils))), (40, .one (.bool)), (28, .one (.bool)), (3, .one (.fix (At.own 3))), (4, .one (.fix (At.ptr 4 0 Off.z 32))), (5, .one (.fix (At.ptr 5 0 Off.z 12))), (10, .one (.int IntKind.i64)), (11, .one (.fix (At.ptr 11 0 Off.z 16))), (12, .one (.int IntKind.i64))], items := [(3, .view IntKind.u8 1), (4, .obj [.ints IntKind.u8 32]), (5, .obj [.ints IntKind.u8 12]), (11, .obj [.ints IntKind.u8 16])] }
def f27_0_ex2 : Shp := { n := 51, lo := 4, slots := [(28, .one (.bool)), (3, .one (.fix (At.own 3))), (4, .one (.fix (At.ptr 4 0 Off.z 32))), (5, .one (.fix (At.ptr 5 0 Off.z 12))), (10, .one (.int IntKind.i64)), (11, .one (.fix (At.ptr 11 0 Off.z 16))), (12, .one (.int IntKind.i64))], items := [(3, .view IntKind.u8 1), (4, .obj [.ints IntKind.u8 32]), (5, .obj [.ints IntKind.u8 12]), (11, .obj [.ints IntKind.u8 16])] }
noncomputable def f27_0_st {R : Type} (N : Nat) (self : Int → Int → List Int → List Int → List Int → List Int → Option R) (k1 : Int → Bool → Bool → Int → Int → List Int → List Int → List Int → List Int → Option R) (k2 : Bool → Int → Int → List Int → List Int → List Int → List Int → Option R) (x1 : Int) (x2 : Int) (x3 : List Int) (x4 : List Int) (x5 : List Int) (x6 : List Int) : Option R :=
 bif Decidable.decide (x2 < 16) then
 let v0 : Int := IntKind.i64.wrap (x1 + x2);
 bif Decidable.decide (0 ≤ v0) && Decidable.decide (v0 < nI (rowLen 1 x3)) then
 bif Decidable.decide (0 ≤ x2) && Decidable.decide (x2 < 16) then
 bif x3.getD (mulE v0.toNat 1) 0 != x6.getD (mulE x2.toNat 1) 0 then k1 121 (x3.getD (mulE v0.toNat 1) 0 != x6.getD (mulE x2.toNat 1) 0) (Decidable.decide (x2 < 16)) x1 x2 x3 x4 x5 x6
 else
 let v1 : Int := IntKind.i64.wrap (x2 + 1);
 self x1 v1 x3 x4 x5 x6
 else Option.none
 else Option.none
else k2 (Decidable.decide (x2 < 16)) x1 x2 x3 x4 x5 x6
noncomputable def f27_0_lp {R : Type} (N : Nat) (k1 : Int → Bool → Bool → Int → Int → List Int → List Int → List Int → List Int → Option R) (k2 : Bool → Int → Int → List Int → List Int → List Int → List Int → Option R) : Nat → Int → Int → List Int → List Int → List Int → List Int → Option R
 | 0, _, _, _, _, _, _ => none
 | n + 1, x1, x2, x3, x4, x5, x6 => f27_0_st N (f27_0_lp N k1 k2 n) k1 k2 x1 x2 x3 x4 x5 x6
noncomputable def f27_0_F (N : Nat) : (R : Type) → List Leaf → (X → AS → Option R) → Option R := fun _ ls K => match ls with
 | [.i x1, .i x2, .l x3, .l x4, .l x5, .l x6] => f27_0_lp N (fun y1 y2 y3 y4 y5 y6 y7 y8 y9 => K (X.ret) (fill f27_0_ex1 [.i y1, .b y2, .b y3, .i y4, .i y5, .l y6, .l y7, .l y8, .l y9])) (fun y1 y2 y3 y4 y5 y6 y7 => K (X.normal) (fill f27_0_ex2 [.b y1, .i y2, .i y3, .l y4, .l y5, .l y6, .l y7])) N x1 x2 x3 x4 x5 x6
 | _ => none
noncomputable def f27_raw {R : Type} (N : Nat) (key : List Int) (nonce : List Int) (a : List Int) (b : List Int) (k : List DV → Option R) : Option R :=
 let v0 : Int := IntKind.i64.wrap (nI (rowLen 1 b) - 16);
bif Decidable.decide (v0 < 0) then k [DV.lst IntKind.u8 1 [], DV.v (SV.one (At.int IntKind.i64 3))]
else
 bif hiOk (Option.some v0) (rowLen 1 b) then
 let v1 : List Int := Go.Eng.sub b (plusO Off.z 1 Option.none) (mulE (Go.Eng.subN (hiNat (Option.some v0) (rowLen 1 b)) Option.none) 1);
 bif okT key nonce a v1 then
 f27_0_lp N (fun w2_1 w2_2 w2_3 w2_4 w2_5 w2_6 w2_7 w2_8 w2_9 => k [DV.lst IntKind.u8 1 [], DV.v (SV.one (At.int IntKind.i64 w2_1))])
 (fun w3_1 w3_2 w3_3 w3_4 w3_5 w3_6 w3_7 =>
 bif hiOk (Option.some w3_2) (rowLen 1 w3_4) then
 let v4 : List Int := Go.Eng.sub w3_4 (plusO Off.z 1 Option.none) (mulE (Go.Eng.subN (hiNat (Option.some w3_2) (rowLen 1 w3_4)) Option.none) 1);
 bif okSt w3_5 w3_6 v4 then k [DV.lst IntKind.u8 1 (streamS w3_5 1 w3_6 v4), DV.v (SV.one (At.int IntKind.i64 0))] else Option.none
 else Option.none)
 N v0 0 b key nonce (tagS key nonce a v1)
 else Option.none
 else Option.none


noncomputable def E27 (N : Nat) : Env := { Θ := Th, Γ := Q29, K := K27, ν := N27, fuel := 0, lp := [(0, mkL N27_0 f27_0_sh (f27_0_F N))] }

theorem f27_0_st_eq {R : Type} (N : Nat) (K : X → AS → Option R) (n : Nat) (x1 : Int) (x2 : Int) (x3 : List Int) (x4 : List Int) (x5 : List Int) (x6 : List Int) : roundsOf (E27 N) N27_0 0 B27_0 K (n + 1) (fill f27_0_sh [.i x1, .i x2, .l x3, .l x4, .l x5, .l x6]) = f27_0_st N (fun x1 x2 x3 x4 x5 x6 => roundsOf (E27 N) N27_0 0 B27_0 K n (fill f27_0_sh [.i x1, .i x2, .l x3, .l x4, .l x5, .l x6])) (fun y1 y2 y3 y4 y5 y6 y7 y8 y9 => K (X.ret) (fill f27_0_ex1 [.i y1, .b y2, .b y3, .i y4, .i y5, .l y6, .l y7, .l y8, .l y9])) (fun y1 y2 y3 y4 y5 y6 y7 => K (X.normal) (fill f27_0_ex2 [.b y1, .i y2, .i y3, .l y4, .l y5, .l y6, .l y7])) x1 x2 x3 x4 x5 x6 := by kernel_rfl
theorem f27_0_lp_eq {R : Type} (N : Nat) (K : X → AS → Option R) : ∀ (n : Nat) (x1 : Int) (x2 : Int) (x3 : List Int) (x4 : List Int) (x5 : List Int) (x6 : List Int), roundsOf (E27 N) N27_0 0 B27_0 K n (fill f27_0_sh [.i x1, .i x2, .l x3, .l x4, .l x5, .l x6]) = f27_0_lp N (fun y1 y2 y3 y4 y5 y6 y7 y8 y9 => K (X.ret) (fill f27_0_ex1 [.i y1, .b y2, .b y3, .i y4, .i y5, .l y6, .l y7, .l y8, .l y9])) (fun y1 y2 y3 y4 y5 y6 y7 => K (X.normal) (fill f27_0_ex2 [.b y1, .i y2, .i y3, .l y4, .l y5, .l y6, .l y7])) n x1 x2 x3 x4 x5 x6
  | 0, _, _, _, _, _, _ => rfl
  | n + 1, x1, x2, x3, x4, x5, x6 => by
    rw [f27_0_st_eq, f27_0_lp, show (fun x1 x2 x3 x4 x5 x6 => roundsOf (E27 N) N27_0 0 B27_0 K n (fill f27_0_sh [.i x1, .i x2, .l x3, .l x4, .l x5, .l x6])) = f27_0_lp N (fun y1 y2 y3 y4 y5 y6 y7 y8 y9 => K (X.ret) (fill f27_0_ex1 [.i y1, .b y2, .b y3, .i y4, .i y5, .l y6, .l y7, .l y8, .l y9])) (fun y1 y2 y3 y4 y5 y6 y7 => K (X.normal) (fill f27_0_ex2 [.b y1, .i y2, .i y3, .l y4, .l y5, .l y6, .l y7])) n from by funext x1 x2 x3 x4 x5 x6; exact f27_0_lp_eq N K n x1 x2 x3 x4 x5 x6]
theorem f27_0_ok (N : Nat) (hlp : LoopsOk Try.prog (E27 N).lp B27_0) (hΓ : CtxOk Try.prog (E27 N).Γ) : LoopOk Try.prog (mkL N27_0 f27_0_sh (f27_0_F N)) 0 B27_0 := by
  refine loopOk_of (E := E27 N) thOk hΓ mixed hlp ?_
  intro R ls K r h
  unfold f27_0_F at h
  split at h
  · exact ⟨N, by rw [f27_0_lp_eq]; exact h⟩
  · cases h

theorem lok27_0 (N : Nat) (hΓ : CtxOk Try.prog Q29) : LoopOk Try.prog (mkL N27_0 f27_0_sh (f27_0_F N)) 0 B27_0 := f27_0_ok N (loopsOk_of (l := []) (by kernel_rfl) trivial) hΓ
theorem f27_contract (N : Nat) (hΓ : CtxOk Try.prog Q29) : Contract Try.prog 27 { sig := S27, impl := fun _ ds k => call (E27 N) S27 51 B27 R27 ds k } :=
  call_contract (E := E27 N) thOk hΓ mixed ok27.look ok27.body ok27.n ok27.rv ok27.name rfl (by decide) (loopsOk_of (l := [(0, B27_0)]) (by kernel_rfl) (allOk_cons (L := mkL N27_0 f27_0_sh (f27_0_F N)) rfl (lok27_0 N hΓ) trivial))
theorem f27_raw_eq {R : Type} (N : Nat) (key : List Int) (nonce : List Int) (a : List Int) (b : List Int) (k : List DV → Option R) : call (E27 N) S27 51 B27 R27 [.v (.one (.ints .u8 32 key)), .v (.one (.ints .u8 12 nonce)), .lst .u8 1 a, .lst .u8 1 b] k = f27_raw N key nonce a b k := by kernel_rfl
end Go.Proofs.Ytiaddnmloonhgaa

/- What rime/rimeref12.Seal comes to. MADE BY PROGRAM (wip/tools/mkfn.py, EngGen.lean). -/
namespace Go.Proofs.Ytiaddnmloonhgaa
open Go Go.Eng
set_option maxRecDepth 100000
set_option linter.unusedVariables false

noncomputable def f29_raw {R : Type} (N : Nat) (key : List Int) (nonce : List Int) (a : List Int) (b : List Int) (k : List DV → Option R) : Option R :=
 bif okSt key nonce b then
 bif okT key nonce a (streamS key 1 nonce b) then
 let v0 : List Int := Go.Eng.sub (tagS key nonce a (streamS key 1 nonce b)) (plusO Off.z 1 Option.none) (mulE (Go.Eng.subN (hiNat Option.none 16) Option.none) 1);
 bif ((2 * (rowLen 1 (streamS key 1 nonce b) + rowLen 1 v0) + 192) * 1).ble big48 && (rowLen 1 (streamS key 1 nonce b) + rowLen 1 v0).ble big48 then
 let v1 : List Int := streamS key 1 nonce b ++ v0;
 k [DV.lst IntKind.u8 1 v1]
 else Option.none
 else Option.none
else Option.none


noncomputable def E29 (N : Nat) : Env := { Θ := Th, Γ := Q29, K := K29, ν := N29, fuel := 0, lp := [] }


theorem f29_contract (N : Nat) (hΓ : CtxOk Try.prog Q29) : Contract Try.prog 29 { sig := S29, impl := fun _ ds k => call (E29 N) S29 27 B29 R29 ds k } :=
  call_contract (E := E29 N) thOk hΓ mixed ok29.look ok29.body ok29.n ok29.rv ok29.name rfl (by decide) (loopsOk_of (l := []) (by kernel_rfl) trivial)
theorem f29_raw_eq {R : Type} (N : Nat) (key : List Int) (nonce : List Int) (a : List Int) (b : List Int) (k : List DV → Option R) : call (E29 N) S29 27 B29 R29 [.v (.one (.ints .u8 32 key)), .v (.one (.ints .u8 12 nonce)), .lst .u8 1 a, .lst .u8 1 b] k = f29_raw N key nonce a b k := by kernel_rfl
end Go.Proofs.Ytiaddnmloonhgaa

/- The document's sealing is the program's. -/
namespace Go.Proofs.Ytiaddnmloonhgaa
open Go Go.Eng
set_option maxRecDepth 100000
theorem stream_len (key : List Int) (c : Nat) (nonce b : List Int) : (streamL key c nonce b).length = b.length := maskL_len _ _
theorem stream_byt (key : List Int) (c : Nat) (nonce b : List Int) : Bytes (streamL key c nonce b) := by
  intro x hx
  unfold streamL maskL at hx
  obtain ⟨i, h, rfl⟩ := List.mem_mapIdx.1 hx
  exact wrapU8_rng _
theorem f29_spec {R : Type} {key nonce a b : List Int} (hk : okN 32 key = true) (hn : okN 12 nonce = true) (ha : okY limT a = true) (hb : okY limT b = true) (k : List DV → Option R) : f29_raw 0 key nonce a b k = k [.lst .u8 1 (sealL key nonce a b)] := by
  obtain ⟨lb, bb⟩ := okY_bytes hb
  have lb' : b.length ≤ 1073741824 := lb
  have ls := stream_len key 1 nonce b
  unfold f29_raw
  dsimp only
  simp only [streamS_def, tagS_def]
  rw [okSt_def, hk, hn, show Nat.ble b.length limT = true from Nat.ble_eq_true_of_le lb, Bool.and_self, Bool.and_self, cond_true]
  rw [okT_def, hk, hn, ha, okY_mk (n := limT) (by rw [ls]; exact lb) (stream_byt key 1 nonce b), Bool.and_self, Bool.and_self, cond_true]
  have hs : Go.Eng.sub (tagL key nonce a (streamL key 1 nonce b)) (plusO Off.z 1 Option.none) (mulE (Go.Eng.subN (hiNat Option.none 16) Option.none) 1) = (tagL key nonce a (streamL key 1 nonce b)).take 16 := rfl
  rw [hs]
  have hl : rowLen 1 (streamL key 1 nonce b) + rowLen 1 ((tagL key nonce a (streamL key 1 nonce b)).take 16) ≤ 1073741840 := by
    show (streamL key 1 nonce b).length + ((tagL key nonce a (streamL key 1 nonce b)).take 16).length ≤ _
    rw [ls, List.length_take]; omega
  generalize rowLen 1 (streamL key 1 nonce b) + rowLen 1 ((tagL key nonce a (streamL key 1 nonce b)).take 16) = n at hl
  rw [show ((2 * n + 192) * 1).ble big48 = true from Nat.ble_eq_true_of_le (by unfold big48; omega), show n.ble big48 = true from Nat.ble_eq_true_of_le (by unfold big48; omega)]
  rfl
noncomputable def I29 : (R : Type) → List DV → (List DV → Option R) → Option R := fun _ ds k => match ds with
  | [.v (.one (.ints .u8 32 key)), .v (.one (.ints .u8 12 nonce)), .lst .u8 1 a, .lst .u8 1 b] => cond (okT key nonce a b) (k [.lst .u8 1 (sealL key nonce a b)]) none
  | _ => none
theorem c29 : Contract Try.prog 29 { sig := S29, impl := I29 } := by
  refine Contract.refine fun R ds k r h => ⟨_, f29_contract 0 Q29_ok, ?_⟩
  unfold I29 at h
  split at h
  · rename_i key nonce a b
    rw [okT_def] at h
    cases hc : ((okN 32 key && okN 12 nonce) && (okY limT a && okY limT b)) with
    | true =>
      rw [hc] at h
      simp only [Bool.and_eq_true] at hc
      rw [f29_raw_eq, f29_spec hc.1.1 hc.1.2 hc.2.1 hc.2.2]; exact h
    | false => rw [hc] at h; cases h
  · cases h
end Go.Proofs.Ytiaddnmloonhgaa

/- The document's opening is the program's. -/
namespace Go.Proofs.Ytiaddnmloonhgaa
open Go Go.Eng
set_option maxRecDepth 100000
theorem tag_len {key nonce a b : List Int} (ha : Bytes a) (hb : Bytes b) : (tagL key nonce a b).length = 16 := by
  unfold tagL
  obtain ⟨k, hk⟩ := nats_of (xs := (blockL key 0 nonce).take 32) fun x hx => (bytes_take (block_byt key 0 nonce) 32 x hx).1
  obtain ⟨l, hl⟩ := nats_of (xs := wholeText a b) fun x hx => (whole_bytes ha hb x hx).1
  have nat_lt : ∀ {m : List Nat}, Bytes (nats m) → ∀ x ∈ m, x < 256 := fun h x hx => by
    have := (h (x : Int) (by unfold nats; exact List.mem_map.mpr ⟨x, hx, rfl⟩)).2
    omega
  have l32 : k.length = 32 := by rw [← nats_length, ← hk, List.length_take, block_len]; decide
  rw [hk, hl, mac_nat (nat_lt (by rw [← hk]; exact bytes_take (block_byt key 0 nonce) 32)) l32 (nat_lt (by rw [← hl]; exact whole_bytes ha hb)), nats_length]
  exact digs_length _ _ _

theorem open_loop {R : Type} {N : Nat} (g : Int → Option R) (k2 : Bool → Int → Int → List Int → List Int → List Int → List Int → Option R) {b t key nonce : List Int} {n : Nat} (hn : n + 16 = b.length) (hl : b.length ≤ 1099511627776) (ht : t.length = 16) :
    ∀ (m i : Nat), i + m = 16 → ∀ fuel, m < fuel → f27_0_lp N (fun w _ _ _ _ _ _ _ _ => g w) k2 fuel (n : Int) (i : Int) b key nonce t = bif decide (b.drop (n + i) = t.drop i) then k2 false (n : Int) 16 b key nonce t else g 121 := by
  intro m
  induction m with
  | zero =>
    intro i h fuel hf
    obtain ⟨f, rfl⟩ : ∃ f, fuel = f + 1 := ⟨fuel - 1, by omega⟩
    have : i = 16 := by omega
    subst this
    rw [List.drop_of_length_le (by omega), List.drop_of_length_le (by omega), decide_eq_true rfl, cond_true]
    rfl
  | succ m ih =>
    intro i h fuel hf
    obtain ⟨f, rfl⟩ : ∃ f, fuel = f + 1 := ⟨fuel - 1, by omega⟩
    show f27_0_st N (f27_0_lp N _ k2 f) _ k2 _ _ _ _ _ _ = _
    unfold f27_0_st
    have e0 : IntKind.i64.wrap ((n : Int) + (i : Int)) = ((n + i : Nat) : Int) := by
      rw [show (n : Int) + (i : Int) = ((n + i : Nat) : Int) by omega]; exact wi64 (by omega)
    have e1 : IntKind.i64.wrap ((i : Int) + 1) = ((i + 1 : Nat) : Int) := by
      rw [show (i : Int) + 1 = ((i + 1 : Nat) : Int) by omega]; exact wi64 (by omega)
    dsimp only
    rw [e0, e1, decide_eq_true (show (i : Int) < 16 by omega), decide_eq_true (show (0 : Int) ≤ ((n + i : Nat) : Int) by omega), decide_eq_true (show ((n + i : Nat) : Int) < nI (rowLen 1 b) by show ((n + i : Nat) : Int) < (b.length : Int); omega), decide_eq_true (show (0 : Int) ≤ (i : Int) by omega)]
    simp only [Bool.and_self, cond_true, mulE_one, Int.toNat_natCast]
    rw [ih (i + 1) (by omega) f (by omega), by_drop (show n + i < b.length by omega), by_drop (show i < t.length by omega)]
    by_cases hx : b.getD (n + i) 0 = t.getD i 0
    · rw [hx, show (t.getD i 0 != t.getD i 0) = false by simp, cond_false, show n + (i + 1) = n + i + 1 by omega]
      congr 1
      exact decide_eq_decide.2 ⟨fun e => by rw [e], fun e => (List.cons.inj e).2⟩
    · rw [show (b.getD (n + i) 0 != t.getD i 0) = true by simpa using hx, cond_true]
      rw [decide_eq_false (fun e => hx (List.cons.inj e).1), cond_false]

theorem f27_spec {R : Type} {key nonce a b : List Int} (hk : okN 32 key = true) (hn : okN 12 nonce = true) (ha : okY limT a = true) (hb : okY limT b = true) (k : List DV → Option R) : f27_raw 17 key nonce a b k = k [.lst .u8 1 (openL key nonce a b).1, .v (.one (.int .i64 (openL key nonce a b).2))] := by
  obtain ⟨la, ba⟩ := okY_bytes ha
  obtain ⟨lb, bb⟩ := okY_bytes hb
  have lb' : b.length ≤ 1073741824 := lb
  unfold f27_raw
  by_cases h16 : b.length < 16
  · have e0 : IntKind.i64.wrap (nI (rowLen 1 b) - 16) = (b.length : Int) - 16 := by
      have hc : b.length = 0 ∨ b.length = 1 ∨ b.length = 2 ∨ b.length = 3 ∨ b.length = 4 ∨ b.length = 5 ∨ b.length = 6 ∨ b.length = 7 ∨ b.length = 8 ∨ b.length = 9 ∨ b.length = 10 ∨ b.length = 11 ∨ b.length = 12 ∨ b.length = 13 ∨ b.length = 14 ∨ b.length = 15 := by omega
      show IntKind.i64.wrap ((b.length : Int) - 16) = _
      rcases hc with h | h | h | h | h | h | h | h | h | h | h | h | h | h | h | h <;> rw [h] <;> decide
    dsimp only
    rw [e0, decide_eq_true (show (b.length : Int) - 16 < 0 by omega), cond_true]
    unfold openL
    rw [if_pos h16]
  · obtain ⟨n, hnl⟩ : ∃ n, n + 16 = b.length := ⟨b.length - 16, by omega⟩
    have e0 : IntKind.i64.wrap (nI (rowLen 1 b) - 16) = (n : Int) := by
      show IntKind.i64.wrap ((b.length : Int) - 16) = _
      rw [show (b.length : Int) - 16 = (n : Int) by omega]; exact wi64 (by omega)
    have hhi : hiOk (some (n : Int)) (rowLen 1 b) = true := hiOk_nat (by show n ≤ b.length; omega)
    have hsub : Go.Eng.sub b (plusO Off.z 1 Option.none) (mulE (Go.Eng.subN (hiNat (Option.some (n : Int)) (rowLen 1 b)) Option.none) 1) = b.take n := by
      show b.take (mulE ((n : Int)).toNat 1) = _
      rw [Int.toNat_natCast, mulE_one]
    have bt : Bytes (b.take n) := bytes_take bb n
    have ltk : (b.take n).length ≤ limT := by rw [List.length_take]; exact Nat.le_trans (Nat.min_le_right _ _) lb
    dsimp only
    rw [e0, decide_eq_false (show ¬ ((n : Int) < 0) by omega), cond_false, hhi, cond_true, hsub]
    rw [okT_def, hk, hn, ha, okY_mk (n := limT) ltk bt, Bool.and_self, Bool.and_self, cond_true, tagS_def]
    refine (open_loop (N := 17) (fun w => k [DV.lst IntKind.u8 1 [], DV.v (SV.one (At.int IntKind.i64 w))]) _ hnl (by omega) (tag_len ba bt) 16 0 rfl 17 (by decide)).trans ?_
    rw [Nat.add_zero, List.drop_zero, hhi, cond_true, hsub, okSt_def, hk, hn, show Nat.ble (b.take n).length limT = true from Nat.ble_eq_true_of_le ltk, streamS_def]
    simp only [Bool.and_self, cond_true]
    unfold openL
    rw [if_neg h16, show b.length - 16 = n by omega, show (b.drop n).take 16 = b.drop n from List.take_of_length_le (by rw [List.length_drop]; omega)]
    by_cases he : b.drop n = tagL key nonce a (b.take n)
    · rw [decide_eq_true he, cond_true, if_pos he.symm]
    · rw [decide_eq_false he, cond_false, if_neg (fun e => he e.symm)]
noncomputable def I27 : (R : Type) → List DV → (List DV → Option R) → Option R := fun _ ds k => match ds with
  | [.v (.one (.ints .u8 32 key)), .v (.one (.ints .u8 12 nonce)), .lst .u8 1 a, .lst .u8 1 b] => cond (okT key nonce a b) (k [.lst .u8 1 (openL key nonce a b).1, .v (.one (.int .i64 (openL key nonce a b).2))]) none
  | _ => none
theorem c27 : Contract Try.prog 27 { sig := S27, impl := I27 } := by
  refine Contract.refine fun R ds k r h => ⟨_, f27_contract 17 Q29_ok, ?_⟩
  unfold I27 at h
  split at h
  · rename_i key nonce a b
    rw [okT_def] at h
    cases hc : ((okN 32 key && okN 12 nonce) && (okY limT a && okY limT b)) with
    | true =>
      rw [hc] at h
      simp only [Bool.and_eq_true] at hc
      rw [f27_raw_eq, f27_spec hc.1.1 hc.1.2 hc.2.1 hc.2.2]; exact h
    | false => rw [hc] at h; cases h
  · cases h
end Go.Proofs.Ytiaddnmloonhgaa

/- Contexts with the document's sealing and opening. -/
namespace Go.Proofs.Ytiaddnmloonhgaa
open Go Go.Eng
set_option maxRecDepth 100000
noncomputable def QE0 : Ctx := (29, { sig := S29, impl := I29 }) :: (27, { sig := S27, impl := I27 }) :: QM0
theorem QE0_ok : CtxOk Try.prog QE0 := ctxOk_cons ok29 rfl c29 (ctxOk_cons ok27 rfl c27 QM0_ok)
noncomputable def QE : Ctx := (999999, noFI) :: QE0
theorem QE_ok : CtxOk Try.prog QE := ctxOk_prune QE0_ok
def start5s (n : Nat) (key nonce a b : List Int) : AS :=
  { n := n, lo := 0, tmps := [(0, .s (.one (.ints .u8 32 key))), (1, .s (.one (.ints .u8 12 nonce))), (2, .s (.one (.own 2))), (3, .s (.one (.own 3)))], items := [(2, .view .u8 1 a), (3, .view .u8 1 b)] }
end Go.Proofs.Ytiaddnmloonhgaa

/- Opening, as something into which no reckoning looks. -/
namespace Go.Proofs.Ytiaddnmloonhgaa
open Go Go.Eng
set_option maxRecDepth 100000
noncomputable def openT : List Int → List Int → List Int → List Int → List Int := (stkD fun key nonce a b => (openL key nonce a b).1).1
theorem openT_def (key nonce a b : List Int) : openT key nonce a b = (openL key nonce a b).1 := congrFun (congrFun (congrFun (congrFun (stkD fun key nonce a b => (openL key nonce a b).1).2 key) nonce) a) b
noncomputable def openE : List Int → List Int → List Int → List Int → Int := (stkD fun key nonce a b => (openL key nonce a b).2).1
theorem openE_def (key nonce a b : List Int) : openE key nonce a b = (openL key nonce a b).2 := congrFun (congrFun (congrFun (congrFun (stkD fun key nonce a b => (openL key nonce a b).2).2 key) nonce) a) b
noncomputable def okAB : List Int → List Int → Bool := (stkD fun (a b : List Int) => Nat.ble a.length lim5 && Nat.ble b.length lim5).1
theorem okAB_def (a b : List Int) : okAB a b = (Nat.ble a.length lim5 && Nat.ble b.length lim5) := congrFun (congrFun (stkD fun (a b : List Int) => Nat.ble a.length lim5 && Nat.ble b.length lim5).2 a) b
noncomputable def J26 : (R : Type) → List DV → (List DV → Option R) → Option R := fun _ ds k => match ds with
  | [.v (.one (.ints .u8 32 key)), .v (.one (.ints .u8 12 nonce)), .lst .u8 1 a, .lst .u8 1 b] =>
    cond (okAB a b) (k [.lst .u8 1 (openT key nonce a b), .v (.one (.int .i64 (openE key nonce a b)))]) none
  | _ => none
theorem d26 : Contract Try.prog 26 { sig := S26, impl := J26 } := by
  refine Contract.refine fun R ds k r h => ⟨_, c26, ?_⟩
  unfold J26 at h
  split at h
  · rw [okAB_def, openT_def, openE_def] at h; exact h
  · cases h
noncomputable def J27 : (R : Type) → List DV → (List DV → Option R) → Option R := fun _ ds k => match ds with
  | [.v (.one (.ints .u8 32 key)), .v (.one (.ints .u8 12 nonce)), .lst .u8 1 a, .lst .u8 1 b] =>
    cond (okT key nonce a b) (k [.lst .u8 1 (openT key nonce a b), .v (.one (.int .i64 (openE key nonce a b)))]) none
  | _ => none
theorem d27 : Contract Try.prog 27 { sig := S27, impl := J27 } := by
  refine Contract.refine fun R ds k r h => ⟨_, c27, ?_⟩
  unfold J27 at h
  split at h
  · rw [openT_def, openE_def] at h; exact h
  · cases h
noncomputable def Q33 : Ctx := (26, { sig := S26, impl := J26 }) :: (42, { sig := S42, impl := I42 }) :: []
theorem Q33_ok : CtxOk Try.prog Q33 := ctxOk_cons ok26 rfl d26 (ctxOk_cons ok42 rfl c42 ctxOk_nil)
noncomputable def Q34 : Ctx := (27, { sig := S27, impl := J27 }) :: []
theorem Q34_ok : CtxOk Try.prog Q34 := ctxOk_cons ok27 rfl d27 ctxOk_nil
end Go.Proofs.Ytiaddnmloonhgaa

/- What rime/seal.Unbox comes to. MADE BY PROGRAM (wip/tools/mkfn.py, EngGen.lean). -/
namespace Go.Proofs.Ytiaddnmloonhgaa
open Go Go.Eng
set_option maxRecDepth 100000
set_option linter.unusedVariables false

noncomputable def f33_raw {R : Type} (N : Nat) (key : List Int) (a : List Int) (b : List Int) (k : List DV → Option R) : Option R :=
 bif Decidable.decide (nI (rowLen 1 b) < 28) then k [DV.lst IntKind.u8 1 [], DV.v (SV.one (At.int IntKind.u64 0)), DV.v (SV.one (At.int IntKind.i64 3))]
else
 bif hiOk (Option.some 4) (rowLen 1 b) then
 bif !Decidable.decide (List.take 4 (List.drop 0 b) = List.replicate 4 0) then k [DV.lst IntKind.u8 1 [], DV.v (SV.one (At.int IntKind.u64 0)), DV.v (SV.one (At.int IntKind.i64 1))]
 else
 bif hiOk (Option.some 12) (rowLen 1 b) then
 bif loOk (Option.some 12) (hiInt Option.none (rowLen 1 b)) then
 let v0 : List Int := Go.Eng.sub b (plusO Off.z 1 (Option.some 12)) (mulE (Go.Eng.subN (hiNat Option.none (rowLen 1 b)) (Option.some 12)) 1);
 bif okAB a v0 then
 bif openE key (List.take 12 (List.drop 0 b)) a v0 != 0 then k [DV.lst IntKind.u8 1 [], DV.v (SV.one (At.int IntKind.u64 0)), DV.v (SV.one (At.int IntKind.i64 (openE key (List.take 12 (List.drop 0 b)) a v0)))]
 else
 bif hiOk (Option.some 12) (rowLen 1 b) then
 let v1 : List Int := Go.Eng.sub b (plusO Off.z 1 (Option.some 4)) (mulE (Go.Eng.subN (hiNat (Option.some 12) (rowLen 1 b)) (Option.some 4)) 1);
 bif v1.length.ble 1048576 then k [DV.lst IntKind.u8 1 (openT key (List.take 12 (List.drop 0 b)) a v0), DV.v (SV.one (At.int IntKind.u64 (lowL v1))), DV.v (SV.one (At.int IntKind.i64 0))] else Option.none
 else Option.none
 else Option.none
 else Option.none
 else Option.none
 else Option.none


noncomputable def E33 (N : Nat) : Env := { Θ := Th, Γ := Q33, K := K33, ν := N33, fuel := 0, lp := [] }


theorem f33_contract (N : Nat) (hΓ : CtxOk Try.prog Q33) : Contract Try.prog 33 { sig := S33, impl := fun _ ds k => call (E33 N) S33 39 B33 R33 ds k } :=
  call_contract (E := E33 N) thOk hΓ mixed ok33.look ok33.body ok33.n ok33.rv ok33.name rfl (by decide) (loopsOk_of (l := []) (by kernel_rfl) trivial)
theorem f33_raw_eq {R : Type} (N : Nat) (key : List Int) (a : List Int) (b : List Int) (k : List DV → Option R) : call (E33 N) S33 39 B33 R33 [.v (.one (.ints .u8 32 key)), .lst .u8 1 a, .lst .u8 1 b] k = f33_raw N key a b k := by kernel_rfl
end Go.Proofs.Ytiaddnmloonhgaa

/- Unbox: the program's. -/
namespace Go.Proofs.Ytiaddnmloonhgaa
open Go Go.Eng
set_option maxRecDepth 100000
noncomputable def unboxL (key a b : List Int) : List Int × Int × Int :=
  if b.length < 28 then ([], 0, 3)
  else if b.take 4 = List.replicate 4 0 then
    (if openE key (b.take 12) a (b.drop 12) = 0 then (openT key (b.take 12) a (b.drop 12), lowL ((b.drop 4).take 8), 0) else ([], 0, openE key (b.take 12) a (b.drop 12)))
  else ([], 0, 1)
noncomputable def unT : List Int → List Int → List Int → List Int := (stkD fun key a b => (unboxL key a b).1).1
theorem unT_def (key a b : List Int) : unT key a b = (unboxL key a b).1 := congrFun (congrFun (congrFun (stkD fun key a b => (unboxL key a b).1).2 key) a) b
noncomputable def unN : List Int → List Int → List Int → Int := (stkD fun key a b => (unboxL key a b).2.1).1
theorem unN_def (key a b : List Int) : unN key a b = (unboxL key a b).2.1 := congrFun (congrFun (congrFun (stkD fun key a b => (unboxL key a b).2.1).2 key) a) b
noncomputable def unE : List Int → List Int → List Int → Int := (stkD fun key a b => (unboxL key a b).2.2).1
theorem unE_def (key a b : List Int) : unE key a b = (unboxL key a b).2.2 := congrFun (congrFun (congrFun (stkD fun key a b => (unboxL key a b).2.2).2 key) a) b
theorem f33_spec {R : Type} {key a b : List Int} (ha : a.length ≤ 1073741824) (hb : b.length ≤ 1073741824) (k : List DV → Option R) :
    f33_raw 0 key a b k = k [.lst .u8 1 (unboxL key a b).1, .v (.one (.int .u64 (unboxL key a b).2.1)), .v (.one (.int .i64 (unboxL key a b).2.2))] := by
  unfold f33_raw unboxL
  have el : nI (rowLen 1 b) = (b.length : Int) := rfl
  by_cases h1 : b.length < 28
  · rw [el, decide_eq_true (show (b.length : Int) < 28 by omega), cond_true, if_pos h1]
  · rw [el, decide_eq_false (show ¬ ((b.length : Int) < 28) by omega), cond_false, if_neg h1]
    have h4 : hiOk (some 4) (rowLen 1 b) = true := hiOk_nat (n := 4) (by show 4 ≤ b.length; omega)
    have h12 : hiOk (some 12) (rowLen 1 b) = true := hiOk_nat (n := 12) (by show 12 ≤ b.length; omega)
    have l12 : loOk (some 12) (hiInt none (rowLen 1 b)) = true := loOk_nat (n := 12) (by show ((12 : Nat) : Int) ≤ (b.length : Int); omega)
    rw [h4, cond_true, List.drop_zero]
    by_cases h0 : b.take 4 = List.replicate 4 0
    · have hs : Go.Eng.sub b (plusO Off.z 1 (Option.some 12)) (mulE (Go.Eng.subN (hiNat Option.none (rowLen 1 b)) (Option.some 12)) 1) = b.drop 12 := by
        show (b.drop 12).take (b.length - 12) = b.drop 12
        exact List.take_of_length_le (by rw [List.length_drop]; omega)
      have hs2 : Go.Eng.sub b (plusO Off.z 1 (Option.some 4)) (mulE (Go.Eng.subN (hiNat (Option.some 12) (rowLen 1 b)) (Option.some 4)) 1) = (b.drop 4).take 8 := rfl
      rw [decide_eq_true h0, Bool.not_true, cond_false, h12, cond_true, l12, cond_true, if_pos h0]
      dsimp only
      rw [hs, hs2, okAB_def, show Nat.ble a.length lim5 = true from Nat.ble_eq_true_of_le (by unfold lim5; omega), show Nat.ble (b.drop 12).length lim5 = true from Nat.ble_eq_true_of_le (by rw [List.length_drop]; unfold lim5; omega), Bool.and_self, cond_true]
      by_cases he : openE key (b.take 12) a (b.drop 12) = 0
      · rw [if_pos he, he, show ((0 : Int) != 0) = false from rfl, cond_false, cond_true]
        rw [show ((b.drop 4).take 8).length.ble 1048576 = true from Nat.ble_eq_true_of_le (by rw [List.length_take]; omega), cond_true]
      · rw [if_neg he, show (openE key (b.take 12) a (b.drop 12) != 0) = true by simpa using he, cond_true]
    · rw [decide_eq_false h0, Bool.not_false, cond_true, if_neg h0]
noncomputable def okUn : List Int → List Int → Bool := (stkD fun (a b : List Int) => Nat.ble a.length limT && Nat.ble b.length limT).1
theorem okUn_def (a b : List Int) : okUn a b = (Nat.ble a.length limT && Nat.ble b.length limT) := congrFun (congrFun (stkD fun (a b : List Int) => Nat.ble a.length limT && Nat.ble b.length limT).2 a) b
noncomputable def I33 : (R : Type) → List DV → (List DV → Option R) → Option R := fun _ ds k => match ds with
  | [.v (.one (.ints .u8 32 key)), .lst .u8 1 a, .lst .u8 1 b] => cond (okUn a b) (k [.lst .u8 1 (unT key a b), .v (.one (.int .u64 (unN key a b))), .v (.one (.int .i64 (unE key a b)))]) none
  | _ => none
theorem c33 : Contract Try.prog 33 { sig := S33, impl := I33 } := by
  refine Contract.refine fun R ds k r h => ⟨_, f33_contract 0 Q33_ok, ?_⟩
  unfold I33 at h
  split at h
  · rename_i key a b
    rw [okUn_def] at h
    cases hc : (Nat.ble a.length limT && Nat.ble b.length limT) with
    | true =>
      rw [hc, unT_def, unN_def, unE_def] at h
      rw [Bool.and_eq_true] at hc
      rw [f33_raw_eq, f33_spec (Nat.le_of_ble_eq_true hc.1) (Nat.le_of_ble_eq_true hc.2)]; exact h
    | false => rw [hc] at h; cases h
  · cases h
end Go.Proofs.Ytiaddnmloonhgaa

/- What rime/rimeref12.Unbox comes to. MADE BY PROGRAM (wip/tools/mkfn.py, EngGen.lean). -/
namespace Go.Proofs.Ytiaddnmloonhgaa
open Go Go.Eng
set_option maxRecDepth 100000
set_option linter.unusedVariables false

noncomputable def f34_raw {R : Type} (N : Nat) (key : List Int) (a : List Int) (b : List Int) (k : List DV → Option R) : Option R :=
 bif Decidable.decide (nI (rowLen 1 b) < 28) then k [DV.lst IntKind.u8 1 [], DV.v (SV.one (At.int IntKind.u64 0)), DV.v (SV.one (At.int IntKind.i64 3))]
else
 bif Decidable.decide (0 ≤ 0) && Decidable.decide (0 < nI (rowLen 1 b)) then
 bif b.getD (mulE (Int.toNat 0) 1) 0 != 0 then k [DV.lst IntKind.u8 1 [], DV.v (SV.one (At.int IntKind.u64 0)), DV.v (SV.one (At.int IntKind.i64 1))]
 else
 bif Decidable.decide (0 ≤ 1) && Decidable.decide (1 < nI (rowLen 1 b)) then
 let v0 : Bool := bif Bool.false then Bool.true else b.getD (mulE (Int.toNat 1) 1) 0 != 0;
 bif v0 then k [DV.lst IntKind.u8 1 [], DV.v (SV.one (At.int IntKind.u64 0)), DV.v (SV.one (At.int IntKind.i64 1))]
 else
 bif Decidable.decide (0 ≤ 2) && Decidable.decide (2 < nI (rowLen 1 b)) then
 let v1 : Bool := bif Bool.false then Bool.true else b.getD (mulE (Int.toNat 2) 1) 0 != 0;
 bif v1 then k [DV.lst IntKind.u8 1 [], DV.v (SV.one (At.int IntKind.u64 0)), DV.v (SV.one (At.int IntKind.i64 1))]
 else
 bif Decidable.decide (0 ≤ 3) && Decidable.decide (3 < nI (rowLen 1 b)) then
 let v2 : Bool := bif Bool.false then Bool.true else b.getD (mulE (Int.toNat 3) 1) 0 != 0;
 bif v2 then k [DV.lst IntKind.u8 1 [], DV.v (SV.one (At.int IntKind.u64 0)), DV.v (SV.one (At.int IntKind.i64 1))]
 else
 bif Decidable.decide (0 ≤ 11) && Decidable.decide (11 < nI (rowLen 1 b)) then
 let v3 : Int := IntKind.i64.wrap (11 - 1);
 bif Decidable.decide (0 ≤ v3) && Decidable.decide (v3 < nI (rowLen 1 b)) then
 let v4 : Int := IntKind.i64.wrap (v3 - 1);
 bif Decidable.decide (0 ≤ v4) && Decidable.decide (v4 < nI (rowLen 1 b)) then
 let v5 : Int := IntKind.i64.wrap (v4 - 1);
 bif Decidable.decide (0 ≤ v5) && Decidable.decide (v5 < nI (rowLen 1 b)) then
 let v6 : Int := IntKind.i64.wrap (v5 - 1);
 bif Decidable.decide (0 ≤ v6) && Decidable.decide (v6 < nI (rowLen 1 b)) then
 let v7 : Int := IntKind.i64.wrap (v6 - 1);
 bif Decidable.decide (0 ≤ v7) && Decidable.decide (v7 < nI (rowLen 1 b)) then
 let v8 : Int := IntKind.i64.wrap (v7 - 1);
 bif Decidable.decide (0 ≤ v8) && Decidable.decide (v8 < nI (rowLen 1 b)) then
 let v9 : Int := IntKind.i64.wrap (v8 - 1);
 bif Decidable.decide (0 ≤ v9) && Decidable.decide (v9 < nI (rowLen 1 b)) then
 bif loOk (Option.some 12) (hiInt Option.none (rowLen 1 b)) then
 let v10 : Nat := Min.min (rowLen 1 b) (Go.Eng.subN (hiNat Option.none 12) Option.none);
 let v11 : List Int := splice (List.replicate 12 0) (plusO Off.z 1 Option.none) (List.take (mulE v10 1) b);
 let v12 : List Int := Go.Eng.sub b (plusO Off.z 1 (Option.some 12)) (mulE (Go.Eng.subN (hiNat Option.none (rowLen 1 b)) (Option.some 12)) 1);
 bif okT key v11 a v12 then
 bif openE key v11 a v12 != 0 then k [DV.lst IntKind.u8 1 [], DV.v (SV.one (At.int IntKind.u64 0)), DV.v (SV.one (At.int IntKind.i64 (openE key v11 a v12)))]
 else
 let v13 : Int := shlI IntKind.u64 0 8;
 let v14 : Int := IntKind.u64.wrap (b.getD (mulE (Int.toNat 11) 1) 0);
 let v15 : Int := orI IntKind.u64 v13 v14;
 let v16 : Int := shlI IntKind.u64 v15 8;
 let v17 : Int := IntKind.u64.wrap (b.getD (mulE v3.toNat 1) 0);
 let v18 : Int := orI IntKind.u64 v16 v17;
 let v19 : Int := shlI IntKind.u64 v18 8;
 let v20 : Int := IntKind.u64.wrap (b.getD (mulE v4.toNat 1) 0);
 let v21 : Int := orI IntKind.u64 v19 v20;
 let v22 : Int := shlI IntKind.u64 v21 8;
 let v23 : Int := IntKind.u64.wrap (b.getD (mulE v5.toNat 1) 0);
 let v24 : Int := orI IntKind.u64 v22 v23;
 let v25 : Int := shlI IntKind.u64 v24 8;
 let v26 : Int := IntKind.u64.wrap (b.getD (mulE v6.toNat 1) 0);
 let v27 : Int := orI IntKind.u64 v25 v26;
 let v28 : Int := shlI IntKind.u64 v27 8;
 let v29 : Int := IntKind.u64.wrap (b.getD (mulE v7.toNat 1) 0);
 let v30 : Int := orI IntKind.u64 v28 v29;
 let v31 : Int := shlI IntKind.u64 v30 8;
 let v32 : Int := IntKind.u64.wrap (b.getD (mulE v8.toNat 1) 0);
 let v33 : Int := orI IntKind.u64 v31 v32;
 let v34 : Int := shlI IntKind.u64 v33 8;
 let v35 : Int := IntKind.u64.wrap (b.getD (mulE v9.toNat 1) 0);
 let v36 : Int := orI IntKind.u64 v34 v35;
 k [DV.lst IntKind.u8 1 (openT key v11 a v12), DV.v (SV.one (At.int IntKind.u64 v36)), DV.v (SV.one (At.int IntKind.i64 0))]
 else Option.none
 else Option.none
 else Option.none
 else Option.none
 else Option.none
 else Option.none
 else Option.none
 else Option.none
 else Option.none
 else Option.none
 else Option.none
 else Option.none
 else Option.none
 else Option.none


noncomputable def E34 (N : Nat) : Env := { Θ := Th, Γ := Q34, K := K34, ν := N34, fuel := 20, lp := [] }


theorem f34_contract (N : Nat) (hΓ : CtxOk Try.prog Q34) : Contract Try.prog 34 { sig := S34, impl := fun _ ds k => call (E34 N) S34 68 B34 R34 ds k } :=
  call_contract (E := E34 N) thOk hΓ mixed ok34.look ok34.body ok34.n ok34.rv ok34.name rfl (by decide) (loopsOk_of (l := [(0, B34_0)]) (by kernel_rfl) (allOk_skip rfl trivial))
theorem f34_raw_eq {R : Type} (N : Nat) (key : List Int) (a : List Int) (b : List Int) (k : List DV → Option R) : call (E34 N) S34 68 B34 R34 [.v (.one (.ints .u8 32 key)), .lst .u8 1 a, .lst .u8 1 b] k = f34_raw N key a b k := by kernel_rfl
end Go.Proofs.Ytiaddnmloonhgaa

/- Numbers of up to eight bytes. -/
namespace Go.Proofs.Ytiaddnmloonhgaa
open Go Go.Eng
set_option maxRecDepth 100000
theorem lowGo_nat : ∀ (l : List Nat) (i n : Nat), (∀ x ∈ l, x < 256) → i + l.length ≤ 8 → n < 256 ^ i → lowGo (nats l) i (n : Int) = ((n + valB 256 l * 256 ^ i : Nat) : Int)
  | [], i, n, _, _, _ => by simp [nats, lowGo, valB]
  | x :: l, i, n, hb, hl, hn => by
    have hx := hb x (.head _)
    rw [List.length_cons] at hl
    have h64 : (256 : Nat) ^ 8 = 18446744073709551616 := by decide +kernel
    have hp : (256 : Nat) ^ (i + 1) ≤ 18446744073709551616 := by
      rw [← h64]; exact Nat.pow_le_pow_right (by decide) (by omega)
    have hxp : x * 256 ^ i < 256 ^ (i + 1) := by
      rw [Nat.pow_succ, Nat.mul_comm]; exact Nat.mul_lt_mul_of_pos_left hx (Nat.pow_pos (by decide))
    have hsum : n + x * 256 ^ i < 256 ^ (i + 1) := by
      have : (x + 1) * 256 ^ i ≤ 256 * 256 ^ i := Nat.mul_le_mul_right _ (by omega)
      rw [Nat.add_mul, Nat.one_mul] at this
      rw [Nat.pow_succ, Nat.mul_comm (256 ^ i)]
      omega
    have hn' : n < 18446744073709551616 := by omega
    have hx' : x * 256 ^ i < 18446744073709551616 := by omega
    show lowGo (nats l) (i + 1) (orI .u64 (n : Int) (shlI .u64 (IntKind.u64.wrap (x : Int)) (8 * (i : Int)))) = _
    rw [w64 (n := x) (by omega), show (8 : Int) * (i : Int) = ((8 * i : Nat) : Int) by omega, shlN (k := .u64) rfl (m := 8 * i) (by show 8 * i ≤ 64; omega), bits64, ← pow256, Nat.mod_eq_of_lt hx']
    rw [orN (k := .u64) rfl (by rw [bits64]; exact hn') (by rw [bits64]; exact hx'), pow256, or_addN' (by rw [← pow256]; exact hn), ← pow256]
    rw [lowGo_nat l (i + 1) _ (fun y hy => hb y (.tail _ hy)) (by omega) hsum]
    congr 1
    rw [valB_cons, Nat.pow_succ, Nat.add_mul, Nat.add_assoc, Nat.mul_comm (256 ^ i) 256, ← Nat.mul_assoc, Nat.mul_comm 256 (valB 256 l)]
theorem lowL_nats {l : List Nat} (hb : ∀ x ∈ l, x < 256) (hl : l.length ≤ 8) : lowL (nats l) = ((valB 256 l : Nat) : Int) := by
  have := lowGo_nat l 0 0 hb (by omega) (by decide)
  rw [Nat.zero_add, Nat.pow_zero, Nat.mul_one] at this
  exact this
theorem horner {v x : Nat} (hv : v < 72057594037927936) (hx : x < 256) : orI .u64 (shlI .u64 (v : Int) 8) (IntKind.u64.wrap (x : Int)) = ((v * 256 + x : Nat) : Int) := by
  rw [w64 (n := x) (by omega), show (8 : Int) = ((8 : Nat) : Int) from rfl, shlN (k := .u64) rfl (m := 8) (by decide), bits64, show (2 : Nat) ^ 8 = 256 from rfl, Nat.mod_eq_of_lt (by omega)]
  rw [orN (k := .u64) rfl (by rw [bits64]; omega) (by rw [bits64]; omega), show (256 : Nat) = 2 ^ 8 from rfl, or_addN (show x < 2 ^ 8 by omega)]
end Go.Proofs.Ytiaddnmloonhgaa

/- Unbox: the document's. -/
namespace Go.Proofs.Ytiaddnmloonhgaa
open Go Go.Eng
set_option maxRecDepth 100000
def inB (b : List Int) (i : Int) : Bool := Decidable.decide (0 ≤ i) && Decidable.decide (i < nI (rowLen 1 b))
def e3 : List DV := [DV.lst IntKind.u8 1 [], DV.v (SV.one (At.int IntKind.u64 0)), DV.v (SV.one (At.int IntKind.i64 3))]
def e1 : List DV := [DV.lst IntKind.u8 1 [], DV.v (SV.one (At.int IntKind.u64 0)), DV.v (SV.one (At.int IntKind.i64 1))]
def hz (b : List Int) : Nat → Int → Int
  | 0, v => v
  | m + 1, v => hz b m (orI .u64 (shlI .u64 v 8) (IntKind.u64.wrap (b.getD (4 + m) 0)))
theorem f34_clean {R : Type} (key a b : List Int) (k : List DV → Option R) : f34_raw 0 key a b k =
    bif decide (nI (rowLen 1 b) < 28) then k e3 else
    bif inB b 0 then bif b.getD 0 0 != 0 then k e1 else
    bif inB b 1 then bif b.getD 1 0 != 0 then k e1 else
    bif inB b 2 then bif b.getD 2 0 != 0 then k e1 else
    bif inB b 3 then bif b.getD 3 0 != 0 then k e1 else
    bif inB b 11 then bif inB b 10 then bif inB b 9 then bif inB b 8 then bif inB b 7 then bif inB b 6 then bif inB b 5 then bif inB b 4 then
    bif loOk (Option.some 12) (hiInt Option.none (rowLen 1 b)) then
    bif okT key (splice (List.replicate 12 0) (plusO Off.z 1 Option.none) (List.take (mulE (min (rowLen 1 b) (Go.Eng.subN (hiNat Option.none 12) Option.none)) 1) b)) a (Go.Eng.sub b (plusO Off.z 1 (Option.some 12)) (mulE (Go.Eng.subN (hiNat Option.none (rowLen 1 b)) (Option.some 12)) 1)) then
    bif openE key (splice (List.replicate 12 0) (plusO Off.z 1 Option.none) (List.take (mulE (min (rowLen 1 b) (Go.Eng.subN (hiNat Option.none 12) Option.none)) 1) b)) a (Go.Eng.sub b (plusO Off.z 1 (Option.some 12)) (mulE (Go.Eng.subN (hiNat Option.none (rowLen 1 b)) (Option.some 12)) 1)) != 0 then
      k [DV.lst IntKind.u8 1 [], DV.v (SV.one (At.int IntKind.u64 0)), DV.v (SV.one (At.int IntKind.i64 (openE key (splice (List.replicate 12 0) (plusO Off.z 1 Option.none) (List.take (mulE (min (rowLen 1 b) (Go.Eng.subN (hiNat Option.none 12) Option.none)) 1) b)) a (Go.Eng.sub b (plusO Off.z 1 (Option.some 12)) (mulE (Go.Eng.subN (hiNat Option.none (rowLen 1 b)) (Option.some 12)) 1)))))]
    else k [DV.lst IntKind.u8 1 (openT key (splice (List.replicate 12 0) (plusO Off.z 1 Option.none) (List.take (mulE (min (rowLen 1 b) (Go.Eng.subN (hiNat Option.none 12) Option.none)) 1) b)) a (Go.Eng.sub b (plusO Off.z 1 (Option.some 12)) (mulE (Go.Eng.subN (hiNat Option.none (rowLen 1 b)) (Option.some 12)) 1))), DV.v (SV.one (At.int IntKind.u64 (hz b 8 0))), DV.v (SV.one (At.int IntKind.i64 0))]
    else none else none else none else none else none else none else none else none else none else none else none else none else none else none := by kernel_rfl
end Go.Proofs.Ytiaddnmloonhgaa

/- Unbox: the document's contract. -/
namespace Go.Proofs.Ytiaddnmloonhgaa
open Go Go.Eng
set_option maxRecDepth 100000
theorem hz_nat {l : List Nat} (hb : ∀ x ∈ l, x < 256) : ∀ (m v : Nat), 4 + m ≤ l.length → m ≤ 8 → v < 256 ^ (8 - m) → hz (nats l) m (v : Int) = ((v * 256 ^ m + valB 256 ((l.drop 4).take m) : Nat) : Int)
  | 0, v, _, _, _ => by simp [hz, valB]
  | m + 1, v, hl, hm, hv => by
    have hx : l.getD (4 + m) 0 < 256 := by
      rw [List.getD_eq_getElem?_getD, List.getElem?_eq_getElem (by omega)]; exact hb _ (List.getElem_mem _)
    have h7 : (256 : Nat) ^ 7 = 72057594037927936 := by decide +kernel
    have hv7 : v < 72057594037927936 := by
      rw [← h7]; exact Nat.lt_of_lt_of_le hv (Nat.pow_le_pow_right (by decide) (by omega))
    have hlast : valB 256 ((l.drop 4).take (m + 1)) = valB 256 ((l.drop 4).take m) + l.getD (4 + m) 0 * 256 ^ m := by
      have := take_valY (l.drop 4) (i := m) (by rw [List.length_drop]; omega)
      rw [this, List.getD_eq_getElem?_getD, List.getElem?_drop, ← List.getD_eq_getElem?_getD]
    show hz (nats l) m (orI .u64 (shlI .u64 (v : Int) 8) (IntKind.u64.wrap ((nats l).getD (4 + m) 0))) = _
    rw [nats_getD, horner hv7 hx]
    have h3 : v * 256 + l.getD (4 + m) 0 < 256 ^ (8 - m) := by
      rw [show 8 - m = (8 - (m + 1)) + 1 by omega, Nat.pow_succ]
      have : (v + 1) * 256 ≤ 256 ^ (8 - (m + 1)) * 256 := Nat.mul_le_mul_right _ hv
      omega
    rw [hz_nat hb m _ (by omega) (by omega) h3, hlast]
    congr 1
    rw [Nat.add_mul, Nat.pow_succ, Nat.mul_assoc, Nat.mul_comm 256 (256 ^ m)]
    omega
end Go.Proofs.Ytiaddnmloonhgaa

/- Unbox: the document's contract, joined. -/
namespace Go.Proofs.Ytiaddnmloonhgaa
open Go Go.Eng
set_option maxRecDepth 100000
theorem f34_spec {R : Type} {key a b : List Int} (hk : okN 32 key = true) (ha : okY limT a = true) (hb : okY limT b = true) (k : List DV → Option R) :
    f34_raw 0 key a b k = k [.lst .u8 1 (unboxL key a b).1, .v (.one (.int .u64 (unboxL key a b).2.1)), .v (.one (.int .i64 (unboxL key a b).2.2))] := by
  obtain ⟨lb, bb⟩ := okY_bytes hb
  have lb' : b.length ≤ 1073741824 := lb
  rw [f34_clean]
  unfold unboxL
  have el : nI (rowLen 1 b) = (b.length : Int) := rfl
  by_cases h1 : b.length < 28
  · rw [el, decide_eq_true (show (b.length : Int) < 28 by omega), cond_true, if_pos h1]; rfl
  · have hin : ∀ i : Nat, i < 28 → inB b (i : Int) = true := fun i hi => by
      unfold inB
      rw [el, decide_eq_true (show (0 : Int) ≤ (i : Int) by omega), decide_eq_true (show (i : Int) < (b.length : Int) by omega)]; rfl
    have l12 : loOk (some 12) (hiInt none (rowLen 1 b)) = true := loOk_nat (n := 12) (by show ((12 : Nat) : Int) ≤ (b.length : Int); omega)
    rw [el, decide_eq_false (show ¬ ((b.length : Int) < 28) by omega), cond_false, if_neg h1]
    rw [show inB b 0 = true from hin 0 (by omega), show inB b 1 = true from hin 1 (by omega), show inB b 2 = true from hin 2 (by omega), show inB b 3 = true from hin 3 (by omega), show inB b 4 = true from hin 4 (by omega), show inB b 5 = true from hin 5 (by omega), show inB b 6 = true from hin 6 (by omega), show inB b 7 = true from hin 7 (by omega), show inB b 8 = true from hin 8 (by omega), show inB b 9 = true from hin 9 (by omega), show inB b 10 = true from hin 10 (by omega), show inB b 11 = true from hin 11 (by omega), l12]
    simp only [cond_true]
    have ht4 : b.take 4 = [b.getD 0 0, b.getD 1 0, b.getD 2 0, b.getD 3 0] := by
      have := take4 (l := b) (i := 0) (by omega)
      rw [List.drop_zero] at this
      exact this
    have hs : Go.Eng.sub b (plusO Off.z 1 (Option.some 12)) (mulE (Go.Eng.subN (hiNat Option.none (rowLen 1 b)) (Option.some 12)) 1) = b.drop 12 := by
      show (b.drop 12).take (b.length - 12) = b.drop 12
      exact List.take_of_length_le (by rw [List.length_drop]; omega)
    have hn12 : splice (List.replicate 12 0) (plusO Off.z 1 Option.none) (List.take (mulE (min (rowLen 1 b) (Go.Eng.subN (hiNat Option.none 12) Option.none)) 1) b) = b.take 12 := by
      have e1 : List.take (mulE (min (rowLen 1 b) (Go.Eng.subN (hiNat Option.none 12) Option.none)) 1) b = b.take 12 := by
        show List.take (min b.length 12) b = _
        rw [Nat.min_eq_right (by omega)]
      rw [e1]
      show b.take 12 ++ (List.replicate 12 0).drop (b.take 12).length = _
      rw [List.length_take, Nat.min_eq_left (by omega)]; exact List.append_nil _
    rw [hs, hn12]
    have hne : ∀ {x : Int}, x ≠ 0 → (x != 0) = true := fun h => by simpa using h
    by_cases g0 : b.getD 0 0 = 0
    · by_cases g1 : b.getD 1 0 = 0
      · by_cases g2 : b.getD 2 0 = 0
        · by_cases g3 : b.getD 3 0 = 0
          · rw [if_pos (show b.take 4 = List.replicate 4 0 by rw [ht4, g0, g1, g2, g3]; rfl), g0, g1, g2, g3]
            have hT : okT key (b.take 12) a (b.drop 12) = true := by
              rw [okT_def, hk, okN_mk (by rw [List.length_take]; omega) (bytes_take bb 12), ha, okY_mk (n := limT) (by rw [List.length_drop]; unfold limT; omega) (fun x hx => bb x (List.mem_of_mem_drop hx))]; rfl
            rw [hT]
            simp only [show ((0 : Int) != 0) = false from rfl, cond_true, cond_false]
            by_cases he : openE key (b.take 12) a (b.drop 12) = 0
            · rw [if_pos he, he, show ((0 : Int) != 0) = false from rfl, cond_false]
              obtain ⟨l, hl⟩ := nats_of (xs := b) fun x hx => (bb x hx).1
              have hlb : ∀ x ∈ l, x < 256 := fun x hx => by
                have := (bb (x : Int) (by rw [hl]; unfold nats; exact List.mem_map.mpr ⟨x, hx, rfl⟩)).2
                omega
              have hll : l.length = b.length := by rw [hl, nats_length]
              have e8 : hz b 8 0 = lowL ((b.drop 4).take 8) := by
                rw [hl, nats_drop, nats_take, lowL_nats (fun x hx => hlb x (List.mem_of_mem_drop (List.mem_of_mem_take hx))) (List.length_take_le _ _)]
                have := hz_nat hlb 8 0 (by omega) (by decide) (by decide)
                rw [Nat.zero_mul, Nat.zero_add] at this
                exact this
              rw [e8]
            · rw [if_neg he, hne he, cond_true]
          · rw [if_neg (fun e => g3 (by rw [ht4] at e; injection e with _ e; injection e with _ e; injection e with _ e; injection e)), g0, g1, g2, hne g3]; rfl
        · rw [if_neg (fun e => g2 (by rw [ht4] at e; injection e with _ e; injection e with _ e; injection e)), g0, g1, hne g2]; rfl
      · rw [if_neg (fun e => g1 (by rw [ht4] at e; injection e with _ e; injection e)), g0, hne g1]; rfl
    · rw [if_neg (fun e => g0 (by rw [ht4] at e; injection e)), hne g0]; rfl
end Go.Proofs.Ytiaddnmloonhgaa

/- Unbox: contracts; context. -/
namespace Go.Proofs.Ytiaddnmloonhgaa
open Go Go.Eng
set_option maxRecDepth 100000
noncomputable def okU3 : List Int → List Int → List Int → Bool := (stkD fun (key a b : List Int) => okN 32 key && (okY limT a && okY limT b)).1
theorem okU3_def (key a b : List Int) : okU3 key a b = (okN 32 key && (okY limT a && okY limT b)) := congrFun (congrFun (congrFun (stkD fun (key a b : List Int) => okN 32 key && (okY limT a && okY limT b)).2 key) a) b
noncomputable def I34 : (R : Type) → List DV → (List DV → Option R) → Option R := fun _ ds k => match ds with
  | [.v (.one (.ints .u8 32 key)), .lst .u8 1 a, .lst .u8 1 b] => cond (okU3 key a b) (k [.lst .u8 1 (unT key a b), .v (.one (.int .u64 (unN key a b))), .v (.one (.int .i64 (unE key a b)))]) none
  | _ => none
theorem c34 : Contract Try.prog 34 { sig := S34, impl := I34 } := by
  refine Contract.refine fun R ds k r h => ⟨_, f34_contract 0 Q34_ok, ?_⟩
  unfold I34 at h
  split at h
  · rename_i key a b
    rw [okU3_def] at h
    cases hc : (okN 32 key && (okY limT a && okY limT b)) with
    | true =>
      rw [hc, unT_def, unN_def, unE_def] at h
      simp only [Bool.and_eq_true] at hc
      rw [f34_raw_eq, f34_spec hc.1 hc.2.1 hc.2.2]; exact h
    | false => rw [hc] at h; cases h
  · cases h
noncomputable def QU0 : Ctx := (33, { sig := S33, impl := I33 }) :: (34, { sig := S34, impl := I34 }) :: QM0
theorem QU0_ok : CtxOk Try.prog QU0 := ctxOk_cons ok33 rfl c33 (ctxOk_cons ok34 rfl c34 QM0_ok)
noncomputable def QU : Ctx := (999999, noFI) :: QU0
theorem QU_ok : CtxOk Try.prog QU := ctxOk_prune QU0_ok
def start11s (n : Nat) (key a b : List Int) : AS :=
  { n := n, lo := 0, tmps := [(0, .s (.one (.ints .u8 32 key))), (1, .s (.one (.own 1))), (2, .s (.one (.own 2)))], items := [(1, .view .u8 1 a), (2, .view .u8 1 b)] }
end Go.Proofs.Ytiaddnmloonhgaa

/- A context for what was sealed, with something turned. -/
namespace Go.Proofs.Ytiaddnmloonhgaa
open Go Go.Eng
set_option maxRecDepth 100000
noncomputable def QO0 : Ctx := (26, { sig := S26, impl := J26 }) :: (27, { sig := S27, impl := J27 }) :: (29, { sig := S29, impl := I29 }) :: QU0
theorem QO0_ok : CtxOk Try.prog QO0 := ctxOk_cons ok26 rfl d26 (ctxOk_cons ok27 rfl d27 (ctxOk_cons ok29 rfl c29 QU0_ok))
noncomputable def QO : Ctx := (999999, noFI) :: QO0
theorem QO_ok : CtxOk Try.prog QO := ctxOk_prune QO0_ok
end Go.Proofs.Ytiaddnmloonhgaa

/- What rime/rimelaw12.SealOpens comes to. MADE BY PROGRAM (wip/tools/mkfn.py, EngGen.lean). -/
namespace Go.Proofs.Ytiaddnmloonhgaa
open Go Go.Eng
set_option maxRecDepth 100000
set_option linter.unusedVariables false

noncomputable def f10_raw {R : Type} (N : Nat) (key : List Int) (nonce : List Int) (op : List Int) (text : List Int) (other : List Int) (at_ : Int) (by_ : Int) (k : List DV → Option R) : Option R :=
 bif okT key nonce op text then
 let v0 : List Int := Go.Eng.sub nonce (plusO Off.z 1 Option.none) (mulE (Go.Eng.subN (hiNat Option.none 12) Option.none) 1);
 bif (rowLen 1 v0 * 1).ble big48 && (rowLen 1 v0).ble big48 then
 bif ((2 * (rowLen 1 v0 + rowLen 1 (sealL key nonce op text)) + 192) * 1).ble big48 && (rowLen 1 v0 + rowLen 1 (sealL key nonce op text)).ble big48 then
 let v1 : List Int := v0 ++ sealL key nonce op text;
 bif Decidable.decide (nI (rowLen 1 v1) > 0) then
 let v2 : Bool := bif Bool.true then Decidable.decide (at_ ≥ 0) else Bool.false;
 bif v2 then
 let v3 : Bool := bif Bool.true then Decidable.decide (at_ < nI (rowLen 1 v1)) else Bool.false;
 bif v3 then
 bif Decidable.decide (0 ≤ at_) && Decidable.decide (at_ < nI (rowLen 1 v1)) then
 bif Decidable.decide (0 ≤ at_) && Decidable.decide (at_ < nI (rowLen 1 v1)) then
 let v4 : Int := xorI IntKind.u8 (v1.getD (mulE at_.toNat 1) 0) by_;
 let v5 : List Int := v1.set (mulE at_.toNat 1) v4;
 bif loOk (Option.some 12) (hiInt Option.none (rowLen 1 v5)) then
 let v6 : List Int := Go.Eng.sub v5 (plusO Off.z 1 (Option.some 12)) (mulE (Go.Eng.subN (hiNat Option.none (rowLen 1 v5)) (Option.some 12)) 1);
 bif okAB op v6 then
 bif loOk (Option.some 12) (hiInt Option.none (rowLen 1 v5)) then
 bif okT key nonce op v6 then
 bif okUn op v5 then
 bif okU3 key op v5 then
 bif (openT key nonce op v6).length.ble lim then
 bif Decidable.decide (openT key nonce op v6 = openT key nonce op v6) then
 let v7 : Bool := bif Bool.true then openE key nonce op v6 == openE key nonce op v6 else Bool.false;
 bif v7 then
 bif (unT key op v5).length.ble lim then
 let v8 : Bool := bif Bool.true then Decidable.decide (unT key op v5 = unT key op v5) else Bool.false;
 bif v8 then
 let v9 : Bool := bif Bool.true then unN key op v5 == unN key op v5 else Bool.false;
 bif v9 then
 let v10 : Bool := bif Bool.true then unE key op v5 == unE key op v5 else Bool.false;
 bif v10 then
 let v11 : Bool := bif Bool.true then Bool.true else Bool.false;
 k [DV.v (SV.one (At.bool v11))]
 else k [DV.v (SV.one (At.bool Bool.false))]
 else k [DV.v (SV.one (At.bool Bool.false))]
 else k [DV.v (SV.one (At.bool Bool.false))]
 else Option.none
 else k [DV.v (SV.one (At.bool Bool.false))]
 else k [DV.v (SV.one (At.bool Bool.false))]
 else Option.none
 else Option.none
 else Option.none
 else Option.none
 else Option.none
 else Option.none
 else Option.none
 else Option.none
 else Option.none
 else
 bif loOk (Option.some 12) (hiInt Option.none (rowLen 1 v1)) then
 let v12 : List Int := Go.Eng.sub v1 (plusO Off.z 1 (Option.some 12)) (mulE (Go.Eng.subN (hiNat Option.none (rowLen 1 v1)) (Option.some 12)) 1);
 bif okAB op v12 then
 bif loOk (Option.some 12) (hiInt Option.none (rowLen 1 v1)) then
 bif okT key nonce op v12 then
 bif okUn op v1 then
 bif okU3 key op v1 then
 bif (openT key nonce op v12).length.ble lim then
 bif Decidable.decide (openT key nonce op v12 = openT key nonce op v12) then
 let v13 : Bool := bif Bool.true then openE key nonce op v12 == openE key nonce op v12 else Bool.false;
 bif v13 then
 bif (unT key op v1).length.ble lim then
 let v14 : Bool := bif Bool.true then Decidable.decide (unT key op v1 = unT key op v1) else Bool.false;
 bif v14 then
 let v15 : Bool := bif Bool.true then unN key op v1 == unN key op v1 else Bool.false;
 bif v15 then
 let v16 : Bool := bif Bool.true then unE key op v1 == unE key op v1 else Bool.false;
 bif v16 then
 let v17 : Bool := bif Bool.true then Bool.true else Bool.false;
 k [DV.v (SV.one (At.bool v17))]
 else k [DV.v (SV.one (At.bool Bool.false))]
 else k [DV.v (SV.one (At.bool Bool.false))]
 else k [DV.v (SV.one (At.bool Bool.false))]
 else Option.none
 else k [DV.v (SV.one (At.bool Bool.false))]
 else k [DV.v (SV.one (At.bool Bool.false))]
 else Option.none
 else Option.none
 else Option.none
 else Option.none
 else Option.none
 else Option.none
 else Option.none
 else
 bif loOk (Option.some 12) (hiInt Option.none (rowLen 1 v1)) then
 let v18 : List Int := Go.Eng.sub v1 (plusO Off.z 1 (Option.some 12)) (mulE (Go.Eng.subN (hiNat Option.none (rowLen 1 v1)) (Option.some 12)) 1);
 bif okAB op v18 then
 bif loOk (Option.some 12) (hiInt Option.none (rowLen 1 v1)) then
 bif okT key nonce op v18 then
 bif okUn op v1 then
 bif okU3 key op v1 then
 bif (openT key nonce op v18).length.ble lim then
 bif Decidable.decide (openT key nonce op v18 = openT key nonce op v18) then
 let v19 : Bool := bif Bool.true then openE key nonce op v18 == openE key nonce op v18 else Bool.false;
 bif v19 then
 bif (unT key op v1).length.ble lim then
 let v20 : Bool := bif Bool.true then Decidable.decide (unT key op v1 = unT key op v1) else Bool.false;
 bif v20 then
 let v21 : Bool := bif Bool.true then unN key op v1 == unN key op v1 else Bool.false;
 bif v21 then
 let v22 : Bool := bif Bool.true then unE key op v1 == unE key op v1 else Bool.false;
 bif v22 then
 let v23 : Bool := bif Bool.true then Bool.true else Bool.false;
 k [DV.v (SV.one (At.bool v23))]
 else k [DV.v (SV.one (At.bool Bool.false))]
 else k [DV.v (SV.one (At.bool Bool.false))]
 else k [DV.v (SV.one (At.bool Bool.false))]
 else Option.none
 else k [DV.v (SV.one (At.bool Bool.false))]
 else k [DV.v (SV.one (At.bool Bool.false))]
 else Option.none
 else Option.none
 else Option.none
 else Option.none
 else Option.none
 else Option.none
 else Option.none
 else
 bif loOk (Option.some 12) (hiInt Option.none (rowLen 1 v1)) then
 let v24 : List Int := Go.Eng.sub v1 (plusO Off.z 1 (Option.some 12)) (mulE (Go.Eng.subN (hiNat Option.none (rowLen 1 v1)) (Option.some 12)) 1);
 bif okAB op v24 then
 bif loOk (Option.some 12) (hiInt Option.none (rowLen 1 v1)) then
 bif okT key nonce op v24 then
 bif okUn op v1 then
 bif okU3 key op v1 then
 bif (openT key nonce op v24).length.ble lim then
 bif Decidable.decide (openT key nonce op v24 = openT key nonce op v24) then
 let v25 : Bool := bif Bool.true then openE key nonce op v24 == openE key nonce op v24 else Bool.false;
 bif v25 then
 bif (unT key op v1).length.ble lim then
 let v26 : Bool := bif Bool.true then Decidable.decide (unT key op v1 = unT key op v1) else Bool.false;
 bif v26 then
 let v27 : Bool := bif Bool.true then unN key op v1 == unN key op v1 else Bool.false;
 bif v27 then
 let v28 : Bool := bif Bool.true then unE key op v1 == unE key op v1 else Bool.false;
 bif v28 then
 let v29 : Bool := bif Bool.true then Bool.true else Bool.false;
 k [DV.v (SV.one (At.bool v29))]
 else k [DV.v (SV.one (At.bool Bool.false))]
 else k [DV.v (SV.one (At.bool Bool.false))]
 else k [DV.v (SV.one (At.bool Bool.false))]
 else Option.none
 else k [DV.v (SV.one (At.bool Bool.false))]
 else k [DV.v (SV.one (At.bool Bool.false))]
 else Option.none
 else Option.none
 else Option.none
 else Option.none
 else Option.none
 else Option.none
 else Option.none
 else Option.none
 else Option.none
else Option.none


noncomputable def E10 (N : Nat) : Env := { Θ := Th2, Γ := QO0, K := K10, ν := N10, fuel := 0, lp := [] }


theorem f10_loops (N : Nat) (hΓ : CtxOk Try.prog QO0) : LoopsOk Try.prog (E10 N).lp B10 := loopsOk_of (l := []) (by kernel_rfl) trivial
theorem f10_raw_eq {R : Type} (N : Nat) (key : List Int) (nonce : List Int) (op : List Int) (text : List Int) (other : List Int) (at_ : Int) (by_ : Int) (k : List DV → Option R) : exec (E10 N) B10 (caseS 128 key nonce op text other at_ by_) (retK Th2 { ps := [], rs := [.val] } [] R10 k) = f10_raw N key nonce op text other at_ by_ k := by kernel_rfl
end Go.Proofs.Ytiaddnmloonhgaa

/- What rime/rimelaw12.SealUnboxes comes to. MADE BY PROGRAM (wip/tools/mkfn.py, EngGen.lean). -/
namespace Go.Proofs.Ytiaddnmloonhgaa
open Go Go.Eng
set_option maxRecDepth 100000
set_option linter.unusedVariables false

noncomputable def f11_raw {R : Type} (N : Nat) (key : List Int) (a : List Int) (b : List Int) (k : List DV → Option R) : Option R :=
 let v0 : Int := IntKind.i64.wrap (nI (rowLen 1 a) + 3);
bif Decidable.decide (0 ≤ v0) && (Decidable.decide (v0 ≤ v0) && (Decidable.decide (v0 ≤ 281474976710656) && Decidable.decide (v0 * 1 ≤ 281474976710656))) then
 bif Decidable.decide (0 = 0) && (zerosOf (mulE v0.toNat 1)).length.ble limG then
 bif Decidable.decide (0 = 0) && (a.length.ble limG && a.length.ble (marksG (zerosOf (mulE v0.toNat 1)).length).length) then
 bif (overG a (marksG (zerosOf (mulE v0.toNat 1)).length)).length.ble lim then
 bif hiOk (Option.some (nI (rowLen 1 a))) (rowLen 1 (overG a (marksG (zerosOf (mulE v0.toNat 1)).length))) then
 let v1 : Int := IntKind.i64.wrap (nI (rowLen 1 b) + 3);
 bif Decidable.decide (0 ≤ v1) && (Decidable.decide (v1 ≤ v1) && (Decidable.decide (v1 ≤ 281474976710656) && Decidable.decide (v1 * 1 ≤ 281474976710656))) then
 bif Decidable.decide (0 = 0) && (zerosOf (mulE v1.toNat 1)).length.ble limG then
 bif Decidable.decide (0 = 0) && (b.length.ble limG && b.length.ble (marksG (zerosOf (mulE v1.toNat 1)).length).length) then
 bif (overG b (marksG (zerosOf (mulE v1.toNat 1)).length)).length.ble lim then
 bif hiOk (Option.some (nI (rowLen 1 b))) (rowLen 1 (overG b (marksG (zerosOf (mulE v1.toNat 1)).length))) then
 let v2 : List Int := Go.Eng.sub (overG a (marksG (zerosOf (mulE v0.toNat 1)).length)) (plusO Off.z 1 Option.none) (mulE (Go.Eng.subN (hiNat (Option.some (nI (rowLen 1 a))) (rowLen 1 (overG a (marksG (zerosOf (mulE v0.toNat 1)).length)))) Option.none) 1);
 let v3 : List Int := Go.Eng.sub (overG b (marksG (zerosOf (mulE v1.toNat 1)).length)) (plusO Off.z 1 Option.none) (mulE (Go.Eng.subN (hiNat (Option.some (nI (rowLen 1 b))) (rowLen 1 (overG b (marksG (zerosOf (mulE v1.toNat 1)).length)))) Option.none) 1);
 bif okUn v2 v3 then
 bif okU3 key a b then
 bif (unT key v2 v3).length.ble lim then
 bif Decidable.decide (unT key v2 v3 = unT key a b) then
 let v4 : Bool := bif Bool.true then unN key v2 v3 == unN key a b else Bool.false;
 bif v4 then
 let v5 : Bool := bif Bool.true then unE key v2 v3 == unE key a b else Bool.false;
 bif v5 then
 bif (overG a (marksG (zerosOf (mulE v0.toNat 1)).length)).length.ble lim then
 bif !Decidable.decide (overG a (marksG (zerosOf (mulE v0.toNat 1)).length) = overG a (marksG (zerosOf (mulE v0.toNat 1)).length)) then Option.none
 else
 bif (overG b (marksG (zerosOf (mulE v1.toNat 1)).length)).length.ble lim then
 bif !Decidable.decide (overG b (marksG (zerosOf (mulE v1.toNat 1)).length) = overG b (marksG (zerosOf (mulE v1.toNat 1)).length)) then Option.none
 else
 let v6 : Bool := bif Bool.true then Bool.true else Bool.false;
 k [DV.v (SV.one (At.bool v6))]
 else Option.none
 else Option.none
 else Option.none
 else Option.none
 else Option.none
 else Option.none
 else Option.none
 else Option.none
 else Option.none
 else Option.none
 else Option.none
 else Option.none
 else Option.none
 else Option.none
 else Option.none
 else Option.none
 else Option.none
else Option.none


noncomputable def E11 (N : Nat) : Env := { Θ := Th2, Γ := QU, K := K11, ν := N11, fuel := 0, lp := [] }


theorem f11_loops (N : Nat) (hΓ : CtxOk Try.prog QU) : LoopsOk Try.prog (E11 N).lp B11 := loopsOk_of (l := []) (by kernel_rfl) trivial
theorem f11_raw_eq {R : Type} (N : Nat) (key : List Int) (a : List Int) (b : List Int) (k : List DV → Option R) : exec (E11 N) B11 (start11s 52 key a b) (retK Th2 { ps := [], rs := [.val] } [] R11 k) = f11_raw N key a b k := by kernel_rfl
end Go.Proofs.Ytiaddnmloonhgaa

/- SealUnboxes: what is compared is the same. -/
namespace Go.Proofs.Ytiaddnmloonhgaa
open Go Go.Eng
set_option maxRecDepth 100000
theorem lim_bleU {n : Nat} (h : n ≤ 1048700) : n.ble lim = true := Nat.ble_eq_true_of_le (by unfold lim; omega)
theorem unT_len (key a b : List Int) : (unT key a b).length ≤ b.length := by
  rw [unT_def]
  unfold unboxL
  split
  · exact Nat.zero_le _
  · split
    · split
      · show (openT key (b.take 12) a (b.drop 12)).length ≤ _
        rw [openT_def]
        unfold openL
        split
        · exact Nat.zero_le _
        · split
          · rw [show (streamL key 1 (b.take 12) ((b.drop 12).take ((b.drop 12).length - 16))).length = ((b.drop 12).take ((b.drop 12).length - 16)).length from maskL_len _ _, List.length_take, List.length_drop]; omega
          · exact Nat.zero_le _
      · exact Nat.zero_le _
    · exact Nat.zero_le _
theorem f11_true (N : Nat) {key a b : List Int} (hT : okU3 key a b = true) (hU : okUn a b = true) (la : a.length ≤ 1048576) (lb : b.length ≤ 1048576) : f11_raw N key a b some = some [.v (.one (.bool true))] := by
  have h2 := unT_len key a b
  have s2 : (unT key a b).length.ble lim = true := lim_bleU (by omega)
  unfold f11_raw
  dsimp only
  simp only [given_wrap la, given_make la, given_wrap lb, given_make lb, given_len, marksG_length, overG_given, given_hi, given_sub, givenG_length,
    given_lim (show a.length ≤ 1048579 by omega), given_lim (show a.length + 3 ≤ 1048579 by omega), lim_bleU (show a.length ≤ 1048700 by omega), lim_bleU (show a.length + 3 ≤ 1048700 by omega),
    given_lim (show b.length ≤ 1048579 by omega), given_lim (show b.length + 3 ≤ 1048579 by omega), lim_bleU (show b.length ≤ 1048700 by omega), lim_bleU (show b.length + 3 ≤ 1048700 by omega),
    hT, hU, s2, cond_true, cond_false, Bool.and_self, decide_true, Bool.true_and, beq_self_eq_true, Bool.not_true, show a.length.ble (a.length + 3) = true from Nat.ble_eq_true_of_le (by omega), show b.length.ble (b.length + 3) = true from Nat.ble_eq_true_of_le (by omega)]
theorem okU3_row {key a b : List Int} (hk : okN 32 key = true) (la : a.length ≤ 1048576) (lb : b.length ≤ 1048576) (ha : Bytes a) (hb : Bytes b) : okU3 key a b = true := by
  rw [okU3_def, hk, okY_mk (n := limT) (by unfold limT; omega) ha, okY_mk (n := limT) (by unfold limT; omega) hb]; rfl
theorem okUn_row {a b : List Int} (la : a.length ≤ 1048576) (lb : b.length ≤ 1048576) : okUn a b = true := by
  rw [okUn_def, show Nat.ble a.length limT = true from Nat.ble_eq_true_of_le (by unfold limT; omega), show Nat.ble b.length limT = true from Nat.ble_eq_true_of_le (by unfold limT; omega)]; rfl
end Go.Proofs.Ytiaddnmloonhgaa

/- SealOpens: what is compared is the same. -/
namespace Go.Proofs.Ytiaddnmloonhgaa
open Go Go.Eng
set_option maxRecDepth 100000
theorem seal_bytes (key nonce a b : List Int) : Bytes (sealL key nonce a b) := by
  rw [sealL_eq]
  intro x hx
  rcases List.mem_append.1 hx with h | h
  · exact stream_bytes _ _ _ _ x h
  · exact tag_bytes _ _ _ _ x h
theorem openT_len (key nonce a b : List Int) : (openT key nonce a b).length ≤ b.length := by
  rw [openT_def]
  unfold openL
  split
  · exact Nat.zero_le _
  · split
    · rw [streamL_length, List.length_take]; omega
    · exact Nat.zero_le _
theorem okAB_row {a b : List Int} (la : a.length ≤ 1048700) (lb : b.length ≤ 1048700) : okAB a b = true := by
  rw [okAB_def, show Nat.ble a.length lim5 = true from Nat.ble_eq_true_of_le (by unfold lim5; omega), show Nat.ble b.length lim5 = true from Nat.ble_eq_true_of_le (by unfold lim5; omega)]; rfl
theorem okT_row' {key nonce a b : List Int} (hk : okN 32 key = true) (hn : okN 12 nonce = true) (la : a.length ≤ 1048700) (lb : b.length ≤ 1048700) (ha : Bytes a) (hb : Bytes b) : okT key nonce a b = true := by
  rw [okT_def, hk, hn, okY_mk (n := limT) (by unfold limT; omega) ha, okY_mk (n := limT) (by unfold limT; omega) hb]; rfl
theorem okU3_row' {key a b : List Int} (hk : okN 32 key = true) (la : a.length ≤ 1048700) (lb : b.length ≤ 1048700) (ha : Bytes a) (hb : Bytes b) : okU3 key a b = true := by
  rw [okU3_def, hk, okY_mk (n := limT) (by unfold limT; omega) ha, okY_mk (n := limT) (by unfold limT; omega) hb]; rfl
theorem okUn_row' {a b : List Int} (la : a.length ≤ 1048700) (lb : b.length ≤ 1048700) : okUn a b = true := by
  rw [okUn_def, show Nat.ble a.length limT = true from Nat.ble_eq_true_of_le (by unfold limT; omega), show Nat.ble b.length limT = true from Nat.ble_eq_true_of_le (by unfold limT; omega)]; rfl
/-- what is asked behind the box -/
theorem f10_tail {R : Type} {key nonce op w : List Int} (k : List DV → Option R) (hk : okN 32 key = true) (hn : okN 12 nonce = true) (lo : op.length ≤ 1048576) (ho : Bytes op) (hw : Bytes w) (l28 : 12 ≤ w.length) (lw : w.length ≤ 1048700) :
    (bif loOk (Option.some 12) (hiInt Option.none (rowLen 1 w)) then
 let v6 : List Int := Go.Eng.sub w (plusO Off.z 1 (Option.some 12)) (mulE (Go.Eng.subN (hiNat Option.none (rowLen 1 w)) (Option.some 12)) 1);
 bif okAB op v6 then
 bif loOk (Option.some 12) (hiInt Option.none (rowLen 1 w)) then
 bif okT key nonce op v6 then
 bif okUn op w then
 bif okU3 key op w then
 bif (openT key nonce op v6).length.ble lim then
 bif Decidable.decide (openT key nonce op v6 = openT key nonce op v6) then
 let v7 : Bool := bif Bool.true then openE key nonce op v6 == openE key nonce op v6 else Bool.false;
 bif v7 then
 bif (unT key op w).length.ble lim then
 let v8 : Bool := bif Bool.true then Decidable.decide (unT key op w = unT key op w) else Bool.false;
 bif v8 then
 let v9 : Bool := bif Bool.true then unN key op w == unN key op w else Bool.false;
 bif v9 then
 let v10 : Bool := bif Bool.true then unE key op w == unE key op w else Bool.false;
 bif v10 then
 let v11 : Bool := bif Bool.true then Bool.true else Bool.false;
 k [DV.v (SV.one (At.bool v11))]
 else k [DV.v (SV.one (At.bool Bool.false))]
 else k [DV.v (SV.one (At.bool Bool.false))]
 else k [DV.v (SV.one (At.bool Bool.false))]
 else Option.none
 else k [DV.v (SV.one (At.bool Bool.false))]
 else k [DV.v (SV.one (At.bool Bool.false))]
 else Option.none
 else Option.none
 else Option.none
 else Option.none
 else Option.none
 else Option.none
 else Option.none) = k [.v (.one (.bool true))] := by
  have hs : Go.Eng.sub w (plusO Off.z 1 (Option.some 12)) (mulE (Go.Eng.subN (hiNat Option.none (rowLen 1 w)) (Option.some 12)) 1) = w.drop 12 := by
    show (w.drop 12).take (w.length - 12) = w.drop 12
    exact List.take_of_length_le (by rw [List.length_drop]; omega)
  have l12 : loOk (some 12) (hiInt none (rowLen 1 w)) = true := loOk_nat (n := 12) (by show ((12 : Nat) : Int) ≤ (w.length : Int); omega)
  have ld : (w.drop 12).length ≤ 1048700 := by rw [List.length_drop]; omega
  have bd : Bytes (w.drop 12) := fun x hx => hw x (List.mem_of_mem_drop hx)
  have h1 := openT_len key nonce op (w.drop 12)
  have h2 := unT_len key op w
  dsimp only
  rw [hs, l12, okAB_row (by omega) ld, okT_row' hk hn (by omega) ld ho bd, okUn_row' (by omega) lw, okU3_row' hk (by omega) lw ho hw, lim_bleU (show (openT key nonce op (w.drop 12)).length ≤ 1048700 by omega), lim_bleU (show (unT key op w).length ≤ 1048700 by omega)]
  simp only [cond_true, decide_true, beq_self_eq_true]
theorem f10_true (N : Nat) {key nonce op text other : List Int} {at_ by_ : Int} (hk : okN 32 key = true) (hn : okN 12 nonce = true) (lo : op.length ≤ 1048576) (lt : text.length ≤ 1048576) (ho : Bytes op) (ht : Bytes text) :
    f10_raw N key nonce op text other at_ by_ some = some [.v (.one (.bool true))] := by
  have ln : nonce.length = 12 := (okN_of hn).1
  have hs : Go.Eng.sub nonce (plusO Off.z 1 Option.none) (mulE (Go.Eng.subN (hiNat Option.none 12) Option.none) 1) = nonce := by
    show nonce.take 12 = nonce
    exact List.take_of_length_le (by omega)
  have lS := sealL_length key nonce op text
  have lw : (nonce ++ sealL key nonce op text).length = text.length + 28 := by rw [List.length_append, ln, lS]; omega
  have bw : Bytes (nonce ++ sealL key nonce op text) := by
    intro x hx
    rcases List.mem_append.1 hx with h | h
    · exact (okN_of hn).2 x h
    · exact seal_bytes _ _ _ _ x h
  have b1 : (rowLen 1 nonce * 1).ble big48 = true := Nat.ble_eq_true_of_le (by show nonce.length * 1 ≤ _; rw [ln]; decide)
  have b2 : (rowLen 1 nonce).ble big48 = true := Nat.ble_eq_true_of_le (by show nonce.length ≤ _; rw [ln]; decide)
  have b3 : ((2 * (rowLen 1 nonce + rowLen 1 (sealL key nonce op text)) + 192) * 1).ble big48 = true := Nat.ble_eq_true_of_le (by show (2 * (nonce.length + (sealL key nonce op text).length) + 192) * 1 ≤ 281474976710656; omega)
  have b4 : (rowLen 1 nonce + rowLen 1 (sealL key nonce op text)).ble big48 = true := Nat.ble_eq_true_of_le (by show nonce.length + (sealL key nonce op text).length ≤ 281474976710656; omega)
  unfold f10_raw
  rw [okT_row' hk hn (by omega) (by omega) ho ht, cond_true]
  dsimp only
  rw [hs, b1, b2, b3, b4]
  simp only [Bool.and_self, cond_true]
  rw [show decide (nI (rowLen 1 (nonce ++ sealL key nonce op text)) > 0) = true from decide_eq_true (by show (((nonce ++ sealL key nonce op text).length : Nat) : Int) > 0; omega), cond_true]
  have el : nI (rowLen 1 (nonce ++ sealL key nonce op text)) = ((text.length + 28 : Nat) : Int) := by
    show (((nonce ++ sealL key nonce op text).length : Nat) : Int) = _
    rw [lw]
  have tl := f10_tail (w := nonce ++ sealL key nonce op text) some hk hn lo ho bw (by omega) (by omega)
  have bset : Bytes ((nonce ++ sealL key nonce op text).set (mulE at_.toNat 1) (xorI IntKind.u8 ((nonce ++ sealL key nonce op text).getD (mulE at_.toNat 1) 0) by_)) := by
    intro x hx
    rcases List.mem_or_eq_of_mem_set hx with h | h
    · exact bw x h
    · rw [h]; exact xor8_byte _ _
  have tl2 := f10_tail (w := (nonce ++ sealL key nonce op text).set (mulE at_.toNat 1) (xorI IntKind.u8 ((nonce ++ sealL key nonce op text).getD (mulE at_.toNat 1) 0) by_)) some hk hn lo ho bset (by rw [List.length_set]; omega) (by rw [List.length_set]; omega)
  dsimp only at tl tl2
  by_cases h0 : (0 : Int) ≤ at_
  · rw [show decide (at_ ≥ 0) = true from decide_eq_true h0, cond_true]
    by_cases h1 : at_ < ((text.length + 28 : Nat) : Int)
    · rw [el, decide_eq_true h1]
      simp only [cond_true, Bool.and_self] at tl2 ⊢
      exact tl2
    · rw [el, decide_eq_false h1]
      simp only [cond_false, cond_true] at tl ⊢
      exact tl
  · rw [show decide (at_ ≥ 0) = false from decide_eq_false h0]
    simp only [cond_false, cond_true] at tl ⊢
    exact tl
end Go.Proofs.Ytiaddnmloonhgaa

/- SealOpens, for every case of bulk at most 1048576: what the document seals, with one byte turned, opens as the document says; as a box, too. -/
namespace Go.Proofs.Ytiaddnmloonhgaa
open Go Go.Eng Go.ChangeShapes Go.WideShapes Go.RowKit Go.ChangeAt
set_option maxRecDepth 100000

theorem contract10 (H : Type) (enc : TypeId × Value → H) (W : World) (base : Nat) (args : Array Value) (ds gs : List (DataW H)) (before : List MemPlace)
    (hval : ∀ (j : Nat) t v, Try.f10.params[j]? = some t → args[j]? = some v → Value.okWide Try.prog W .any base t v)
    (hW : DataW.Whole enc Try.prog Try.f10.params.toList Rows.sealOpensSpec.vars false W args.toList ds gs before) (hk : Rows.uptoSmall H (ds ++ gs) = true) :
    Calls Try.prog 10 args W fun e W' => ∃ v, e = .returned v ∧ Rows.sealOpensSpec.post enc Try.prog Try.f10 false true false false W args v W' := by
  have hW' := hW
  obtain ⟨p, q, hA, hV, rfl, hfz, hnd⟩ := hW
  obtain ⟨rfl, rfl⟩ := trodVars_none hV
  rw [Try.params10] at hA hval
  obtain ⟨v0, vs0, d0, ds0, p0, q0, hargs, rfl, rfl, h0, r0⟩ := trodAll_cons hA
  obtain ⟨rfl, rfl, rfl⟩ := trodAll_nil r0
  obtain rfl : args = #[v0] := by cases args; simp_all
  have hb := bulk_bound hk
  simp only [List.append_nil, Rows.uptoBulkAll, Nat.add_zero] at hb
  obtain ⟨key, nonce, op, text, other, at_, by_, ρ, hc⟩ := case_open (hval 0 66 v0 rfl rfl) h0 hb
  obtain ⟨lk, ln, b1, b2, b3, bk, bn, bo, bt, _, _, _, hs⟩ := hc 128
  have he := f10_true 0 (other := other) (at_ := at_) (by_ := by_) (okN_mk lk bk) (okN_mk ln bn) b1 b2 bo bt
  rw [← f10_raw_eq] at he
  refine (law_calls thOk2 QO0_ok mixed ok10 (f10_loops 0 QO0_ok) (fun _ => id) (hs (by omega)) he).mono fun e W' ⟨h1, h2, h3, h4⟩ => ?_
  exact ⟨_, h1, post_of_law laidOut (by kernel_rfl) Try.underlying4 rfl (by rw [Try.params10]; intro t ht; simp at ht; subst ht; exact ⟨by kernel_rfl, by decide +kernel⟩) ⟨rfl, rfl, rfl⟩ hW' h2 h3 h4⟩

def wCase1 : Value := .agg (Array.mk ((List.replicate 44 (Value.int .u8 0)) ++ [Value.slice none 0 0, Value.slice none 0 0, Value.slice none 0 0, Value.int .i64 0, Value.int .u8 0]))
def wCaseE (H : Type) : DataW H := .agg [.agg (List.replicate 32 (.lit (.int .u8 0))), .agg (List.replicate 12 (.lit (.int .u8 0))), .nil, .nil, .nil, .lit (.int .i64 0), .lit (.int .u8 0)]

theorem lifted10 (os : Os) (started : os.Started) (H : Type) (enc : TypeId × Value → H) (F : Stop.Interp) :
    ReturnsInHanded {} Try.checked os 10 .any ((Rows.OpenSpec.upto Rows.sealOpensSpec).pre6 enc Try.prog Try.f10 Rows.sealOpensUptoRow.domain false) (((Rows.OpenSpec.upto Rows.sealOpensSpec).at F).post enc Try.prog Try.f10 false true false false) := by
  refine returnsInHanded_of_cond (C := Try.checked) (s := Rows.OpenSpec.upto Rows.sealOpensSpec) (k := Rows.uptoSmall) rfl own0 started (by kernel_rfl) Try.func10
    (OpenSpec.witness (enc := enc) (C := Try.checked) (s := Rows.OpenSpec.upto Rows.sealOpensSpec) (k := Rows.uptoSmall) rfl false ⟨#[], #[wCase1], []⟩ 8 (by kernel_rfl) (by kernel_rfl) (by kernel_rfl)
      (x := ([wCaseE H], [], [])) (by kernel_rfl) rfl (by kernel_rfl)) ?_
  intro W base args ds gs before hval hW _ hk _
  exact contract10 H enc W base args ds gs before hval hW hk

theorem over10 : Rows.sealOpensUptoRow.holds Try.pinned (Rows.OpenSpec.upto Rows.sealOpensSpec) :=
  OpenClaim.holds_of_cond 10 Try.f10 rfl rfl rfl rfl rfl rfl rfl ⟨rfl, rfl, rfl, rfl, rfl⟩ rfl rfl rfl rfl rfl (by kernel_rfl) Try.func10 (by kernel_rfl)
    (of_decide_eq_true (by kernel_rfl)) (by unfold Func.isWrapper; first | (rw [if_pos (by decide +kernel)]; kernel_rfl) | (rw [if_neg (by decide +kernel)]; exact ⟨rfl, rfl⟩))
    (fun os started H enc _ F => lifted10 os started H enc F)

theorem sealOpens_holds : Rows.SealOpensUptoSaid := over10
end Go.Proofs.Ytiaddnmloonhgaa

#print axioms Go.Proofs.Ytiaddnmloonhgaa.sealOpens_holds
