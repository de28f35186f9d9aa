/- A part of the proof: SealOpens, for every case of bulk at most 1,048,576: what the document seals, with one byte turned, opens as the document says; as a box, too. -/
import Derived.Test.YtiaddnmloonhgaaSealOpensUptoSaidT3
set_option linter.unusedVariables false
set_option linter.unusedSimpArgs false

/- The document's block: its contract. -/
namespace Go.Proofs.Ytiaddnmloonhgaa
open Go Go.Eng
set_option maxRecDepth 100000

theorem wrapU32_rng (z : Int) : 0 ≤ IntKind.u32.wrap z ∧ IntKind.u32.wrap z < 4294967296 := by
  unfold IntKind.wrap
  simp only [IntKind.bits, IntKind.signed, Bool.false_and]
  have h1 : 0 ≤ z % 4294967296 := Int.emod_nonneg _ (by decide)
  have h2 : z % 4294967296 < 4294967296 := Int.emod_lt_of_pos _ (by decide)
  exact ⟨h1, h2⟩
theorem outB_eq (z : Int) {m : Nat} (hm : m ≤ 24) : IntKind.u8.wrap (shrI .u64 (IntKind.u64.wrap (IntKind.u32.wrap z)) (m : Int)) = IntKind.u8.wrap (shrI .u32 (IntKind.u32.wrap z) (m : Int)) := by
  obtain ⟨h1, h2⟩ := wrapU32_rng z
  obtain ⟨v, hv⟩ : ∃ v : Nat, IntKind.u32.wrap z = v := ⟨(IntKind.u32.wrap z).toNat, by omega⟩
  rw [hv] at h2 ⊢
  rw [w64 (n := v) (by omega), shrN (k := .u64) (m := m) (by show m ≤ 64; omega), shrN (k := .u32) (m := m) (by show m ≤ 32; omega)]
theorem outL_ref (t s : List Int) : outL t s = (List.range 64).map (outB t s) := by
  rw [outL_raw]
  apply List.map_congr_left
  intro i _
  exact outB_eq _ (by omega)
theorem fillG_all (f : Nat → Int) (xs : List Int) : fillG f xs.length xs = (List.range xs.length).map f := by
  unfold fillG
  apply List.ext_getElem?
  intro i
  rw [List.getElem?_mapIdx, List.getElem?_map]
  by_cases h : i < xs.length
  · rw [List.getElem?_eq_getElem h, List.getElem?_range h]; simp [h]
  · rw [List.getElem?_eq_none (by omega), List.getElem?_eq_none (by simp; omega)]; rfl

theorem out_loop19 {R : Type} {N : Nat} (k1 : Bool → Int → List Int → List Int → List Int → List Int → Option R) {t s : List Int} (ht : t.length = 16) (hs : s.length = 16) (x3 : List Int) :
    ∀ (m i : Nat), i + m = 64 → ∀ fuel, m < fuel → f19_6_lp N k1 fuel (i : Int) s x3 (fillG (outB t s) i (List.replicate 64 0)) t = k1 false 64 s x3 ((List.range 64).map (outB t s)) t := by
  intro m
  induction m with
  | zero =>
    intro i h fuel hf
    obtain ⟨f, rfl⟩ : ∃ f, fuel = f + 1 := ⟨fuel - 1, by omega⟩
    have : i = 64 := by omega
    subst this
    have e := fillG_all (outB t s) (List.replicate 64 0)
    rw [List.length_replicate] at e
    rw [e]
    rfl
  | succ m ih =>
    intro i h fuel hf
    obtain ⟨f, rfl⟩ : ∃ f, fuel = f + 1 := ⟨fuel - 1, by omega⟩
    show f19_6_st N (f19_6_lp N k1 f) k1 _ _ _ _ _ = _
    unfold f19_6_st
    have hi : i < 64 := by omega
    have q : i / 4 < 16 := by omega
    have e1 : IntKind.i64.wrap ((i : Int).tdiv 4) = ((i / 4 : Nat) : Int) := by
      rw [show (i : Int).tdiv 4 = ((i / 4 : Nat) : Int) from rfl]; exact wrapI rfl (by omega)
    have e2 : IntKind.i64.wrap (8 * (i : Int).tmod 4) = ((8 * (i % 4) : Nat) : Int) := by
      rw [show (i : Int).tmod 4 = ((i % 4 : Nat) : Int) from rfl]; exact wrapI (by omega) (by omega)
    have e3 : IntKind.u64.wrap ((8 * (i % 4) : Nat) : Int) = ((8 * (i % 4) : Nat) : Int) := w64 (by omega)
    have e4 : IntKind.i64.wrap ((i : Int) + 1) = ((i + 1 : Nat) : Int) := wrapI (by omega) (by omega)
    have l1 : nI (rowLen 1 t) = 16 := by show ((t.length : Nat) : Int) = 16; rw [ht]; rfl
    have l2 : nI (rowLen 1 s) = 16 := by show ((s.length : Nat) : Int) = 16; rw [hs]; rfl
    rw [decide_eq_true (show (i : Int) < 64 by omega), cond_true]
    dsimp only
    rw [e1, e2, e3, e4, l1, l2, decide_eq_true (show (0 : Int) ≤ ((i / 4 : Nat) : Int) by omega), decide_eq_true (show ((i / 4 : Nat) : Int) < 16 by omega), decide_eq_true (show (0 : Int) ≤ ((8 * (i % 4) : Nat) : Int) by omega), decide_eq_true (show (0 : Int) ≤ (i : Int) by omega)]
    simp only [Bool.and_self, cond_true, mulE_one, Int.toNat_natCast]
    rw [show (fillG (outB t s) i (List.replicate 64 0)).set i (IntKind.u8.wrap (shrI IntKind.u32 (IntKind.u32.wrap (t.getD (i / 4) 0 + s.getD (i / 4) 0)) ((8 * (i % 4) : Nat) : Int))) = fillG (outB t s) (i + 1) (List.replicate 64 0) from fillG_set (outB t s)]
    exact ih (i + 1) (by omega) f (by omega)

theorem f19_spec {R : Type} {key nonce : List Int} (ctr : Int) (hk : Bytes key) (hkl : key.length = 32) (hn : Bytes nonce) (hnl : nonce.length = 12) (k : List DV → Option R) : f19_raw 65 key ctr nonce k = k [.v (.one (.ints .u8 64 (blockL key ctr nonce)))] := by
  unfold f19_raw
  refine (key_loop19 (N := 65) _ ctr hkl nonce (List.replicate 64 0) 8 0 _ rfl rfl 65 (by omega)).trans ?_
  dsimp only
  rw [show ((((zerosOf (4 * 1)).set 0 1634760805).set 1 857760878).set 2 2036477234).set 3 1797285236 = [1634760805, 857760878, 2036477234, 1797285236] from rfl]
  rw [one_set, show rowLen 1 ([1634760805, 857760878, 2036477234, 1797285236] ++ (List.range' 0 8).map fun i => lowU ((key.drop (4 * i)).take 4)) + rowLen 1 [ctr] = 13 from by simp [rowLen_one], app_big (by omega), cond_true]
  refine (nonce_loop19 (N := 65) _ hnl (List.replicate 64 0) 3 0 _ rfl (by simp) 65 (by omega)).trans ?_
  have hf : (([1634760805, 857760878, 2036477234, 1797285236] ++ (List.range' 0 8).map fun i => lowU ((key.drop (4 * i)).take 4)) ++ [ctr]) ++ ((List.range' 0 3).map fun i => lowU ((nonce.drop (4 * i)).take 4)) = startL key ctr nonce := by
    rw [← first_eq hk hkl hn hnl]
    unfold firstL
    rw [List.range_eq_range', List.range_eq_range']
  rw [hf]
  have hs := start_len key ctr nonce
  generalize hS : startL key ctr nonce = S at hs
  have h0 : splice (zerosOf (mulE (Int.toNat 16) 1)) Off.z (List.take (mulE (min (rowLen 1 S) (rowLen 1 (zerosOf (mulE (Int.toNat 16) 1)))) 1) S) = S := by
    have e : List.take (mulE (min (rowLen 1 S) (rowLen 1 (zerosOf (mulE (Int.toNat 16) 1)))) 1) S = S := by
      show List.take (min S.length 16) S = S
      rw [hs]; exact List.take_of_length_le (by omega)
    rw [e]
    show S ++ (zerosOf 16).drop S.length = S
    rw [hs]; exact List.append_nil S
  rw [h0]
  refine (rounds_loop19 (N := 65) _ _ _ 10 0 S rfl hs 65 (by omega)).trans ?_
  have := out_loop19 (N := 65) (fun w11_1 w11_2 w11_3 w11_4 w11_5 w11_6 => k [DV.v (SV.one (At.ints IntKind.u8 64 w11_5))]) (t := roundsGo 10 S) (s := S) (by rw [rounds_len]; exact hs) hs (List.replicate 64 0) 64 0 (by omega) 65 (by omega)
  rw [fillG_zero] at this
  refine this.trans ?_
  unfold blockL
  rw [hS, outL_ref]

def okN (n : Nat) (x : List Int) : Bool := Nat.beq x.length n && x.all fun b => decide (0 ≤ b) && decide (b < 256)
theorem okN_of {n : Nat} {x : List Int} (h : okN n x = true) : x.length = n ∧ Bytes x := by
  unfold okN at h
  rw [Bool.and_eq_true, List.all_eq_true] at h
  refine ⟨Nat.eq_of_beq_eq_true h.1, fun b hb => ?_⟩
  have := h.2 b hb
  rw [Bool.and_eq_true] at this
  exact ⟨of_decide_eq_true this.1, of_decide_eq_true this.2⟩
theorem okN_mk {n : Nat} {x : List Int} (hl : x.length = n) (h : Bytes x) : okN n x = true := by
  unfold okN
  rw [hl, show Nat.beq n n = true from Nat.beq_refl n, Bool.true_and, List.all_eq_true]
  intro b hb
  rw [Bool.and_eq_true]
  exact ⟨decide_eq_true (h b hb).1, decide_eq_true (h b hb).2⟩
def I19 : (R : Type) → List DV → (List DV → Option R) → Option R := fun _ ds k => match ds with
  | [.v (.one (.ints .u8 32 key)), .v (.one (.int .u32 ctr)), .v (.one (.ints .u8 12 nonce))] => cond (okN 32 key && okN 12 nonce) (k [.v (.one (.ints .u8 64 (blockL key ctr nonce)))]) none
  | _ => none
theorem c19 : Contract Try.prog 19 { sig := S19, impl := I19 } := by
  refine Contract.refine fun R ds k r h => ⟨_, f19_contract 65 Q19_ok, ?_⟩
  unfold I19 at h
  split at h
  · rename_i key ctr nonce
    cases hc : okN 32 key && okN 12 nonce with
    | true =>
      rw [hc] at h
      rw [Bool.and_eq_true] at hc
      obtain ⟨a1, a2⟩ := okN_of hc.1
      obtain ⟨b1, b2⟩ := okN_of hc.2
      rw [f19_raw_eq, f19_spec ctr a2 a1 b2 b1]; exact h
    | false => rw [hc] at h; cases h
  · cases h
def Q17 : Ctx := (19, { sig := S19, impl := I19 }) :: []
theorem Q17_ok : CtxOk Try.prog Q17 := ctxOk_cons ok19 rfl c19 ctxOk_nil
end Go.Proofs.Ytiaddnmloonhgaa

/- Blocks and streams: lengths, bytes, how streams go on. -/
namespace Go.Proofs.Ytiaddnmloonhgaa
open Go Go.Eng
set_option maxRecDepth 100000

theorem wrapU8_byte (n : Int) : 0 ≤ IntKind.u8.wrap n ∧ IntKind.u8.wrap n < 256 := by
  unfold IntKind.wrap
  simp only [IntKind.bits, IntKind.signed]
  have h1 := Int.emod_nonneg n (show (2 : Int) ^ 8 ≠ 0 by decide)
  have h2 := Int.emod_lt_of_pos n (show (0 : Int) < 2 ^ 8 by decide)
  simp only [Bool.false_and, Bool.false_eq_true, if_false]
  omega

theorem wrapU32_range (n : Int) : 0 ≤ IntKind.u32.wrap n ∧ IntKind.u32.wrap n < 4294967296 := by
  unfold IntKind.wrap
  simp only [IntKind.bits, IntKind.signed]
  have h1 := Int.emod_nonneg n (show (2 : Int) ^ 32 ≠ 0 by decide)
  have h2 := Int.emod_lt_of_pos n (show (0 : Int) < 2 ^ 32 by decide)
  simp only [Bool.false_and, Bool.false_eq_true, if_false]
  omega

def outF (t s : List Int) : List Int := ((List.range 16).map fun i => bytesL (IntKind.u64.wrap (IntKind.u32.wrap (t.getD i 0 + s.getD i 0))) 4).flatten

theorem outL_eq (t s : List Int) : outL t s = outF t s := by kernel_rfl

theorem bytesGo_bytes (n : Int) : ∀ (m i : Nat), Bytes (bytesGo n m i)
  | 0, _ => by intro x hx; cases hx
  | m + 1, i => by
    intro x hx
    rcases List.mem_cons.1 hx with e | hx
    · subst e; exact wrapU8_byte _
    · exact bytesGo_bytes n m (i + 1) x hx

theorem blockL_length (key : List Int) (c : Int) (nonce : List Int) : (blockL key c nonce).length = 64 := by
  unfold blockL; rw [outL_eq]; kernel_rfl

theorem block_bytes (key : List Int) (c : Int) (nonce : List Int) : Bytes (blockL key c nonce) := by
  unfold blockL; rw [outL_eq]
  intro x hx
  simp only [outF, List.mem_flatten, List.mem_map] at hx
  obtain ⟨l, ⟨i, _, rfl⟩, hx⟩ := hx
  exact bytesGo_bytes _ _ _ x hx

theorem bytes_getD {l : List Int} (h : Bytes l) (i : Nat) : 0 ≤ l.getD i 0 ∧ l.getD i 0 < 256 := by
  rw [List.getD_eq_getElem?_getD]
  cases hx : l[i]? with
  | none => simp
  | some x => exact h x (List.mem_of_getElem? hx)

theorem maskAt_byte (key : List Int) (c : Nat) (nonce : List Int) (i : Nat) : 0 ≤ maskAt key c nonce i ∧ maskAt key c nonce i < 256 := bytes_getD (block_bytes _ _ _) _

theorem maskL_append (f : Nat → Int) (a b : List Int) : maskL f (a ++ b) = maskL f a ++ maskL (fun i => f (a.length + i)) b := by
  unfold maskL
  rw [List.mapIdx_append]
  congr 1
  apply List.ext_getElem?
  intro i
  simp [Nat.add_comm]

theorem maskAt_add (key : List Int) (c q : Nat) (nonce : List Int) (i : Nat) : maskAt key c nonce (64 * q + i) = maskAt key (c + q) nonce i := by
  unfold maskAt
  rw [show c + (64 * q + i) / 64 = c + q + i / 64 by omega, show (64 * q + i) % 64 = i % 64 by omega]

theorem stream_append (key : List Int) (c q : Nat) (nonce a b : List Int) (h : a.length = 64 * q) : streamL key c nonce (a ++ b) = streamL key c nonce a ++ streamL key (c + q) nonce b := by
  unfold streamL
  have e : (fun i => maskAt key c nonce (a.length + i)) = maskAt key (c + q) nonce := funext fun i => by rw [h, maskAt_add]
  rw [maskL_append, e]

theorem xor8_zero {y : Int} (h0 : 0 ≤ y) (h : y < 256) : xorI .u8 0 y = y := by
  rw [xor8_eq]
  rw [show BitVec.ofInt 8 0 = 0#8 from rfl, BitVec.zero_xor, BitVec.toNat_ofInt]
  omega

theorem mask_of {f : Nat → Int} {l : List Int} (hl : l.length = 64) (hb : Bytes l) (h : ∀ i, i < 64 → f i = l.getD i 0) : maskL f (List.replicate 64 0) = l := by
  apply List.ext_getElem?
  intro i
  unfold maskL
  rw [List.getElem?_mapIdx, List.getElem?_replicate]
  by_cases hi : i < 64
  · rw [if_pos hi, List.getElem?_eq_getElem (by omega)]
    simp only [Option.map_some]
    obtain ⟨m1, m2⟩ := bytes_getD hb i
    rw [h i hi, xor8_zero m1 m2, List.getD_eq_getElem?_getD, List.getElem?_eq_getElem (by omega), Option.getD_some]
  · rw [if_neg hi, List.getElem?_eq_none (by omega), Option.map_none]

theorem stream_zeros (key : List Int) (c : Nat) (nonce : List Int) : streamL key c nonce (List.replicate 64 0) = blockL key c nonce := by
  unfold streamL
  refine mask_of (blockL_length _ _ _) (block_bytes _ _ _) fun i hi => ?_
  unfold maskAt
  rw [show c + i / 64 = c by omega, show i % 64 = i by omega]

/-- a mask lets by no more than itself -/
theorem andI_le {k : IntKind} {m : Nat} (hm : (m : Int) < 2 ^ (k.bits - 1)) (x : Int) : ∃ n : Nat, andI k x m = (n : Int) ∧ n ≤ m := by
  refine ⟨(BitVec.ofInt k.bits x &&& BitVec.ofInt k.bits (m : Int)).toNat, ?_, ?_⟩
  · have h1 : (BitVec.ofInt k.bits x &&& BitVec.ofInt k.bits (m : Int)).toNat ≤ (BitVec.ofInt k.bits (m : Int)).toNat := by rw [BitVec.toNat_and]; exact Nat.and_le_right
    have h2 : (BitVec.ofInt k.bits (m : Int)).toNat ≤ m := by
      rw [BitVec.ofInt_natCast, BitVec.toNat_ofNat]; exact Nat.mod_le _ _
    unfold andI
    generalize (BitVec.ofInt k.bits x &&& BitVec.ofInt k.bits (m : Int)).toNat = z at h1 ⊢
    have hz : (z : Int) < 2 ^ (k.bits - 1) := by omega
    cases k <;> simp [IntKind.wrap, IntKind.bits, IntKind.signed] at hz ⊢ <;> omega
  · rw [BitVec.toNat_and]
    refine Nat.le_trans Nat.and_le_right ?_
    rw [BitVec.ofInt_natCast, BitVec.toNat_ofNat]; exact Nat.mod_le _ _
end Go.Proofs.Ytiaddnmloonhgaa

/- The digits of a tag. -/
namespace Go.Proofs.Ytiaddnmloonhgaa
open Go Go.Eng
set_option maxRecDepth 100000

def bitsGo (w : List Int) (base : Nat) : Nat → Nat → Int → Int
  | 0, _, x => x
  | m + 1, j, x => bitsGo w base m (j + 1) (orI .u64 x (shlI .u64 (andI .u64 (shrI .u64 (w.getD ((base + j) / 26) 0) (((base + j) % 26 : Nat) : Int)) 1) (j : Int)))

def digGo (key w : List Int) : Nat → Nat → Int → List Int
  | 0, _, _ => []
  | m + 1, i, c =>
    let v := IntKind.u64.wrap (c + IntKind.u64.wrap (bitsGo w (8 * i) 8 0 0 + IntKind.u64.wrap (key.getD (16 + i) 0)))
    IntKind.u8.wrap v :: digGo key w m (i + 1) (shrI .u64 v 8)

theorem digL_eq (key b' w : List Int) : digL key b' w = digGo key w 16 0 0 := by kernel_rfl

theorem digGo_bytes (key w : List Int) : ∀ (m i : Nat) (c : Int), Bytes (digGo key w m i c)
  | 0, _, _ => by intro x hx; cases hx
  | m + 1, i, c => by
    intro x hx
    rcases List.mem_cons.1 hx with e | hx
    · subst e; exact wrapU8_byte _
    · exact digGo_bytes key w m (i + 1) _ x hx

theorem mac_bytes (key b : List Int) : Bytes (macL key b) := by
  unfold macL; rw [digL_eq]; exact digGo_bytes _ _ _ _ _

theorem tag_bytes (key nonce a b : List Int) : Bytes (tagL key nonce a b) := mac_bytes _ _
end Go.Proofs.Ytiaddnmloonhgaa

/- Limbs as natural numbers: carrying, the product modulo 2^130 - 5. -/
namespace Go.Proofs.Ytiaddnmloonhgaa
open Go Go.Eng
set_option maxRecDepth 100000

/-! ### carrying -/

def carI (a0 a1 a2 a3 a4 : Int) : List Int :=
  let s0 := IntKind.u64.wrap (a0 + 0)
  let s1 := IntKind.u64.wrap (a1 + shrI .u64 s0 26)
  let s2 := IntKind.u64.wrap (a2 + shrI .u64 s1 26)
  let s3 := IntKind.u64.wrap (a3 + shrI .u64 s2 26)
  let s4 := IntKind.u64.wrap (a4 + shrI .u64 s3 26)
  [IntKind.u64.wrap (andI .u64 s0 67108863 + IntKind.u64.wrap (5 * shrI .u64 s4 26)), andI .u64 s1 67108863, andI .u64 s2 67108863, andI .u64 s3 67108863, andI .u64 s4 67108863]

theorem carried_eq (a0 a1 a2 a3 a4 : Int) : carriedL [a0, a1, a2, a3, a4] = carI a0 a1 a2 a3 a4 := by kernel_rfl

def carC (a0 a1 a2 a3 a4 : Nat) : Nat := (a4 + (a3 + (a2 + (a1 + a0 / 67108864) / 67108864) / 67108864) / 67108864) / 67108864

def carN (a0 a1 a2 a3 a4 : Nat) : List Nat :=
  [a0 % 67108864 + 5 * carC a0 a1 a2 a3 a4, (a1 + a0 / 67108864) % 67108864, (a2 + (a1 + a0 / 67108864) / 67108864) % 67108864,
    (a3 + (a2 + (a1 + a0 / 67108864) / 67108864) / 67108864) % 67108864, (a4 + (a3 + (a2 + (a1 + a0 / 67108864) / 67108864) / 67108864) / 67108864) % 67108864]

theorem shr26 (n : Nat) : shrI .u64 (n : Int) 26 = ((n / 67108864 : Nat) : Int) := shrN (k := .u64) (m := 26) (by decide) n
theorem and26 {n : Nat} (h : n < 18446744073709551616) : andI .u64 (n : Int) 67108863 = ((n % 67108864 : Nat) : Int) := maskN (k := .u64) (j := 26) rfl h (by decide)

theorem car_nat {a0 a1 a2 a3 a4 : Nat} (h0 : a0 < 4611686018427387904) (h1 : a1 < 4611686018427387904) (h2 : a2 < 4611686018427387904) (h3 : a3 < 4611686018427387904) (h4 : a4 < 4611686018427387904) :
    carriedL [(a0 : Int), (a1 : Int), (a2 : Int), (a3 : Int), (a4 : Int)] = nats (carN a0 a1 a2 a3 a4) := by
  rw [carried_eq]
  unfold carI
  have e0 : IntKind.u64.wrap ((a0 : Int) + 0) = (a0 : Int) := by rw [Int.add_zero]; exact w64 (by omega)
  dsimp only
  simp only [e0, shr26]
  have e1 : IntKind.u64.wrap ((a1 : Int) + ((a0 / 67108864 : Nat) : Int)) = ((a1 + a0 / 67108864 : Nat) : Int) := w64 (n := a1 + a0 / 67108864) (by omega)
  simp only [e1, shr26]
  generalize hs1 : a1 + a0 / 67108864 = s1
  have e2 : IntKind.u64.wrap ((a2 : Int) + ((s1 / 67108864 : Nat) : Int)) = ((a2 + s1 / 67108864 : Nat) : Int) := w64 (n := a2 + s1 / 67108864) (by omega)
  simp only [e2, shr26]
  generalize hs2 : a2 + s1 / 67108864 = s2
  have e3 : IntKind.u64.wrap ((a3 : Int) + ((s2 / 67108864 : Nat) : Int)) = ((a3 + s2 / 67108864 : Nat) : Int) := w64 (n := a3 + s2 / 67108864) (by omega)
  simp only [e3, shr26]
  generalize hs3 : a3 + s2 / 67108864 = s3
  have e4 : IntKind.u64.wrap ((a4 : Int) + ((s3 / 67108864 : Nat) : Int)) = ((a4 + s3 / 67108864 : Nat) : Int) := w64 (n := a4 + s3 / 67108864) (by omega)
  simp only [e4, shr26]
  generalize hs4 : a4 + s3 / 67108864 = s4
  have e5 : IntKind.u64.wrap (5 * ((s4 / 67108864 : Nat) : Int)) = ((5 * (s4 / 67108864) : Nat) : Int) := w64 (n := 5 * (s4 / 67108864)) (by omega)
  rw [e5, and26 (by omega), and26 (by omega), and26 (by omega), and26 (by omega), and26 (by omega)]
  have e6 : IntKind.u64.wrap (((a0 % 67108864 : Nat) : Int) + ((5 * (s4 / 67108864) : Nat) : Int)) = ((a0 % 67108864 + 5 * (s4 / 67108864) : Nat) : Int) := w64 (n := a0 % 67108864 + 5 * (s4 / 67108864)) (by omega)
  rw [e6]
  unfold carN carC
  rw [hs1, hs2, hs3, hs4]
  rfl

/-- the number of five limbs -/
def val5 (a0 a1 a2 a3 a4 : Nat) : Nat := a0 + 67108864 * (a1 + 67108864 * (a2 + 67108864 * (a3 + 67108864 * a4)))

def p1305 : Nat := 1361129467683753853853498429727072845819

theorem val5_eq (a0 a1 a2 a3 a4 : Nat) : valB 67108864 [a0, a1, a2, a3, a4] = val5 a0 a1 a2 a3 a4 := by simp [valB, val5]

theorem car_val (a0 a1 a2 a3 a4 : Nat) : valB 67108864 (carN a0 a1 a2 a3 a4) + carC a0 a1 a2 a3 a4 * p1305 = val5 a0 a1 a2 a3 a4 := by
  unfold carN carC p1305
  generalize hs1 : a1 + a0 / 67108864 = s1
  generalize hs2 : a2 + s1 / 67108864 = s2
  generalize hs3 : a3 + s2 / 67108864 = s3
  generalize hs4 : a4 + s3 / 67108864 = s4
  rw [val5_eq]
  unfold val5
  omega

/-! ### the product -/

def adI (x y : Int) : Int := IntKind.u64.wrap (x + y)
def muI (x y : Int) : Int := IntKind.u64.wrap (x * y)
def fvI (x y : Int) : Int := IntKind.u64.wrap (IntKind.u64.wrap (5 * x) * y)

def tmI (a0 a1 a2 a3 a4 b0 b1 b2 b3 b4 : Int) : List Int := [(adI (adI (adI (adI (adI 0 (muI a0 b0)) (fvI a1 b4)) (fvI a2 b3)) (fvI a3 b2)) (fvI a4 b1)), (adI (adI (adI (adI (adI 0 (muI a0 b1)) (muI a1 b0)) (fvI a2 b4)) (fvI a3 b3)) (fvI a4 b2)), (adI (adI (adI (adI (adI 0 (muI a0 b2)) (muI a1 b1)) (muI a2 b0)) (fvI a3 b4)) (fvI a4 b3)), (adI (adI (adI (adI (adI 0 (muI a0 b3)) (muI a1 b2)) (muI a2 b1)) (muI a3 b0)) (fvI a4 b4)), (adI (adI (adI (adI (adI 0 (muI a0 b4)) (muI a1 b3)) (muI a2 b2)) (muI a3 b1)) (muI a4 b0))]

theorem times_eq (a0 a1 a2 a3 a4 b0 b1 b2 b3 b4 : Int) : timesL [a0, a1, a2, a3, a4] [b0, b1, b2, b3, b4] = carriedL (carriedL (tmI a0 a1 a2 a3 a4 b0 b1 b2 b3 b4)) := by kernel_rfl

def tm0 (a0 a1 a2 a3 a4 b0 b1 b2 b3 b4 : Nat) : Nat := a0 * b0 + 5 * (a1 * b4) + 5 * (a2 * b3) + 5 * (a3 * b2) + 5 * (a4 * b1)
def tm1 (a0 a1 a2 a3 a4 b0 b1 b2 b3 b4 : Nat) : Nat := a0 * b1 + a1 * b0 + 5 * (a2 * b4) + 5 * (a3 * b3) + 5 * (a4 * b2)
def tm2 (a0 a1 a2 a3 a4 b0 b1 b2 b3 b4 : Nat) : Nat := a0 * b2 + a1 * b1 + a2 * b0 + 5 * (a3 * b4) + 5 * (a4 * b3)
def tm3 (a0 a1 a2 a3 a4 b0 b1 b2 b3 b4 : Nat) : Nat := a0 * b3 + a1 * b2 + a2 * b1 + a3 * b0 + 5 * (a4 * b4)
def tm4 (a0 a1 a2 a3 a4 b0 b1 b2 b3 b4 : Nat) : Nat := a0 * b4 + a1 * b3 + a2 * b2 + a3 * b1 + a4 * b0

theorem muN {x y : Nat} (hx : x ≤ 268435456) (hy : y ≤ 134217728) : muI (x : Int) (y : Int) = ((x * y : Nat) : Int) ∧ x * y ≤ 36028797018963968 := by
  have h : x * y ≤ 268435456 * 134217728 := Nat.mul_le_mul hx hy
  exact ⟨w64 (n := x * y) (by omega), by omega⟩
theorem fvN {x y : Nat} (hx : x ≤ 268435456) (hy : y ≤ 134217728) : fvI (x : Int) (y : Int) = ((5 * (x * y) : Nat) : Int) := by
  have h : x * y ≤ 268435456 * 134217728 := Nat.mul_le_mul hx hy
  have e : IntKind.u64.wrap (5 * (x : Int)) = ((5 * x : Nat) : Int) := w64 (n := 5 * x) (by omega)
  unfold fvI
  rw [e, ← Nat.mul_assoc]
  exact w64 (n := 5 * x * y) (by rw [Nat.mul_assoc]; omega)
theorem adN {x y : Nat} (h : x + y < 18446744073709551616) : adI (x : Int) (y : Int) = ((x + y : Nat) : Int) := w64 (n := x + y) h

/-- limbs that may be multiplied -/
def Lim (b : Nat) (a0 a1 a2 a3 a4 : Nat) : Prop := a0 ≤ b ∧ a1 ≤ b ∧ a2 ≤ b ∧ a3 ≤ b ∧ a4 ≤ b

theorem tm_nat {a0 a1 a2 a3 a4 b0 b1 b2 b3 b4 : Nat} (ha : Lim 268435456 a0 a1 a2 a3 a4) (hb : Lim 134217728 b0 b1 b2 b3 b4) :
    tmI (a0 : Int) (a1 : Int) (a2 : Int) (a3 : Int) (a4 : Int) (b0 : Int) (b1 : Int) (b2 : Int) (b3 : Int) (b4 : Int) = [((tm0 a0 a1 a2 a3 a4 b0 b1 b2 b3 b4 : Nat) : Int), ((tm1 a0 a1 a2 a3 a4 b0 b1 b2 b3 b4 : Nat) : Int), ((tm2 a0 a1 a2 a3 a4 b0 b1 b2 b3 b4 : Nat) : Int), ((tm3 a0 a1 a2 a3 a4 b0 b1 b2 b3 b4 : Nat) : Int), ((tm4 a0 a1 a2 a3 a4 b0 b1 b2 b3 b4 : Nat) : Int)] ∧ tm0 a0 a1 a2 a3 a4 b0 b1 b2 b3 b4 < 4611686018427387904 ∧ tm1 a0 a1 a2 a3 a4 b0 b1 b2 b3 b4 < 4611686018427387904 ∧ tm2 a0 a1 a2 a3 a4 b0 b1 b2 b3 b4 < 4611686018427387904 ∧ tm3 a0 a1 a2 a3 a4 b0 b1 b2 b3 b4 < 4611686018427387904 ∧ tm4 a0 a1 a2 a3 a4 b0 b1 b2 b3 b4 < 4611686018427387904 := by
  obtain ⟨h0, h1, h2, h3, h4⟩ := ha
  obtain ⟨k0, k1, k2, k3, k4⟩ := hb
  obtain ⟨m00, q00⟩ := muN h0 k0
  obtain ⟨m01, q01⟩ := muN h0 k1
  obtain ⟨m02, q02⟩ := muN h0 k2
  obtain ⟨m03, q03⟩ := muN h0 k3
  obtain ⟨m04, q04⟩ := muN h0 k4
  obtain ⟨m10, q10⟩ := muN h1 k0
  obtain ⟨m11, q11⟩ := muN h1 k1
  obtain ⟨m12, q12⟩ := muN h1 k2
  obtain ⟨m13, q13⟩ := muN h1 k3
  obtain ⟨m14, q14⟩ := muN h1 k4
  have f14 := fvN h1 k4
  obtain ⟨m20, q20⟩ := muN h2 k0
  obtain ⟨m21, q21⟩ := muN h2 k1
  obtain ⟨m22, q22⟩ := muN h2 k2
  obtain ⟨m23, q23⟩ := muN h2 k3
  have f23 := fvN h2 k3
  obtain ⟨m24, q24⟩ := muN h2 k4
  have f24 := fvN h2 k4
  obtain ⟨m30, q30⟩ := muN h3 k0
  obtain ⟨m31, q31⟩ := muN h3 k1
  obtain ⟨m32, q32⟩ := muN h3 k2
  have f32 := fvN h3 k2
  obtain ⟨m33, q33⟩ := muN h3 k3
  have f33 := fvN h3 k3
  obtain ⟨m34, q34⟩ := muN h3 k4
  have f34 := fvN h3 k4
  obtain ⟨m40, q40⟩ := muN h4 k0
  obtain ⟨m41, q41⟩ := muN h4 k1
  have f41 := fvN h4 k1
  obtain ⟨m42, q42⟩ := muN h4 k2
  have f42 := fvN h4 k2
  obtain ⟨m43, q43⟩ := muN h4 k3
  have f43 := fvN h4 k3
  obtain ⟨m44, q44⟩ := muN h4 k4
  have f44 := fvN h4 k4
  unfold tmI tm0 tm1 tm2 tm3 tm4
  simp only [m00, m01, m02, m03, m04, m10, m11, m12, m13, m20, m21, m22, m30, m31, m40, f14, f23, f24, f32, f33, f34, f41, f42, f43, f44]
  clear m00 m01 m02 m03 m04 m10 m11 m12 m13 m14 m20 m21 m22 m23 m24 m30 m31 m32 m33 m34 m40 m41 m42 m43 m44 f14 f23 f24 f32 f33 f34 f41 f42 f43 f44
  generalize a0 * b0 = P00 at *
  generalize a0 * b1 = P01 at *
  generalize a0 * b2 = P02 at *
  generalize a0 * b3 = P03 at *
  generalize a0 * b4 = P04 at *
  generalize a1 * b0 = P10 at *
  generalize a1 * b1 = P11 at *
  generalize a1 * b2 = P12 at *
  generalize a1 * b3 = P13 at *
  generalize a1 * b4 = P14 at *
  generalize a2 * b0 = P20 at *
  generalize a2 * b1 = P21 at *
  generalize a2 * b2 = P22 at *
  generalize a2 * b3 = P23 at *
  generalize a2 * b4 = P24 at *
  generalize a3 * b0 = P30 at *
  generalize a3 * b1 = P31 at *
  generalize a3 * b2 = P32 at *
  generalize a3 * b3 = P33 at *
  generalize a3 * b4 = P34 at *
  generalize a4 * b0 = P40 at *
  generalize a4 * b1 = P41 at *
  generalize a4 * b2 = P42 at *
  generalize a4 * b3 = P43 at *
  generalize a4 * b4 = P44 at *
  have z : ∀ n : Nat, n < 18446744073709551616 → adI 0 (n : Int) = (n : Int) := fun n h => by unfold adI; rw [Int.zero_add]; exact w64 h
  refine ⟨?_, by omega, by omega, by omega, by omega, by omega⟩
  rw [z (P00) (by omega), adN (x := P00) (y := 5 * P14) (by omega), adN (x := P00 + 5 * P14) (y := 5 * P23) (by omega), adN (x := P00 + 5 * P14 + 5 * P23) (y := 5 * P32) (by omega), adN (x := P00 + 5 * P14 + 5 * P23 + 5 * P32) (y := 5 * P41) (by omega)]
  rw [z (P01) (by omega), adN (x := P01) (y := P10) (by omega), adN (x := P01 + P10) (y := 5 * P24) (by omega), adN (x := P01 + P10 + 5 * P24) (y := 5 * P33) (by omega), adN (x := P01 + P10 + 5 * P24 + 5 * P33) (y := 5 * P42) (by omega)]
  rw [z (P02) (by omega), adN (x := P02) (y := P11) (by omega), adN (x := P02 + P11) (y := P20) (by omega), adN (x := P02 + P11 + P20) (y := 5 * P34) (by omega), adN (x := P02 + P11 + P20 + 5 * P34) (y := 5 * P43) (by omega)]
  rw [z (P03) (by omega), adN (x := P03) (y := P12) (by omega), adN (x := P03 + P12) (y := P21) (by omega), adN (x := P03 + P12 + P21) (y := P30) (by omega), adN (x := P03 + P12 + P21 + P30) (y := 5 * P44) (by omega)]
  rw [z (P04) (by omega), adN (x := P04) (y := P13) (by omega), adN (x := P04 + P13) (y := P22) (by omega), adN (x := P04 + P13 + P22) (y := P31) (by omega), adN (x := P04 + P13 + P22 + P31) (y := P40) (by omega)]

theorem mul_val5 (x b0 b1 b2 b3 b4 : Nat) : x * val5 b0 b1 b2 b3 b4 = val5 (x * b0) (x * b1) (x * b2) (x * b3) (x * b4) := by
  unfold val5; simp only [Nat.mul_add, Nat.mul_left_comm x]
theorem val5_mul (a0 a1 a2 a3 a4 y : Nat) : val5 a0 a1 a2 a3 a4 * y = val5 (a0 * y) (a1 * y) (a2 * y) (a3 * y) (a4 * y) := by
  unfold val5; simp only [Nat.add_mul, Nat.mul_assoc]

theorem tm_val (a0 a1 a2 a3 a4 b0 b1 b2 b3 b4 : Nat) : ∃ q, val5 (tm0 a0 a1 a2 a3 a4 b0 b1 b2 b3 b4) (tm1 a0 a1 a2 a3 a4 b0 b1 b2 b3 b4) (tm2 a0 a1 a2 a3 a4 b0 b1 b2 b3 b4) (tm3 a0 a1 a2 a3 a4 b0 b1 b2 b3 b4) (tm4 a0 a1 a2 a3 a4 b0 b1 b2 b3 b4) + q * p1305 = val5 a0 a1 a2 a3 a4 * val5 b0 b1 b2 b3 b4 := by
  refine ⟨val5 (a1 * b4 + a2 * b3 + a3 * b2 + a4 * b1) (a2 * b4 + a3 * b3 + a4 * b2) (a3 * b4 + a4 * b3) (a4 * b4) 0, ?_⟩
  rw [mul_val5, val5_mul a0 a1 a2 a3 a4 b0, val5_mul a0 a1 a2 a3 a4 b1, val5_mul a0 a1 a2 a3 a4 b2, val5_mul a0 a1 a2 a3 a4 b3, val5_mul a0 a1 a2 a3 a4 b4]
  unfold tm0 tm1 tm2 tm3 tm4
  generalize a0 * b0 = P00
  generalize a0 * b1 = P01
  generalize a0 * b2 = P02
  generalize a0 * b3 = P03
  generalize a0 * b4 = P04
  generalize a1 * b0 = P10
  generalize a1 * b1 = P11
  generalize a1 * b2 = P12
  generalize a1 * b3 = P13
  generalize a1 * b4 = P14
  generalize a2 * b0 = P20
  generalize a2 * b1 = P21
  generalize a2 * b2 = P22
  generalize a2 * b3 = P23
  generalize a2 * b4 = P24
  generalize a3 * b0 = P30
  generalize a3 * b1 = P31
  generalize a3 * b2 = P32
  generalize a3 * b3 = P33
  generalize a3 * b4 = P34
  generalize a4 * b0 = P40
  generalize a4 * b1 = P41
  generalize a4 * b2 = P42
  generalize a4 * b3 = P43
  generalize a4 * b4 = P44
  unfold val5 p1305
  omega

/-- twice carried: below 2^26 + 5 -/
theorem car2 {t0 t1 t2 t3 t4 : Nat} (h0 : t0 < 4611686018427387904) (h1 : t1 < 4611686018427387904) (h2 : t2 < 4611686018427387904) (h3 : t3 < 4611686018427387904) (h4 : t4 < 4611686018427387904) :
    ∃ c0 c1 c2 c3 c4 q : Nat, carriedL (carriedL [(t0 : Int), (t1 : Int), (t2 : Int), (t3 : Int), (t4 : Int)]) = nats [c0, c1, c2, c3, c4] ∧ c0 < 67108864 + 5 ∧ c1 < 67108864 ∧ c2 < 67108864 ∧ c3 < 67108864 ∧ c4 < 67108864 ∧
      val5 c0 c1 c2 c3 c4 + q * p1305 = val5 t0 t1 t2 t3 t4 := by
  have v1 := car_val t0 t1 t2 t3 t4
  have hc : carC t0 t1 t2 t3 t4 < 137438953472 := by unfold carC; omega
  rw [car_nat h0 h1 h2 h3 h4]
  unfold carN at v1 ⊢
  generalize carC t0 t1 t2 t3 t4 = c at *
  have m1 := Nat.mod_lt (t1 + t0 / 67108864) (show 67108864 > 0 by decide)
  have m2 := Nat.mod_lt (t2 + (t1 + t0 / 67108864) / 67108864) (show 67108864 > 0 by decide)
  have m3 := Nat.mod_lt (t3 + (t2 + (t1 + t0 / 67108864) / 67108864) / 67108864) (show 67108864 > 0 by decide)
  have m4 := Nat.mod_lt (t4 + (t3 + (t2 + (t1 + t0 / 67108864) / 67108864) / 67108864) / 67108864) (show 67108864 > 0 by decide)
  have m0 : t0 % 67108864 + 5 * c < 67108864 + 687194767360 := by have := Nat.mod_lt t0 (show 67108864 > 0 by decide); omega
  generalize t0 % 67108864 + 5 * c = u0 at *
  generalize (t1 + t0 / 67108864) % 67108864 = u1 at *
  generalize (t2 + (t1 + t0 / 67108864) / 67108864) % 67108864 = u2 at *
  generalize (t3 + (t2 + (t1 + t0 / 67108864) / 67108864) / 67108864) % 67108864 = u3 at *
  generalize (t4 + (t3 + (t2 + (t1 + t0 / 67108864) / 67108864) / 67108864) / 67108864) % 67108864 = u4 at *
  rw [val5_eq] at v1
  have v2 := car_val u0 u1 u2 u3 u4
  have hd : carC u0 u1 u2 u3 u4 ≤ 1 := by unfold carC; omega
  refine ⟨_, _, _, _, _, c + carC u0 u1 u2 u3 u4, car_nat (by omega) (by omega) (by omega) (by omega) (by omega), ?_, Nat.mod_lt _ (by decide), Nat.mod_lt _ (by decide), Nat.mod_lt _ (by decide), Nat.mod_lt _ (by decide), ?_⟩
  · have := Nat.mod_lt u0 (show 67108864 > 0 by decide); omega
  · unfold carN at v2
    rw [val5_eq] at v2
    rw [Nat.add_mul]; omega

/-- limbs behind a product -/
def Sml (a0 a1 a2 a3 a4 : Nat) : Prop := a0 ≤ 67108868 ∧ a1 < 67108864 ∧ a2 < 67108864 ∧ a3 < 67108864 ∧ a4 < 67108864

theorem times_nat {a0 a1 a2 a3 a4 b0 b1 b2 b3 b4 : Nat} (ha : Lim 268435456 a0 a1 a2 a3 a4) (hb : Lim 134217728 b0 b1 b2 b3 b4) :
    ∃ c0 c1 c2 c3 c4 q : Nat, timesL (nats [a0, a1, a2, a3, a4]) (nats [b0, b1, b2, b3, b4]) = nats [c0, c1, c2, c3, c4] ∧ Sml c0 c1 c2 c3 c4 ∧ val5 c0 c1 c2 c3 c4 + q * p1305 = val5 a0 a1 a2 a3 a4 * val5 b0 b1 b2 b3 b4 := by
  obtain ⟨e, g0, g1, g2, g3, g4⟩ := tm_nat ha hb
  have et := times_eq (a0 : Int) (a1 : Int) (a2 : Int) (a3 : Int) (a4 : Int) (b0 : Int) (b1 : Int) (b2 : Int) (b3 : Int) (b4 : Int)
  rw [e] at et
  obtain ⟨c0, c1, c2, c3, c4, q, e1, l0, l1, l2, l3, l4, v⟩ := car2 g0 g1 g2 g3 g4
  obtain ⟨q', v'⟩ := tm_val a0 a1 a2 a3 a4 b0 b1 b2 b3 b4
  refine ⟨c0, c1, c2, c3, c4, q + q', et.trans e1, ⟨by omega, by omega, by omega, by omega, by omega⟩, ?_⟩
  rw [Nat.add_mul]; omega

end Go.Proofs.Ytiaddnmloonhgaa

/- Bits and digits of numbers. -/
namespace Go.Eng
open Go

theorem valB_div {b : Nat} (hb : 0 < b) : ∀ {l : List Nat}, (∀ x ∈ l, x < b) → ∀ i, valB b l / b ^ i % b = l.getD i 0
  | [], _, i => by simp [valB]
  | x :: l, h, 0 => by
    have hx := h x (.head _)
    simp only [Nat.pow_zero, Nat.div_one, valB, List.getD_cons_zero]
    rw [Nat.add_mul_mod_self_left, Nat.mod_eq_of_lt hx]
  | x :: l, h, i + 1 => by
    have hx := h x (.head _)
    rw [valB, Nat.pow_succ, Nat.mul_comm _ b, ← Nat.div_div_eq_div_mul, Nat.add_mul_div_left _ _ hb, Nat.div_eq_of_lt hx, Nat.zero_add, List.getD_cons_succ]
    exact valB_div hb (fun y hy => h y (.tail _ hy)) i

theorem valB_byte_bit {l : List Nat} (h : ∀ x ∈ l, x < 256) (i : Nat) : valB 256 l / 2 ^ i % 2 = l.getD (i / 8) 0 / 2 ^ (i % 8) % 2 := by
  rw [← valB_div (by decide) h (i / 8)]
  have e : (2 : Nat) ^ i = 256 ^ (i / 8) * 2 ^ (i % 8) := by
    rw [show (256 : Nat) = 2 ^ 8 from rfl, ← Nat.pow_mul, ← Nat.pow_add, Nat.div_add_mod]
  rw [e, ← Nat.div_div_eq_div_mul]
  generalize valB 256 l / 256 ^ (i / 8) = n
  have hm : i % 8 < 8 := Nat.mod_lt _ (by decide)
  generalize i % 8 = j at hm
  have hj : (256 : Nat) = 2 ^ j * (2 * 2 ^ (7 - j)) := by
    rw [← Nat.pow_succ', ← Nat.pow_add, show j + (7 - j).succ = 8 by omega]
  rw [hj, Nat.mod_mul_right_div_self, Nat.mod_mul_right_mod]

theorem digs_getD (b : Nat) : ∀ (m n i : Nat), i < m → (digs b m n).getD i 0 = n / b ^ i % b
  | 0, _, _, h => by omega
  | m + 1, n, 0, _ => by simp [digs]
  | m + 1, n, i + 1, h => by
    rw [digs, List.getD_cons_succ, digs_getD b m _ i (by omega), Nat.div_div_eq_div_mul, ← Nat.pow_succ']

/-- a bit, out of digits of so many bits -/
theorem digs_bit {w m n : Nat} (hw : 0 < w) {j : Nat} (hj : j < w * m) : (digs (2 ^ w) m n).getD (j / w) 0 / 2 ^ (j % w) % 2 = n / 2 ^ j % 2 := by
  rw [digs_getD _ _ _ _ (Nat.div_lt_of_lt_mul hj)]
  have e : (2 : Nat) ^ j = (2 ^ w) ^ (j / w) * 2 ^ (j % w) := by
    rw [← Nat.pow_mul, ← Nat.pow_add, Nat.div_add_mod]
  rw [e, ← Nat.div_div_eq_div_mul]
  generalize n / (2 ^ w) ^ (j / w) = x
  have hm : j % w < w := Nat.mod_lt _ hw
  generalize j % w = i at hm
  have hi : (2 : Nat) ^ w = 2 ^ i * (2 * 2 ^ (w - 1 - i)) := by
    rw [← Nat.pow_succ', ← Nat.pow_add, show i + (w - 1 - i).succ = w by omega]
  rw [hi, Nat.mod_mul_right_div_self, Nat.mod_mul_right_mod]

/-- one bit more, above all that stand -/
theorem digs_set {w : Nat} (hw : 0 < w) : ∀ (m n i : Nat), n < 2 ^ i → i < w * m → digs (2 ^ w) m (n + 2 ^ i) = (digs (2 ^ w) m n).set (i / w) ((digs (2 ^ w) m n).getD (i / w) 0 + 2 ^ (i % w))
  | 0, _, _, _, h => by omega
  | m + 1, n, i, hn, hi => by
    have hp : 0 < 2 ^ w := Nat.two_pow_pos w
    by_cases h : i < w
    · have h1 : (2 : Nat) ^ i * 2 ≤ 2 ^ w := by rw [← Nat.pow_succ]; exact Nat.pow_le_pow_right (by decide) h
      rw [Nat.div_eq_of_lt h, Nat.mod_eq_of_lt h]
      simp only [digs, List.set_cons_zero, List.getD_cons_zero]
      rw [Nat.mod_eq_of_lt (show n + 2 ^ i < 2 ^ w by omega), Nat.mod_eq_of_lt (show n < 2 ^ w by omega), Nat.div_eq_of_lt (show n + 2 ^ i < 2 ^ w by omega), Nat.div_eq_of_lt (show n < 2 ^ w by omega)]
    · have hwi : w ≤ i := Nat.le_of_not_lt h
      have e : (2 : Nat) ^ i = 2 ^ (i - w) * 2 ^ w := by rw [← Nat.pow_add, show i - w + w = i by omega]
      have hd : i / w = (i - w) / w + 1 := by rw [Nat.div_eq_sub_div hw hwi]
      have hmd : i % w = (i - w) % w := by rw [Nat.mod_eq_sub_mod hwi]
      rw [hd, hmd]
      simp only [digs, List.set_cons_succ, List.getD_cons_succ]
      rw [e, Nat.add_mul_mod_self_right, Nat.add_mul_div_right _ _ hp]
      rw [digs_set hw m (n / 2 ^ w) (i - w) ?_ ?_]
      · exact Nat.div_lt_of_lt_mul (by rw [← Nat.pow_add, show w + (i - w) = i by omega]; exact hn)
      · have : w * (m + 1) = w * m + w := Nat.mul_succ w m
        omega

theorem mod_two_pow_succ (n i : Nat) : n % 2 ^ (i + 1) = n % 2 ^ i + (n / 2 ^ i % 2) * 2 ^ i := by
  rw [Nat.mod_pow_succ, Nat.mul_comm]

theorem nats_digs_bound {b m n : Nat} (hb : 0 < b) (i : Nat) : (digs b m n).getD i 0 < b := by
  rw [List.getD_eq_getElem?_getD]
  cases h : (digs b m n)[i]? with
  | none => exact hb
  | some x => exact digs_lt hb x (List.mem_of_getElem? h)

/-- sums of digits, carried -/
theorem digs_mod (b : Nat) : ∀ (m n : Nat), digs b m (n % b ^ m) = digs b m n
  | 0, _ => rfl
  | m + 1, n => by
    have e1 : n % b ^ (m + 1) % b = n % b := by rw [Nat.pow_succ, Nat.mod_mul_left_mod]
    have e2 : n % b ^ (m + 1) / b = n / b % b ^ m := by rw [Nat.pow_succ, Nat.mul_comm, Nat.mod_mul_right_div_self]
    rw [digs, digs, e1, e2, digs_mod b m]
end Go.Eng

/- Digits by school: differences with a borrow, carries. Plain numbers, no program. -/
namespace Go.Eng

theorem getD_mid {α : Type} {A B : List α} {x d : α} {i : Nat} (h : A.length = i) : (A ++ x :: B).getD i d = x := by
  subst h
  simp [List.getD_eq_getElem?_getD]
theorem set_mid {α : Type} {A B : List α} {x y : α} {i : Nat} (h : A.length = i) : (A ++ x :: B).set i y = A ++ y :: B := by
  subst h
  simp

theorem valB_cons (b x : Nat) (l : List Nat) : valB b (x :: l) = x + b * valB b l := rfl

/-- a difference, with a borrow -/
def subG : List Nat → List Nat → Nat → List Nat × Nat
  | x :: l, q :: m, b => ((x + 65536 - q - b) % 65536 :: (subG l m (1 - (x + 65536 - q - b) / 65536)).1, (subG l m (1 - (x + 65536 - q - b) / 65536)).2)
  | [], _, b => ([], b)
  | _ :: _, [], b => ([], b)

theorem subG_spec : ∀ (l m : List Nat) (b : Nat), l.length = m.length → (∀ x ∈ l, x < 65536) → (∀ x ∈ m, x < 65536) → b ≤ 1 →
    (subG l m b).1.length = l.length ∧ (∀ x ∈ (subG l m b).1, x < 65536) ∧ (subG l m b).2 ≤ 1 ∧ valB 65536 (subG l m b).1 + valB 65536 m + b = valB 65536 l + 65536 ^ l.length * (subG l m b).2
  | [], [], b, _, _, _, hb => by simp [subG, valB, hb]
  | [], _ :: _, _, h, _, _, _ => by simp at h
  | _ :: _, [], _, h, _, _, _ => by simp at h
  | x :: l, q :: m, b, h, hl, hm, hb => by
    have hx := hl x (.head _)
    have hq := hm q (.head _)
    obtain ⟨h1, h2, h3, h4⟩ := subG_spec l m (1 - (x + 65536 - q - b) / 65536) (by simpa using h) (fun y hy => hl y (.tail _ hy)) (fun y hy => hm y (.tail _ hy)) (by omega)
    simp only [subG]
    refine ⟨by simp [h1], ?_, h3, ?_⟩
    · intro y hy
      rcases List.mem_cons.1 hy with rfl | hy
      · exact Nat.mod_lt _ (by decide)
      · exact h2 y hy
    · simp only [valB_cons, List.length_cons, Nat.pow_succ]
      generalize valB 65536 (subG l m (1 - (x + 65536 - q - b) / 65536)).1 = R at *
      generalize (subG l m (1 - (x + 65536 - q - b) / 65536)).2 = c at *
      generalize valB 65536 l = L at *
      generalize valB 65536 m = M at *
      rw [Nat.mul_comm (65536 ^ l.length) 65536, Nat.mul_assoc]
      generalize 65536 ^ l.length * c = T at *
      omega

/-- carries -/
def normG : List Nat → Nat → List Nat × Nat
  | [], c => ([], c)
  | x :: l, c => ((x + c) % 65536 :: (normG l ((x + c) / 65536)).1, (normG l ((x + c) / 65536)).2)

theorem normG_spec : ∀ (l : List Nat) (c : Nat), (normG l c).1.length = l.length ∧ (∀ x ∈ (normG l c).1, x < 65536) ∧ valB 65536 (normG l c).1 + 65536 ^ l.length * (normG l c).2 = valB 65536 l + c
  | [], c => by simp [normG, valB]
  | x :: l, c => by
    obtain ⟨h1, h2, h3⟩ := normG_spec l ((x + c) / 65536)
    simp only [normG]
    refine ⟨by simp [h1], ?_, ?_⟩
    · intro y hy
      rcases List.mem_cons.1 hy with rfl | hy
      · exact Nat.mod_lt _ (by decide)
      · exact h2 y hy
    · simp only [valB_cons, List.length_cons, Nat.pow_succ]
      generalize valB 65536 (normG l ((x + c) / 65536)).1 = R at *
      generalize (normG l ((x + c) / 65536)).2 = d at *
      generalize valB 65536 l = L at *
      rw [Nat.mul_comm (65536 ^ l.length) 65536, Nat.mul_assoc]
      generalize 65536 ^ l.length * d = T at *
      omega

theorem normG_carry : ∀ (l : List Nat) (c : Nat), (∀ x ∈ l, x < 2 ^ 46) → c < 2 ^ 46 → l ≠ [] → (normG l c).2 < 2 ^ 31
  | [], c, _, _, h => absurd rfl h
  | [x], c, hl, hc, _ => by
    have := hl x (.head _)
    simp only [normG]
    omega
  | x :: y :: l, c, hl, hc, _ => by
    have := hl x (.head _)
    show (normG (y :: l) ((x + c) / 65536)).2 < 2 ^ 31
    exact normG_carry (y :: l) _ (fun z hz => hl z (.tail _ hz)) (by omega) (by simp)

/-- one turn: carries; what comes out at the end comes in again, 38 times -/
def turnG (l : List Nat) : List Nat := match (normG l 0).1 with
  | [] => []
  | x :: r => (x + 38 * (normG l 0).2) :: r

theorem turnG_val {l : List Nat} (h : l ≠ []) : valB 65536 (turnG l) + 65536 ^ l.length * (normG l 0).2 = valB 65536 l + 38 * (normG l 0).2 := by
  obtain ⟨h1, _, h3⟩ := normG_spec l 0
  unfold turnG
  cases hn : (normG l 0).1 with
  | nil => rw [hn] at h1; simp at h1; exact absurd h1.symm (fun e => h (List.eq_nil_of_length_eq_zero e.symm.symm))
  | cons x r =>
    rw [hn] at h3
    simp only [valB_cons] at *
    omega
theorem turnG_length (l : List Nat) : (turnG l).length = l.length := by
  obtain ⟨h1, _⟩ := normG_spec l 0
  unfold turnG
  cases hn : (normG l 0).1 with
  | nil => rw [hn] at h1; simpa using h1
  | cons x r => rw [hn] at h1; simpa using h1
theorem turnG_lt {l : List Nat} (hl : ∀ x ∈ l, x < 2 ^ 46) : ∀ x ∈ turnG l, x < 2 ^ 46 := by
  obtain ⟨h1, h2, _⟩ := normG_spec l 0
  unfold turnG
  cases hn : (normG l 0).1 with
  | nil => simp
  | cons x r =>
    rw [hn] at h1 h2
    have hc := normG_carry l 0 hl (by decide) (fun e => by rw [e] at h1; simp at h1)
    intro y hy
    rcases List.mem_cons.1 hy with rfl | hy
    · have := h2 x (.head _); omega
    · have := h2 y (.tail _ hy); omega
/-- what is small enough is only put in order -/
theorem turnG_ok {l : List Nat} (hl : valB 65536 l < 65536 ^ l.length) (hn : l ≠ []) : valB 65536 (turnG l) = valB 65536 l ∧ ∀ x ∈ turnG l, x < 65536 := by
  obtain ⟨h1, h2, h3⟩ := normG_spec l 0
  have hc : (normG l 0).2 = 0 := by
    cases hc : (normG l 0).2 with
    | zero => rfl
    | succ c =>
      rw [hc, Nat.mul_succ] at h3
      omega
  have hv := turnG_val hn
  rw [hc] at hv
  refine ⟨by omega, ?_⟩
  unfold turnG
  cases hn : (normG l 0).1 with
  | nil => simp
  | cons x r =>
    rw [hn] at h2
    intro y hy
    rw [hc] at hy
    exact h2 y (by simpa using hy)

end Go.Eng

/- Digits of 32 bits by school: sums, differences, products. Plain numbers, no program. -/
namespace Go.Eng

/-- a sum, with a carry -/
def add32 : List Nat → List Nat → Nat → List Nat × Nat
  | x :: l, y :: m, c => ((c + x + y) % 4294967296 :: (add32 l m ((c + x + y) / 4294967296)).1, (add32 l m ((c + x + y) / 4294967296)).2)
  | [], _, c => ([], c)
  | _ :: _, [], c => ([], c)
theorem add32_spec : ∀ (l m : List Nat) (c : Nat), l.length = m.length → (add32 l m c).1.length = l.length ∧ (∀ x ∈ (add32 l m c).1, x < 4294967296) ∧ valB 4294967296 (add32 l m c).1 + 4294967296 ^ l.length * (add32 l m c).2 = valB 4294967296 l + valB 4294967296 m + c
  | [], [], c, _ => by simp [add32, valB]
  | [], _ :: _, _, h => by simp at h
  | _ :: _, [], _, h => by simp at h
  | x :: l, y :: m, c, h => by
    obtain ⟨h1, h2, h3⟩ := add32_spec l m ((c + x + y) / 4294967296) (by simpa using h)
    simp only [add32]
    refine ⟨by simp [h1], ?_, ?_⟩
    · intro z hz
      rcases List.mem_cons.1 hz with rfl | hz
      · exact Nat.mod_lt _ (by decide)
      · exact h2 z hz
    · simp only [valB_cons, List.length_cons, Nat.pow_succ]
      generalize valB 4294967296 (add32 l m ((c + x + y) / 4294967296)).1 = R at *
      generalize (add32 l m ((c + x + y) / 4294967296)).2 = d at *
      generalize valB 4294967296 l = L at *
      generalize valB 4294967296 m = M at *
      rw [Nat.mul_comm (4294967296 ^ l.length) 4294967296, Nat.mul_assoc]
      generalize 4294967296 ^ l.length * d = T at *
      omega

/-- a difference, with a borrow, as the machine has it -/
noncomputable def stkD {α : Type} (a : α) : { b : α // b = a } := Classical.choice ⟨⟨a, rfl⟩⟩
noncomputable def subD : Nat → Nat → Nat → Nat := (stkD fun x q b => (x + 18446744073709551616 - q - b) % 18446744073709551616).1
theorem subD_def (x q b : Nat) : subD x q b = (x + 18446744073709551616 - q - b) % 18446744073709551616 := congrFun (congrFun (congrFun (stkD fun x q b : Nat => (x + 18446744073709551616 - q - b) % 18446744073709551616).2 x) q) b
noncomputable def sub32 : List Nat → List Nat → Nat → List Nat × Nat
  | x :: l, q :: m, b => (subD x q b % 4294967296 :: (sub32 l m (subD x q b / 9223372036854775808)).1, (sub32 l m (subD x q b / 9223372036854775808)).2)
  | [], _, b => ([], b)
  | _ :: _, [], b => ([], b)
theorem subD_spec {x q b : Nat} (hx : x < 4294967296) (hq : q < 4294967296) (hb : b ≤ 1) : subD x q b / 9223372036854775808 ≤ 1 ∧ subD x q b % 4294967296 + q + b = x + 4294967296 * (subD x q b / 9223372036854775808) := by
  rw [subD_def]
  by_cases h : q + b ≤ x
  · have e : (x + 18446744073709551616 - q - b) % 18446744073709551616 = x - q - b := by omega
    rw [e]
    have e2 : (x - q - b) / 9223372036854775808 = 0 := by omega
    have e3 : (x - q - b) % 4294967296 = x - q - b := by omega
    rw [e2, e3]; omega
  · have e : (x + 18446744073709551616 - q - b) % 18446744073709551616 = x + 18446744073709551616 - q - b := by omega
    rw [e]
    have e2 : (x + 18446744073709551616 - q - b) / 9223372036854775808 = 1 := by omega
    have e3 : (x + 18446744073709551616 - q - b) % 4294967296 = x + 4294967296 - q - b := by omega
    rw [e2, e3]; omega
theorem sub32_spec : ∀ (l m : List Nat) (b : Nat), l.length = m.length → (∀ x ∈ l, x < 4294967296) → (∀ x ∈ m, x < 4294967296) → b ≤ 1 →
    (sub32 l m b).1.length = l.length ∧ (∀ x ∈ (sub32 l m b).1, x < 4294967296) ∧ (sub32 l m b).2 ≤ 1 ∧ valB 4294967296 (sub32 l m b).1 + valB 4294967296 m + b = valB 4294967296 l + 4294967296 ^ l.length * (sub32 l m b).2
  | [], [], b, _, _, _, hb => by simp [sub32, valB, hb]
  | [], _ :: _, _, h, _, _, _ => by simp at h
  | _ :: _, [], _, h, _, _, _ => by simp at h
  | x :: l, q :: m, b, h, hl, hm, hb => by
    have hx := hl x (.head _)
    have hq := hm q (.head _)
    obtain ⟨d1, d2⟩ := subD_spec hx hq hb
    obtain ⟨h1, h2, h3, h4⟩ := sub32_spec l m (subD x q b / 9223372036854775808) (by simpa using h) (fun y hy => hl y (.tail _ hy)) (fun y hy => hm y (.tail _ hy)) d1
    simp only [sub32]
    refine ⟨by simp [h1], ?_, h3, ?_⟩
    · intro y hy
      rcases List.mem_cons.1 hy with rfl | hy
      · exact Nat.mod_lt _ (by decide)
      · exact h2 y hy
    · simp only [valB_cons, List.length_cons, Nat.pow_succ]
      generalize subD x q b % 4294967296 = r at *
      generalize subD x q b / 9223372036854775808 = bo at *
      generalize valB 4294967296 (sub32 l m bo).1 = R at *
      generalize (sub32 l m bo).2 = c at *
      generalize valB 4294967296 l = L at *
      generalize valB 4294967296 m = M at *
      rw [Nat.mul_comm (4294967296 ^ l.length) 4294967296, Nat.mul_assoc]
      generalize 4294967296 ^ l.length * c = T at *
      omega
/-- what is small enough to be taken off -/
theorem sub32_fit {l m : List Nat} (h : l.length = m.length) (hl : ∀ x ∈ l, x < 4294967296) (hm : ∀ x ∈ m, x < 4294967296) (hle : valB 4294967296 m ≤ valB 4294967296 l) :
    (sub32 l m 0).1.length = l.length ∧ (∀ x ∈ (sub32 l m 0).1, x < 4294967296) ∧ valB 4294967296 (sub32 l m 0).1 = valB 4294967296 l - valB 4294967296 m := by
  obtain ⟨h1, h2, h3, h4⟩ := sub32_spec l m 0 h hl hm (by decide)
  refine ⟨h1, h2, ?_⟩
  have hr := valB_lt (b := 4294967296) (by decide) h2
  rw [h1] at hr
  have : (sub32 l m 0).2 = 0 := by
    cases hc : (sub32 l m 0).2 with
    | zero => rfl
    | succ c =>
      rw [hc, Nat.mul_succ] at h4
      omega
  rw [this, Nat.mul_zero] at h4
  omega

/-- twice, and a bit -/
def dbl32 : List Nat → Nat → List Nat × Nat
  | [], c => ([], c)
  | x :: l, c => ((2 * x + c) % 4294967296 :: (dbl32 l (x / 2147483648)).1, (dbl32 l (x / 2147483648)).2)
theorem dbl32_spec : ∀ (l : List Nat) (c : Nat), (∀ x ∈ l, x < 4294967296) → c ≤ 1 → (dbl32 l c).1.length = l.length ∧ (∀ x ∈ (dbl32 l c).1, x < 4294967296) ∧ valB 4294967296 (dbl32 l c).1 + 4294967296 ^ l.length * (dbl32 l c).2 = 2 * valB 4294967296 l + c
  | [], c, _, _ => by simp [dbl32, valB]
  | x :: l, c, hl, hc => by
    have hx := hl x (.head _)
    obtain ⟨h1, h2, h3⟩ := dbl32_spec l (x / 2147483648) (fun y hy => hl y (.tail _ hy)) (by omega)
    simp only [dbl32]
    refine ⟨by simp [h1], ?_, ?_⟩
    · intro y hy
      rcases List.mem_cons.1 hy with rfl | hy
      · exact Nat.mod_lt _ (by decide)
      · exact h2 y hy
    · simp only [valB_cons, List.length_cons, Nat.pow_succ]
      generalize valB 4294967296 (dbl32 l (x / 2147483648)).1 = R at *
      generalize (dbl32 l (x / 2147483648)).2 = d at *
      generalize valB 4294967296 l = L at *
      rw [Nat.mul_comm (4294967296 ^ l.length) 4294967296, Nat.mul_assoc]
      generalize 4294967296 ^ l.length * d = T at *
      omega

/-- a row of a product: l and c times x, from here on -/
def mac32 (x : Nat) : List Nat → List Nat → Nat → List Nat × Nat
  | u :: l, y :: m, c => ((c + u + x * y) % 4294967296 :: (mac32 x l m ((c + u + x * y) / 4294967296)).1, (mac32 x l m ((c + u + x * y) / 4294967296)).2)
  | [], _, c => ([], c)
  | _ :: _, [], c => ([], c)
theorem mac32_spec (x : Nat) : ∀ (l m : List Nat) (c : Nat), l.length = m.length → (mac32 x l m c).1.length = l.length ∧ (∀ y ∈ (mac32 x l m c).1, y < 4294967296) ∧ valB 4294967296 (mac32 x l m c).1 + 4294967296 ^ l.length * (mac32 x l m c).2 = valB 4294967296 l + x * valB 4294967296 m + c
  | [], [], c, _ => by simp [mac32, valB]
  | [], _ :: _, _, h => by simp at h
  | _ :: _, [], _, h => by simp at h
  | u :: l, y :: m, c, h => by
    obtain ⟨h1, h2, h3⟩ := mac32_spec x l m ((c + u + x * y) / 4294967296) (by simpa using h)
    simp only [mac32]
    refine ⟨by simp [h1], ?_, ?_⟩
    · intro z hz
      rcases List.mem_cons.1 hz with rfl | hz
      · exact Nat.mod_lt _ (by decide)
      · exact h2 z hz
    · simp only [valB_cons, List.length_cons, Nat.pow_succ]
      generalize valB 4294967296 (mac32 x l m ((c + u + x * y) / 4294967296)).1 = R at *
      generalize (mac32 x l m ((c + u + x * y) / 4294967296)).2 = d at *
      generalize valB 4294967296 l = L at *
      generalize valB 4294967296 m = M at *
      rw [Nat.mul_comm (4294967296 ^ l.length) 4294967296, Nat.mul_assoc, Nat.mul_add x, Nat.mul_left_comm x]
      generalize 4294967296 ^ l.length * d = T at *
      generalize x * M = XM at *
      generalize x * y = XY at *
      omega
theorem mac32_carry (x : Nat) (hx : x < 4294967296) : ∀ (l m : List Nat) (c : Nat), (∀ u ∈ l, u < 4294967296) → (∀ y ∈ m, y < 4294967296) → c < 4294967296 → (mac32 x l m c).2 < 4294967296
  | [], _, c, _, _, hc => hc
  | _ :: _, [], c, _, _, hc => hc
  | u :: l, y :: m, c, hl, hm, hc => by
    have hu := hl u (.head _)
    have hy := hm y (.head _)
    have hxy : x * y ≤ 4294967295 * 4294967295 := Nat.mul_le_mul (by omega) (by omega)
    exact mac32_carry x hx l m _ (fun z hz => hl z (.tail _ hz)) (fun z hz => hm z (.tail _ hz)) (by omega)
end Go.Eng

/- The document's numbers of five digits: the prime, what is below, differences, sums, numbers of bytes. -/
namespace Go.Proofs.Ytiaddnmloonhgaa
open Go Go.Eng
set_option maxRecDepth 100000
set_option linter.unusedVariables false

def okU (x : List Int) : Bool := Nat.beq x.length 5 && x.all fun b => decide (0 ≤ b) && decide (b < 4294967296)
def numU (x : List Int) : Nat := valB 4294967296 (x.map Int.toNat)
theorem okU_of {x : List Int} (h : okU x = true) : ∃ l : List Nat, x = nats l ∧ l.length = 5 ∧ ∀ b ∈ l, b < 4294967296 := by
  unfold okU at h
  rw [Bool.and_eq_true, List.all_eq_true] at h
  obtain ⟨h1, h2⟩ := h
  have h3 : ∀ b ∈ x, 0 ≤ b ∧ b < 4294967296 := fun b hb => by
    have := h2 b hb
    rw [Bool.and_eq_true] at this
    exact ⟨of_decide_eq_true this.1, of_decide_eq_true this.2⟩
  obtain ⟨l, rfl⟩ := nats_of (xs := x) fun b hb => (h3 b hb).1
  exact ⟨l, rfl, by rw [← nats_length]; exact Nat.eq_of_beq_eq_true h1, fun b hb => Int.ofNat_lt.mp (h3 b (List.mem_map.mpr ⟨b, hb, rfl⟩)).2⟩
theorem okU_nats {l : List Nat} (hl : l.length = 5) (h : ∀ b ∈ l, b < 4294967296) : okU (nats l) = true := by
  unfold okU
  rw [nats_length, hl, show Nat.beq 5 5 = true from rfl, Bool.true_and, List.all_eq_true]
  intro b hb
  unfold nats at hb
  obtain ⟨n, hn, rfl⟩ := List.mem_map.mp hb
  have := h n hn
  rw [Bool.and_eq_true]
  exact ⟨decide_eq_true (Int.natCast_nonneg n), decide_eq_true (Int.ofNat_lt.mpr this)⟩
theorem nats_toNat5 (l : List Nat) : (nats l).map Int.toNat = l := by
  unfold nats
  rw [List.map_map]
  exact List.map_id'' (fun _ => rfl) l
theorem numU_nats (l : List Nat) : numU (nats l) = valB 4294967296 l := by unfold numU; rw [nats_toNat5]
noncomputable def nuU : Nat → List Int := (stkD fun v => nats (digs 4294967296 5 v)).1
theorem nuU_def (v : Nat) : nuU v = nats (digs 4294967296 5 v) := congrFun (stkD fun v => nats (digs 4294967296 5 v)).2 v
theorem okU_nuU (v : Nat) : okU (nuU v) = true := by rw [nuU_def]; exact okU_nats (digs_length _ _ _) (digs_lt (by decide))
theorem numU_nuU {v : Nat} (h : v < 2 ^ 160) : numU (nuU v) = v := by
  rw [nuU_def, numU_nats, digs_val, Nat.mod_eq_of_lt (Nat.lt_of_lt_of_le h (by decide))]
theorem nats_nuU {l : List Nat} (hl : l.length = 5) (h : ∀ b ∈ l, b < 4294967296) : nats l = nuU (valB 4294967296 l) := by
  rw [nuU_def, ← hl, digs_of (by decide) h]
theorem numU_lt {x : List Int} (h : okU x = true) : numU x < 2 ^ 160 := by
  obtain ⟨l, rfl, hl, hb⟩ := okU_of h
  rw [numU_nats]
  have := valB_lt (b := 4294967296) (by decide) hb
  rw [hl] at this
  exact Nat.lt_of_lt_of_le this (by decide)

noncomputable def I119 : (R : Type) → List DV → (List DV → Option R) → Option R := fun _ ds k => match ds with
  | [] => k [.v (.one (.ints .u32 5 (nuU p1305)))]
  | _ => none
theorem c119 : Contract Try.prog 119 { sig := S119, impl := I119 } := by
  refine Contract.refine fun R ds k r h => ⟨_, f119_contract 0 ctxOk_nil, ?_⟩
  unfold I119 at h
  split at h
  · rw [f119_raw_eq]
    rw [nuU_def, show nats (digs 4294967296 5 p1305) = [4294967291, 4294967295, 4294967295, 4294967295, 3] by decide] at h
    exact h
  · cases h

/-! ### below -/
theorem cmp_lt {P a b x q S : Nat} (ha : a < P) (hb : b < P) (h : x ≠ q) : decide (a + P * (x + S) < b + P * (q + S)) = decide (x < q) := by
  refine decide_eq_decide.mpr ⟨fun h1 => ?_, fun h1 => ?_⟩
  · apply Nat.lt_of_not_le
    intro h2
    have : P * (q + S + 1) ≤ P * (x + S) := Nat.mul_le_mul_left P (by omega)
    rw [Nat.mul_add, Nat.mul_one] at this
    omega
  · have : P * (x + S + 1) ≤ P * (q + S) := Nat.mul_le_mul_left P (by omega)
    rw [Nat.mul_add, Nat.mul_one] at this
    omega
theorem valU_split (l : List Nat) {m : Nat} (h : m < l.length) : valB 4294967296 l = valB 4294967296 (l.take m) + 4294967296 ^ m * (l.getD m 0 + 4294967296 * valB 4294967296 (l.drop (m + 1))) := by
  conv => lhs; rw [← List.take_append_drop m l]
  rw [valB_append, List.length_take, Nat.min_eq_left (by omega), List.drop_eq_getElem_cons h, valB_cons, List.getD_eq_getElem?_getD, List.getElem?_eq_getElem h]; rfl
theorem takeU_lt {l : List Nat} {m : Nat} (hm : m ≤ l.length) (h : ∀ x ∈ l, x < 4294967296) : valB 4294967296 (l.take m) < 4294967296 ^ m := by
  have := valB_lt (b := 4294967296) (by decide) (l := l.take m) fun x hx => h x (List.mem_of_mem_take hx)
  rwa [List.length_take, Nat.min_eq_left hm] at this
theorem f120_in {R : Type} (N : Nat) (g : Bool → Option R) {d q : List Nat} (hl : d.length = 5) (hd : ∀ x ∈ d, x < 4294967296) (hq : q.length = 5) (hqd : ∀ x ∈ q, x < 4294967296) :
    ∀ m : Nat, m ≤ 5 → d.drop m = q.drop m → ∀ fuel, m < fuel → f120_0_lp N (fun w _ _ _ _ _ => g w) (fun _ _ _ _ => g false) fuel ((m : Int) - 1) (nats d) (nats q) = g (decide (valB 4294967296 d < valB 4294967296 q)) := by
  intro m
  induction m with
  | zero =>
    intro _ he fuel hf
    obtain ⟨f, rfl⟩ : ∃ f, fuel = f + 1 := ⟨fuel - 1, by omega⟩
    rw [List.drop_zero, List.drop_zero] at he
    rw [he, decide_eq_false (Nat.lt_irrefl _)]
    rfl
  | succ m ih =>
    intro hm he fuel hf
    obtain ⟨f, rfl⟩ : ∃ f, fuel = f + 1 := ⟨fuel - 1, by omega⟩
    show f120_0_st N (f120_0_lp N _ _ f) _ _ _ _ _ = _
    rw [show ((m + 1 : Nat) : Int) - 1 = (m : Int) by omega]
    unfold f120_0_st
    rw [decide_eq_true (show (m : Int) ≥ 0 by omega), decide_eq_true (show (m : Int) < 5 by omega)]
    simp only [Bool.and_self, cond_true]
    rw [show (nats d).getD (mulE (Int.toNat (m : Int)) 1) 0 = ((d.getD m 0 : Nat) : Int) from nats_getD d m, show (nats q).getD (mulE (Int.toNat (m : Int)) 1) 0 = ((q.getD m 0 : Nat) : Int) from nats_getD q m]
    have hs := valU_split d (m := m) (by omega)
    have hp := valU_split q (m := m) (by omega)
    have e1 : IntKind.i64.wrap ((m : Int) - 1) = (m : Int) - 1 := by
      cases m with
      | zero => decide
      | succ m => rw [show ((m + 1 : Nat) : Int) - 1 = (m : Int) by omega]; exact wi64 (by omega)
    by_cases h : d.getD m 0 = q.getD m 0
    · rw [h, show ((((q.getD m 0 : Nat) : Int)) != ((q.getD m 0 : Nat) : Int)) = false by simp, cond_false, e1]
      refine ih (by omega) ?_ f (by omega)
      rw [List.drop_eq_getElem_cons (show m < d.length by omega), List.drop_eq_getElem_cons (show m < q.length by omega), he]
      rw [List.getD_eq_getElem?_getD, List.getElem?_eq_getElem (show m < d.length by omega), List.getD_eq_getElem?_getD, List.getElem?_eq_getElem (show m < q.length by omega), Option.getD_some, Option.getD_some] at h
      rw [h]
    · rw [show ((((d.getD m 0 : Nat) : Int)) != ((q.getD m 0 : Nat) : Int)) = true by rw [bne_iff_ne]; omega, cond_true]
      refine congrArg g ?_
      rw [hs, hp, he, cmp_lt (takeU_lt (by omega) hd) (takeU_lt (by omega) hqd) h]
      exact decide_eq_decide.mpr (by omega)
noncomputable def I120 : (R : Type) → List DV → (List DV → Option R) → Option R := fun _ ds k => match ds with
  | [.v (.one (.ints .u32 5 x)), .v (.one (.ints .u32 5 y))] => bif okU x && okU y then k [.v (.one (.bool (decide (numU x < numU y))))] else none
  | _ => none
theorem c120 : Contract Try.prog 120 { sig := S120, impl := I120 } := by
  refine Contract.refine fun R ds k r h => ⟨_, f120_contract 6 ctxOk_nil, ?_⟩
  unfold I120 at h
  split at h
  · rename_i x y
    rcases hc : okU x && okU y with _ | _
    · rw [hc] at h; cases h
    · rw [hc, cond_true] at h
      rw [Bool.and_eq_true] at hc
      rw [f120_raw_eq]
      obtain ⟨l, rfl, hl, hb⟩ := okU_of hc.1
      obtain ⟨m, rfl, hm, hbm⟩ := okU_of hc.2
      rw [numU_nats, numU_nats] at h
      rw [← h]
      exact f120_in 6 (fun b => k [.v (.one (.bool b))]) hl hb hm hbm 5 (Nat.le_refl _) (by rw [List.drop_of_length_le (by omega), List.drop_of_length_le (by omega)]) 6 (by decide)
  · cases h

/-! ### sums and differences -/
theorem ngetD {A B : List Nat} {x : Nat} : (nats (A ++ x :: B)).getD (mulE (Int.toNat (A.length : Int)) 1) 0 = (x : Int) := by
  rw [show mulE (Int.toNat (A.length : Int)) 1 = A.length from rfl, nats_getD, getD_mid rfl]
theorem nset {A B : List Nat} {x : Nat} (y : Nat) : (nats (A ++ x :: B)).set (mulE (Int.toNat (A.length : Int)) 1) (y : Int) = nats (A ++ y :: B) := by
  rw [show mulE (Int.toNat (A.length : Int)) 1 = A.length from rfl, nats_set, set_mid rfl]
theorem app_cons {α : Type} (A B : List α) (y : α) : A ++ y :: B = (A ++ [y]) ++ B := by simp
theorem app_len {α : Type} (A : List α) (y : α) : (A ++ [y]).length = A.length + 1 := by simp
theorem drop_split {q : List Nat} {i : Nat} (hi : i < q.length) : q.drop i = q.getD i 0 :: q.drop (i + 1) := by
  rw [List.getD_eq_getElem?_getD, List.getElem?_eq_getElem hi, Option.getD_some]
  exact List.drop_eq_getElem_cons _
theorem getU_lt {l : List Nat} (h : ∀ x ∈ l, x < 4294967296) (j : Nat) : l.getD j 0 < 4294967296 := by
  rw [List.getD_eq_getElem?_getD]
  cases e : l[j]? with
  | none => exact (by decide : 0 < 4294967296)
  | some a => exact h a (List.mem_of_getElem? e)

theorem f66_in {R : Type} (N : Nat) (k1 : Bool → Int → Int → List Int → List Int → List Int → Option R) (z : List Int) {q : List Nat} (hq : q.length = 5) (hqd : ∀ x ∈ q, x < 4294967296) :
    ∀ (B A : List Nat) (c : Nat), A.length + B.length = 5 → (∀ x ∈ B, x < 4294967296) → c ≤ 4 → ∀ fuel, B.length < fuel →
      f66_0_lp N k1 fuel (c : Int) (A.length : Int) (nats (A ++ B)) (nats q) z = k1 false ((add32 B (q.drop A.length) c).2 : Int) 5 (nats (A ++ (add32 B (q.drop A.length) c).1)) (nats q) z := by
  intro B
  induction B with
  | nil =>
    intro A c hA _ hc fuel hf
    obtain ⟨f, rfl⟩ : ∃ f, fuel = f + 1 := ⟨fuel - 1, by omega⟩
    have hl : A.length = 5 := by simpa using hA
    show f66_0_st N (f66_0_lp N k1 f) k1 _ _ _ _ _ = _
    unfold f66_0_st
    rw [hl]
    rfl
  | cons x B ih =>
    intro A c hA hB hc fuel hf
    obtain ⟨f, rfl⟩ : ∃ f, fuel = f + 1 := ⟨fuel - 1, by omega⟩
    rw [List.length_cons] at hA hf
    have hi : A.length < 5 := by omega
    have hx := hB x (.head _)
    have hy := getU_lt hqd A.length
    show f66_0_st N (f66_0_lp N k1 f) k1 _ _ _ _ _ = _
    unfold f66_0_st
    rw [decide_eq_true (show (A.length : Int) < 5 by omega), decide_eq_true (show 0 ≤ (A.length : Int) by omega), cond_true, Bool.and_self, cond_true, cond_true, cond_true]
    dsimp only
    rw [ngetD, show (nats q).getD (mulE (Int.toNat (A.length : Int)) 1) 0 = ((q.getD A.length 0 : Nat) : Int) from nats_getD q _, drop_split (q := q) (i := A.length) (by omega)]
    generalize q.getD A.length 0 = y at hy
    rw [w64 (n := x) (by omega), w64 (n := y) (by omega), show (c : Int) + (x : Int) = ((c + x : Nat) : Int) from rfl, w64 (n := c + x) (by omega), show ((c + x : Nat) : Int) + (y : Int) = ((c + x + y : Nat) : Int) from rfl, w64 (n := c + x + y) (by omega)]
    have hv : c + x + y < 8589934596 := by omega
    simp only [add32]
    generalize c + x + y = v at hv
    rw [show (32 : Int) = ((32 : Nat) : Int) from rfl, shrN (k := .u64) (m := 32) (by decide), wm32, show (2 : Nat) ^ 32 = 4294967296 from rfl, nset, show (A.length : Int) + 1 = ((A.length + 1 : Nat) : Int) from rfl, wi64 (n := A.length + 1) (by omega)]
    have := ih (A ++ [v % 4294967296]) (v / 4294967296) (by rw [app_len]; omega) (fun y hy => hB y (.tail _ hy)) (by omega) f (by omega)
    rw [app_len, ← app_cons, ← app_cons] at this
    exact this
noncomputable def I66 : (R : Type) → List DV → (List DV → Option R) → Option R := fun _ ds k => match ds with
  | [.v (.one (.ints .u32 5 x)), .v (.one (.ints .u32 5 y))] => bif okU x && (okU y && decide (numU x + numU y < 1461501637330902918203684832716283019655932542976)) then k [.v (.one (.ints .u32 5 (nuU (numU x + numU y))))] else none
  | _ => none
theorem add32_fit {l m : List Nat} (h : l.length = m.length) (hl : l.length = 5) (hv : valB 4294967296 l + valB 4294967296 m < 1461501637330902918203684832716283019655932542976) : nats (add32 l m 0).1 = nuU (valB 4294967296 l + valB 4294967296 m) := by
  obtain ⟨h1, h2, h3⟩ := add32_spec l m 0 h
  have e : (add32 l m 0).2 = 0 := by
    cases hc : (add32 l m 0).2 with
    | zero => rfl
    | succ c =>
      rw [hc, hl, Nat.mul_succ] at h3
      have : 4294967296 ^ 5 = 1461501637330902918203684832716283019655932542976 := by decide
      omega
  rw [e, Nat.mul_zero, Nat.add_zero, Nat.add_zero] at h3
  rw [nats_nuU (by rw [h1, hl]) h2, h3]
theorem c66 : Contract Try.prog 66 { sig := S66, impl := I66 } := by
  refine Contract.refine fun R ds k r h => ⟨_, f66_contract 6 ctxOk_nil, ?_⟩
  unfold I66 at h
  split at h
  · rename_i x y
    rcases hc : okU x && (okU y && decide (numU x + numU y < 1461501637330902918203684832716283019655932542976)) with _ | _
    · rw [hc] at h; cases h
    · rw [hc, cond_true] at h
      rw [Bool.and_eq_true, Bool.and_eq_true, decide_eq_true_eq] at hc
      rw [f66_raw_eq]
      obtain ⟨l, rfl, hl, hb⟩ := okU_of hc.1
      obtain ⟨m, rfl, hm, hbm⟩ := okU_of hc.2.1
      have hv := hc.2.2
      rw [numU_nats, numU_nats] at h hv
      rw [← h, ← add32_fit (by omega) hl hv]
      exact f66_in 6 (fun w0_1 w0_2 w0_3 w0_4 w0_5 w0_6 => k [DV.v (SV.one (At.ints IntKind.u32 5 w0_4))]) (List.replicate 5 0) hm hbm l [] 0 (by simpa using hl) hb (by decide) 6 (by omega)
  · cases h

theorem f121_in {R : Type} (N : Nat) (k1 : Bool → Int → Int → List Int → List Int → List Int → Option R) (z : List Int) {q : List Nat} (hq : q.length = 5) (hqd : ∀ x ∈ q, x < 4294967296) :
    ∀ (B A : List Nat) (b : Nat), A.length + B.length = 5 → (∀ x ∈ B, x < 4294967296) → b ≤ 1 → ∀ fuel, B.length < fuel →
      f121_0_lp N k1 fuel (b : Int) (A.length : Int) (nats (A ++ B)) (nats q) z = k1 false ((sub32 B (q.drop A.length) b).2 : Int) 5 (nats (A ++ (sub32 B (q.drop A.length) b).1)) (nats q) z := by
  intro B
  induction B with
  | nil =>
    intro A b hA _ hb fuel hf
    obtain ⟨f, rfl⟩ : ∃ f, fuel = f + 1 := ⟨fuel - 1, by omega⟩
    have hl : A.length = 5 := by simpa using hA
    show f121_0_st N (f121_0_lp N k1 f) k1 _ _ _ _ _ = _
    unfold f121_0_st
    rw [hl]
    rfl
  | cons x B ih =>
    intro A b hA hB hb fuel hf
    obtain ⟨f, rfl⟩ : ∃ f, fuel = f + 1 := ⟨fuel - 1, by omega⟩
    rw [List.length_cons] at hA hf
    have hi : A.length < 5 := by omega
    have hx := hB x (.head _)
    have hy := getU_lt hqd A.length
    show f121_0_st N (f121_0_lp N k1 f) k1 _ _ _ _ _ = _
    unfold f121_0_st
    rw [decide_eq_true (show (A.length : Int) < 5 by omega), decide_eq_true (show 0 ≤ (A.length : Int) by omega), cond_true, Bool.and_self, cond_true, cond_true, cond_true]
    dsimp only
    rw [ngetD, show (nats q).getD (mulE (Int.toNat (A.length : Int)) 1) 0 = ((q.getD A.length 0 : Nat) : Int) from nats_getD q _, drop_split (q := q) (i := A.length) (by omega)]
    generalize q.getD A.length 0 = y at hy
    rw [w64 (n := x) (by omega), w64 (n := y) (by omega)]
    have hd : IntKind.u64.wrap (IntKind.u64.wrap ((x : Int) - (y : Int)) - (b : Int)) = ((subD x y b : Nat) : Int) := by
      rw [subD_def]
      have m1 : ∀ z : Int, IntKind.u64.wrap z = z % 18446744073709551616 := fun z => by
        unfold IntKind.wrap
        simp only [IntKind.bits, IntKind.signed, Bool.false_and]
        rfl
      rw [m1, m1]
      omega
    rw [hd]
    obtain ⟨d1, d2⟩ := subD_spec hx hy hb
    simp only [sub32]
    generalize subD x y b = v at d1 d2
    rw [show (63 : Int) = ((63 : Nat) : Int) from rfl, shrN (k := .u64) (m := 63) (by decide), wm32, show (2 : Nat) ^ 63 = 9223372036854775808 from by decide, nset, show (A.length : Int) + 1 = ((A.length + 1 : Nat) : Int) from rfl, wi64 (n := A.length + 1) (by omega)]
    have := ih (A ++ [v % 4294967296]) (v / 9223372036854775808) (by rw [app_len]; omega) (fun y hy => hB y (.tail _ hy)) d1 f (by omega)
    rw [app_len, ← app_cons, ← app_cons] at this
    exact this
noncomputable def I121 : (R : Type) → List DV → (List DV → Option R) → Option R := fun _ ds k => match ds with
  | [.v (.one (.ints .u32 5 x)), .v (.one (.ints .u32 5 y))] => bif okU x && (okU y && decide (numU y ≤ numU x)) then k [.v (.one (.ints .u32 5 (nuU (numU x - numU y))))] else none
  | _ => none
theorem c121 : Contract Try.prog 121 { sig := S121, impl := I121 } := by
  refine Contract.refine fun R ds k r h => ⟨_, f121_contract 6 ctxOk_nil, ?_⟩
  unfold I121 at h
  split at h
  · rename_i x y
    rcases hc : okU x && (okU y && decide (numU y ≤ numU x)) with _ | _
    · rw [hc] at h; cases h
    · rw [hc, cond_true] at h
      rw [Bool.and_eq_true, Bool.and_eq_true, decide_eq_true_eq] at hc
      rw [f121_raw_eq]
      obtain ⟨l, rfl, hl, hb⟩ := okU_of hc.1
      obtain ⟨m, rfl, hm, hbm⟩ := okU_of hc.2.1
      have hv := hc.2.2
      rw [numU_nats, numU_nats] at h hv
      obtain ⟨g1, g2, g3⟩ := sub32_fit (l := l) (m := m) (by omega) hb hbm hv
      rw [← h, ← g3, ← nats_nuU (by omega) g2]
      exact f121_in 6 (fun w0_1 w0_2 w0_3 w0_4 w0_5 w0_6 => k [DV.v (SV.one (At.ints IntKind.u32 5 w0_4))]) (List.replicate 5 0) hm hbm l [] 0 (by simpa using hl) hb (by decide) 6 (by omega)
  · cases h
end Go.Proofs.Ytiaddnmloonhgaa

/- The document's number of some bytes. -/
namespace Go.Proofs.Ytiaddnmloonhgaa
open Go Go.Eng
set_option maxRecDepth 100000
set_option linter.unusedVariables false

theorem digs4 : ∀ (m n i x : Nat), n < 256 ^ i → i < 4 * m → x < 256 →
    digs 4294967296 m (n + x * 256 ^ i) = (digs 4294967296 m n).set (i / 4) ((digs 4294967296 m n).getD (i / 4) 0 + x * 256 ^ (i % 4)) ∧ (digs 4294967296 m n).getD (i / 4) 0 < 256 ^ (i % 4)
  | 0, _, _, _, _, h, _ => by omega
  | m + 1, n, i, x, hn, hi, hx => by
    by_cases h4 : i < 4
    · have hp : n + x * 256 ^ i < 4294967296 ∧ n < 4294967296 := by
        have h3 : i = 0 ∨ i = 1 ∨ i = 2 ∨ i = 3 := by omega
        rcases h3 with rfl | rfl | rfl | rfl <;> simp only [Nat.pow_zero, Nat.pow_one, show (256 : Nat) ^ 2 = 65536 from rfl, show (256 : Nat) ^ 3 = 16777216 from by decide +kernel] at * <;> omega
      rw [show i / 4 = 0 by omega, show i % 4 = i by omega]
      simp only [digs, List.set_cons_zero, List.getD_cons_zero]
      rw [Nat.mod_eq_of_lt hp.1, Nat.div_eq_of_lt hp.1, Nat.mod_eq_of_lt hp.2, Nat.div_eq_of_lt hp.2]
      exact ⟨rfl, hn⟩
    · obtain ⟨j, rfl⟩ : ∃ j, i = j + 4 := ⟨i - 4, by omega⟩
      have hW : (256 : Nat) ^ (j + 4) = 256 ^ j * 4294967296 := by rw [Nat.pow_add, show (256 : Nat) ^ 4 = 4294967296 from by decide +kernel]
      have e : x * 256 ^ (j + 4) = x * 256 ^ j * 4294967296 := by rw [hW, Nat.mul_assoc]
      rw [show (j + 4) / 4 = j / 4 + 1 by omega, show (j + 4) % 4 = j % 4 by omega]
      simp only [digs, List.set_cons_succ, List.getD_cons_succ]
      rw [e, Nat.add_mul_mod_self_right, Nat.add_mul_div_right _ _ (by decide)]
      have hd : n / 4294967296 < 256 ^ j := Nat.div_lt_of_lt_mul (by rw [Nat.mul_comm, ← hW]; exact hn)
      obtain ⟨h1, h2⟩ := digs4 m (n / 4294967296) j x hd (by omega) hx
      rw [h1]
      exact ⟨rfl, h2⟩
theorem take_valY (l : List Nat) {i : Nat} (h : i < l.length) : valB 256 (l.take (i + 1)) = valB 256 (l.take i) + l.getD i 0 * 256 ^ i := by
  rw [List.take_add_one, List.getElem?_eq_getElem h, Option.toList_some, valB_append, List.length_take, Nat.min_eq_left (by omega), List.getD_eq_getElem?_getD, List.getElem?_eq_getElem h, Option.getD_some]
  simp only [valB, Nat.mul_zero, Nat.add_zero]
  rw [Nat.mul_comm]
theorem pow256 (j : Nat) : (256 : Nat) ^ j = 2 ^ (8 * j) := by rw [Nat.pow_mul]

theorem f64_in {R : Type} (N : Nat) (k1 : Bool → Int → List Int → List Int → List Int → Option R) (z : List Int) {l : List Nat} (hl : l.length ≤ 20) (hb : ∀ x ∈ l, x < 256) :
    ∀ j i : Nat, i + j = l.length → ∀ fuel, j < fuel → f64_0_lp N k1 fuel (i : Int) (nats l) z (nats (digs 4294967296 5 (valB 256 (l.take i)))) = k1 false (l.length : Int) (nats l) z (nats (digs 4294967296 5 (valB 256 l))) := by
  intro j
  induction j with
  | zero =>
    intro i hi fuel hf
    obtain ⟨f, rfl⟩ : ∃ f, fuel = f + 1 := ⟨fuel - 1, by omega⟩
    have : i = l.length := by omega
    subst this
    show f64_0_st N (f64_0_lp N k1 f) k1 _ _ _ _ = _
    unfold f64_0_st
    rw [show nI (rowLen 1 (nats l)) = (l.length : Int) from by show (((nats l).length : Nat) : Int) = _; rw [nats_length], decide_eq_false (by omega), cond_false, List.take_length]
  | succ j ih =>
    intro i hi fuel hf
    obtain ⟨f, rfl⟩ : ∃ f, fuel = f + 1 := ⟨fuel - 1, by omega⟩
    have hlen : i < l.length := by omega
    have hx : l.getD i 0 < 256 := by
      rw [List.getD_eq_getElem?_getD, List.getElem?_eq_getElem hlen]; exact hb _ (List.getElem_mem _)
    show f64_0_st N (f64_0_lp N k1 f) k1 _ _ _ _ = _
    unfold f64_0_st
    have e1 : IntKind.i64.wrap ((i : Int).tdiv 4) = ((i / 4 : Nat) : Int) := by rw [show (i : Int).tdiv 4 = ((i / 4 : Nat) : Int) from rfl]; exact wi64 (by omega)
    have e2 : IntKind.i64.wrap (8 * (i : Int).tmod 4) = ((8 * (i % 4) : Nat) : Int) := by
      rw [show (i : Int).tmod 4 = ((i % 4 : Nat) : Int) from rfl, show (8 : Int) * ((i % 4 : Nat) : Int) = ((8 * (i % 4) : Nat) : Int) by omega]; exact wi64 (by omega)
    have e3 : IntKind.u64.wrap ((8 * (i % 4) : Nat) : Int) = ((8 * (i % 4) : Nat) : Int) := w64 (by omega)
    have e4 : IntKind.i64.wrap ((i : Int) + 1) = ((i + 1 : Nat) : Int) := by
      rw [show (i : Int) + 1 = ((i + 1 : Nat) : Int) by omega]; exact wi64 (by omega)
    rw [show nI (rowLen 1 (nats l)) = (l.length : Int) from by show (((nats l).length : Nat) : Int) = _; rw [nats_length]]
    dsimp only
    rw [e1, e2, e3, e4, decide_eq_true (show (i : Int) < (l.length : Int) by omega), decide_eq_true (show 0 ≤ ((i / 4 : Nat) : Int) by omega), decide_eq_true (show ((i / 4 : Nat) : Int) < 5 by omega), decide_eq_true (show 0 ≤ (i : Int) by omega), decide_eq_true (show 0 ≤ ((8 * (i % 4) : Nat) : Int) by omega)]
    simp only [Bool.and_self, cond_true]
    rw [show (nats l).getD (mulE (Int.toNat (i : Int)) 1) 0 = ((l.getD i 0 : Nat) : Int) from nats_getD l i, w32 (n := l.getD i 0) (by omega)]
    rw [show mulE (Int.toNat ((i / 4 : Nat) : Int)) 1 = i / 4 from rfl, nats_getD, shlN (k := .u32) rfl (m := 8 * (i % 4)) (show _ ≤ 32 by omega)]
    have htl : valB 256 (l.take i) < 256 ^ i := by
      have := valB_lt (b := 256) (by decide) (l := l.take i) fun x hx => hb x (List.mem_of_mem_take hx)
      rwa [List.length_take, Nat.min_eq_left (by omega)] at this
    obtain ⟨g1, g2⟩ := digs4 5 (valB 256 (l.take i)) i (l.getD i 0) htl (by omega) hx
    have hnext := ih (i + 1) (by omega) f (by omega)
    rw [take_valY l hlen, g1] at hnext
    have hsh : l.getD i 0 * 2 ^ (8 * (i % 4)) % 2 ^ IntKind.u32.bits = l.getD i 0 * 2 ^ (8 * (i % 4)) := by
      rw [bits32]
      have h3 : i % 4 = 0 ∨ i % 4 = 1 ∨ i % 4 = 2 ∨ i % 4 = 3 := by omega
      refine Nat.mod_eq_of_lt ?_
      have hle : 2 ^ (8 * (i % 4)) ≤ 16777216 := by
        have : 2 ^ (8 * (i % 4)) ≤ 2 ^ 24 := Nat.pow_le_pow_right (by decide) (by omega)
        rwa [p24] at this
      calc l.getD i 0 * 2 ^ (8 * (i % 4)) ≤ 255 * 16777216 := Nat.mul_le_mul (by omega) hle
        _ < 4294967296 := by decide +kernel
    rw [hsh]
    generalize hg : (digs 4294967296 5 (valB 256 (l.take i))).getD (i / 4) 0 = g at *
    have hgl : g < 4294967296 := by
      have hle : 256 ^ (i % 4) ≤ 4294967296 := by
        have : (256 : Nat) ^ (i % 4) ≤ 256 ^ 4 := Nat.pow_le_pow_right (by decide) (by omega)
        rwa [show (256 : Nat) ^ 4 = 4294967296 from by decide +kernel] at this
      omega
    have hsl : l.getD i 0 * 2 ^ (8 * (i % 4)) < 4294967296 := by
      rw [bits32] at hsh
      rw [← hsh]; exact Nat.mod_lt _ (by decide)
    rw [orN (k := .u32) rfl (show _ < 2 ^ 32 from hgl) (show _ < 2 ^ 32 from hsl), or_addN' (by rw [← pow256]; exact g2), ← pow256, nats_set]
    exact hnext
def numY (x : List Int) : Nat := valB 256 (x.map Int.toNat)
theorem numY_nats (l : List Nat) : numY (nats l) = valB 256 l := by unfold numY; rw [nats_toNat5]
def okY (n : Nat) (x : List Int) : Bool := Nat.ble x.length n && x.all fun b => decide (0 ≤ b) && decide (b < 256)
theorem okY_of {n : Nat} {x : List Int} (h : okY n x = true) : ∃ l : List Nat, x = nats l ∧ l.length ≤ n ∧ ∀ b ∈ l, b < 256 := by
  unfold okY at h
  rw [Bool.and_eq_true, List.all_eq_true] at h
  obtain ⟨h1, h2⟩ := h
  have h3 : ∀ b ∈ x, 0 ≤ b ∧ b < 256 := fun b hb => by
    have := h2 b hb
    rw [Bool.and_eq_true] at this
    exact ⟨of_decide_eq_true this.1, of_decide_eq_true this.2⟩
  obtain ⟨l, rfl⟩ := nats_of (xs := x) fun b hb => (h3 b hb).1
  exact ⟨l, rfl, by rw [← nats_length]; exact Nat.le_of_ble_eq_true h1, fun b hb => Int.ofNat_lt.mp (h3 b (List.mem_map.mpr ⟨b, hb, rfl⟩)).2⟩
theorem okY_mk {n : Nat} {x : List Int} (hl : x.length ≤ n) (h : Bytes x) : okY n x = true := by
  unfold okY
  rw [show Nat.ble x.length n = true from Nat.ble_eq_true_of_le hl, Bool.true_and, List.all_eq_true]
  intro b hb
  rw [Bool.and_eq_true]
  exact ⟨decide_eq_true (h b hb).1, decide_eq_true (h b hb).2⟩
noncomputable def I64 : (R : Type) → List DV → (List DV → Option R) → Option R := fun _ ds k => match ds with
  | [.lst .u8 1 e] => bif okY 20 e then k [.v (.one (.ints .u32 5 (nuU (numY e))))] else none
  | _ => none
theorem c64 : Contract Try.prog 64 { sig := S64, impl := I64 } := by
  refine Contract.refine fun R ds k r h => ?_
  unfold I64 at h
  split at h
  · rename_i e
    refine ⟨_, f64_contract 21 ctxOk_nil, ?_⟩
    rcases hc : okY 20 e with _ | _
    · rw [hc] at h; cases h
    · rw [hc, cond_true] at h
      rw [f64_raw_eq]
      obtain ⟨l, rfl, hl, hb⟩ := okY_of hc
      rw [numY_nats, nuU_def] at h
      rw [← h]
      have := f64_in 21 (fun w0_1 w0_2 w0_3 w0_4 w0_5 => k [DV.v (SV.one (At.ints IntKind.u32 5 w0_5))]) (List.replicate 5 0) hl hb l.length 0 (by omega) 21 (by omega)
      rw [List.take_zero, show valB 256 ([] : List Nat) = 0 from rfl, show nats (digs 4294967296 5 0) = List.replicate 5 0 from by decide] at this
      exact this
  · exact (Option.some_ne_none _ h.symm).elim
noncomputable def Q95 : Ctx := (119, { sig := S119, impl := I119 }) :: (120, { sig := S120, impl := I120 }) :: (121, { sig := S121, impl := I121 }) :: []
theorem Q95_ok : CtxOk Try.prog Q95 := ctxOk_cons ok119 rfl c119 (ctxOk_cons ok120 rfl c120 (ctxOk_cons ok121 rfl c121 ctxOk_nil))
end Go.Proofs.Ytiaddnmloonhgaa

/- What rime/rimeref12.mod comes to. MADE BY PROGRAM (wip/tools/mkfn.py, EngGen.lean). -/
namespace Go.Proofs.Ytiaddnmloonhgaa
open Go Go.Eng
set_option maxRecDepth 100000
set_option linter.unusedVariables false

def f95_4_sh : Shp := { n := 55, lo := 1, slots := [(0, .one (.fix (At.own 0))), (2, .one (.fix (At.ptr 2 0 Off.z 5))), (3, .one (.fix (At.ptr 3 0 Off.z 5))), (4, .one (.fix (At.ptr 4 0 Off.z 5))), (5, .one (.int IntKind.i64)), (6, .one (.int IntKind.i64)), (7, .one (.int IntKind.u32)), (8, .one (.int IntKind.i64))], items := [(0, .view IntKind.u32 1), (2, .obj [.ints IntKind.u32 5]), (3, .obj [.ints IntKind.u32 5]), (4, .obj [.ints IntKind.u32 5])] }
def f95_4_ex1 : Shp := { n := 55, lo := 1, slots := [(31, .one (.bool)), (0, .one (.fix (At.own 0))), (2, .one (.fix (At.ptr 2 0 Off.z 5))), (3, .one (.fix (At.ptr 3 0 Off.z 5))), (4, .one (.fix (At.ptr 4 0 Off.z 5))), (5, .one (.int IntKind.i64)), (6, .one (.int IntKind.i64)), (7, .one (.int IntKind.u32)), (8, .one (.int IntKind.i64))], items := [(0, .view IntKind.u32 1), (2, .obj [.ints IntKind.u32 5]), (3, .obj [.ints IntKind.u32 5]), (4, .obj [.ints IntKind.u32 5])] }
noncomputable def f95_4_st {R : Type} (N : Nat) (self : Int → Int → Int → Int → List Int → List Int → List Int → List Int → Option R) (k1 : Bool → Int → Int → Int → Int → List Int → List Int → List Int → List Int → Option R) (x1 : Int) (x2 : Int) (x3 : Int) (x4 : Int) (x5 : List Int) (x6 : List Int) (x7 : List Int) (x8 : List Int) : Option R :=
 bif Decidable.decide (x4 < 5) then
 bif Decidable.decide (0 ≤ x4) && Decidable.decide (x4 < 5) then
 bif Decidable.decide (0 ≤ x4) && Decidable.decide (x4 < 5) then
 bif Decidable.decide (0 ≤ x4) && Decidable.decide (x4 < 5) then
 let v0 : Int := shrI IntKind.u32 (x7.getD (mulE x4.toNat 1) 0) 31;
 let v1 : Int := IntKind.i64.wrap (x4 + 1);
 let v2 : Int := shlI IntKind.u32 (x7.getD (mulE x4.toNat 1) 0) 1;
 let v3 : Int := orI IntKind.u32 v2 x3;
 let v4 : List Int := x7.set (mulE x4.toNat 1) v3;
 self x1 x2 v0 v1 x5 x6 v4 x8
 else Option.none
 else Option.none
 else Option.none
else k1 (Decidable.decide (x4 < 5)) x1 x2 x3 x4 x5 x6 x7 x8
noncomputable def f95_4_lp {R : Type} (N : Nat) (k1 : Bool → Int → Int → Int → Int → List Int → List Int → List Int → List Int → Option R) : Nat → Int → Int → Int → Int → List Int → List Int → List Int → List Int → Option R
 | 0, _, _, _, _, _, _, _, _ => none
 | n + 1, x1, x2, x3, x4, x5, x6, x7, x8 => f95_4_st N (f95_4_lp N k1 n) k1 x1 x2 x3 x4 x5 x6 x7 x8
noncomputable def f95_4_F (N : Nat) : (R : Type) → List Leaf → (X → AS → Option R) → Option R := fun _ ls K => match ls with
 | [.i x1, .i x2, .i x3, .i x4, .l x5, .l x6, .l x7, .l x8] => f95_4_lp N (fun y1 y2 y3 y4 y5 y6 y7 y8 y9 => K (X.normal) (fill f95_4_ex1 [.b y1, .i y2, .i y3, .i y4, .i y5, .l y6, .l y7, .l y8, .l y9])) N x1 x2 x3 x4 x5 x6 x7 x8
 | _ => none
def f95_2_sh : Shp := { n := 55, lo := 1, slots := [(0, .one (.fix (At.own 0))), (2, .one (.fix (At.ptr 2 0 Off.z 5))), (3, .one (.fix (At.ptr 3 0 Off.z 5))), (4, .one (.fix (At.ptr 4 0 Off.z 5))), (5, .one (.int IntKind.i64)), (6, .one (.int IntKind.i64))], items := [(0, .view IntKind.u32 1), (2, .obj [.ints IntKind.u32 5]), (3, .obj [.ints IntKind.u32 5]), (4, .obj [.ints IntKind.u32 5])] }
def f95_2_ex1 : Shp := { n := 55, lo := 1, slots := [(19, .one (.bool)), (0, .one (.fix (At.own 0))), (2, .one (.fix (At.ptr 2 0 Off.z 5))), (3, .one (.fix (At.ptr 3 0 Off.z 5))), (4, .one (.fix (At.ptr 4 0 Off.z 5))), (5, .one (.int IntKind.i64)), (6, .one (.int IntKind.i64))], items := [(0, .view IntKind.u32 1), (2, .obj [.ints IntKind.u32 5]), (3, .obj [.ints IntKind.u32 5]), (4, .obj [.ints IntKind.u32 5])] }
noncomputable def f95_2_st {R : Type} (N : Nat) (self : Int → Int → List Int → List Int → List Int → List Int → Option R) (k1 : Bool → Int → Int → List Int → List Int → List Int → List Int → Option R) (x1 : Int) (x2 : Int) (x3 : List Int) (x4 : List Int) (x5 : List Int) (x6 : List Int) : Option R :=
 bif Decidable.decide (x2 ≥ 0) then
 bif Decidable.decide (0 ≤ x1) && Decidable.decide (x1 < nI (rowLen 1 x3)) then
 let v0 : Int := IntKind.u64.wrap x2;
 bif Decidable.decide (0 ≤ v0) then
 let v1 : Int := shrI IntKind.u32 (x3.getD (mulE x1.toNat 1) 0) v0;
 let v2 : Int := andI IntKind.u32 v1 1;
 f95_4_lp N
 (fun w3_1 w3_2 w3_3 w3_4 w3_5 w3_6 w3_7 w3_8 w3_9 =>
 bif okU w3_8 && okU w3_9 then
 bif !Decidable.decide (numU w3_8 < numU w3_9) then
 bif okU w3_8 && (okU w3_9 && Decidable.decide (numU w3_9 ≤ numU w3_8)) then
 let v4 : Int := IntKind.i64.wrap (w3_3 - 1);
 self w3_2 v4 w3_6 w3_7 (nuU (numU w3_8 - numU w3_9)) w3_9
 else Option.none
 else
 let v5 : Int := IntKind.i64.wrap (w3_3 - 1);
 self w3_2 v5 w3_6 w3_7 w3_8 w3_9
 else Option.none)
 N x1 x2 v2 0 x3 x4 x5 x6
 else Option.none
 else Option.none
else k1 (Decidable.decide (x2 ≥ 0)) x1 x2 x3 x4 x5 x6
noncomputable def f95_2_lp {R : Type} (N : Nat) (k1 : Bool → Int → Int → List Int → List Int → List Int → List Int → Option R) : Nat → Int → Int → List Int → List Int → List Int → List Int → Option R
 | 0, _, _, _, _, _, _ => none
 | n + 1, x1, x2, x3, x4, x5, x6 => f95_2_st N (f95_2_lp N k1 n) k1 x1 x2 x3 x4 x5 x6
noncomputable def f95_2_F (N : Nat) : (R : Type) → List Leaf → (X → AS → Option R) → Option R := fun _ ls K => match ls with
 | [.i x1, .i x2, .l x3, .l x4, .l x5, .l x6] => f95_2_lp N (fun y1 y2 y3 y4 y5 y6 y7 => K (X.normal) (fill f95_2_ex1 [.b y1, .i y2, .i y3, .l y4, .l y5, .l y6, .l y7])) N x1 x2 x3 x4 x5 x6
 | _ => none
def f95_0_sh : Shp := { n := 55, lo := 1, slots := [(0, .one (.fix (At.own 0))), (2, .one (.fix (At.ptr 2 0 Off.z 5))), (3, .one (.fix (At.ptr 3 0 Off.z 5))), (4, .one (.fix (At.ptr 4 0 Off.z 5))), (5, .one (.int IntKind.i64))], items := [(0, .view IntKind.u32 1), (2, .obj [.ints IntKind.u32 5]), (3, .obj [.ints IntKind.u32 5]), (4, .obj [.ints IntKind.u32 5])] }
def f95_0_ex1 : Shp := { n := 55, lo := 1, slots := [(15, .one (.bool)), (0, .one (.fix (At.own 0))), (2, .one (.fix (At.ptr 2 0 Off.z 5))), (3, .one (.fix (At.ptr 3 0 Off.z 5))), (4, .one (.fix (At.ptr 4 0 Off.z 5))), (5, .one (.int IntKind.i64))], items := [(0, .view IntKind.u32 1), (2, .obj [.ints IntKind.u32 5]), (3, .obj [.ints IntKind.u32 5]), (4, .obj [.ints IntKind.u32 5])] }
noncomputable def f95_0_st {R : Type} (N : Nat) (self : Int → List Int → List Int → List Int → List Int → Option R) (k1 : Bool → Int → List Int → List Int → List Int → List Int → Option R) (x1 : Int) (x2 : List Int) (x3 : List Int) (x4 : List Int) (x5 : List Int) : Option R :=
 bif Decidable.decide (x1 ≥ 0) then
 f95_2_lp N
 (fun w0_1 w0_2 w0_3 w0_4 w0_5 w0_6 w0_7 =>
 let v1 : Int := IntKind.i64.wrap (w0_2 - 1);
 self v1 w0_4 w0_5 w0_6 w0_7)
 N x1 31 x2 x3 x4 x5
else k1 (Decidable.decide (x1 ≥ 0)) x1 x2 x3 x4 x5
noncomputable def f95_0_lp {R : Type} (N : Nat) (k1 : Bool → Int → List Int → List Int → List Int → List Int → Option R) : Nat → Int → List Int → List Int → List Int → List Int → Option R
 | 0, _, _, _, _, _ => none
 | n + 1, x1, x2, x3, x4, x5 => f95_0_st N (f95_0_lp N k1 n) k1 x1 x2 x3 x4 x5
noncomputable def f95_0_F (N : Nat) : (R : Type) → List Leaf → (X → AS → Option R) → Option R := fun _ ls K => match ls with
 | [.i x1, .l x2, .l x3, .l x4, .l x5] => f95_0_lp N (fun y1 y2 y3 y4 y5 y6 => K (X.normal) (fill f95_0_ex1 [.b y1, .i y2, .l y3, .l y4, .l y5, .l y6])) N x1 x2 x3 x4 x5
 | _ => none
noncomputable def f95_raw {R : Type} (N : Nat) (l : List Int) (k : List DV → Option R) : Option R :=
 let v0 : Int := IntKind.i64.wrap (nI (rowLen 1 l) - 1);
f95_0_lp N (fun w1_1 w1_2 w1_3 w1_4 w1_5 w1_6 => k [DV.v (SV.one (At.ints IntKind.u32 5 w1_5))]) N v0 l (List.replicate 5 0) (List.replicate 5 0) (nuU p1305)


noncomputable def E95 (N : Nat) : Env := { Θ := Th, Γ := Q95, K := K95, ν := N95, fuel := 0, lp := [(0, mkL N95_0 f95_0_sh (f95_0_F N)), (2, mkL N95_2 f95_2_sh (f95_2_F N)), (4, mkL N95_4 f95_4_sh (f95_4_F N))] }

theorem f95_4_st_eq {R : Type} (N : Nat) (K : X → AS → Option R) (n : Nat) (x1 : Int) (x2 : Int) (x3 : Int) (x4 : Int) (x5 : List Int) (x6 : List Int) (x7 : List Int) (x8 : List Int) : roundsOf (E95 N) N95_4 4 B95_4 K (n + 1) (fill f95_4_sh [.i x1, .i x2, .i x3, .i x4, .l x5, .l x6, .l x7, .l x8]) = f95_4_st N (fun x1 x2 x3 x4 x5 x6 x7 x8 => roundsOf (E95 N) N95_4 4 B95_4 K n (fill f95_4_sh [.i x1, .i x2, .i x3, .i x4, .l x5, .l x6, .l x7, .l x8])) (fun y1 y2 y3 y4 y5 y6 y7 y8 y9 => K (X.normal) (fill f95_4_ex1 [.b y1, .i y2, .i y3, .i y4, .i y5, .l y6, .l y7, .l y8, .l y9])) x1 x2 x3 x4 x5 x6 x7 x8 := by kernel_rfl
theorem f95_4_lp_eq {R : Type} (N : Nat) (K : X → AS → Option R) : ∀ (n : Nat) (x1 : Int) (x2 : Int) (x3 : Int) (x4 : Int) (x5 : List Int) (x6 : List Int) (x7 : List Int) (x8 : List Int), roundsOf (E95 N) N95_4 4 B95_4 K n (fill f95_4_sh [.i x1, .i x2, .i x3, .i x4, .l x5, .l x6, .l x7, .l x8]) = f95_4_lp N (fun y1 y2 y3 y4 y5 y6 y7 y8 y9 => K (X.normal) (fill f95_4_ex1 [.b y1, .i y2, .i y3, .i y4, .i y5, .l y6, .l y7, .l y8, .l y9])) n x1 x2 x3 x4 x5 x6 x7 x8
  | 0, _, _, _, _, _, _, _, _ => rfl
  | n + 1, x1, x2, x3, x4, x5, x6, x7, x8 => by
    rw [f95_4_st_eq, f95_4_lp, show (fun x1 x2 x3 x4 x5 x6 x7 x8 => roundsOf (E95 N) N95_4 4 B95_4 K n (fill f95_4_sh [.i x1, .i x2, .i x3, .i x4, .l x5, .l x6, .l x7, .l x8])) = f95_4_lp N (fun y1 y2 y3 y4 y5 y6 y7 y8 y9 => K (X.normal) (fill f95_4_ex1 [.b y1, .i y2, .i y3, .i y4, .i y5, .l y6, .l y7, .l y8, .l y9])) n from by funext x1 x2 x3 x4 x5 x6 x7 x8; exact f95_4_lp_eq N K n x1 x2 x3 x4 x5 x6 x7 x8]
theorem f95_4_ok (N : Nat) (hlp : LoopsOk Try.prog (E95 N).lp B95_4) (hΓ : CtxOk Try.prog (E95 N).Γ) : LoopOk Try.prog (mkL N95_4 f95_4_sh (f95_4_F N)) 4 B95_4 := by
  refine loopOk_of (E := E95 N) thOk hΓ mixed hlp ?_
  intro R ls K r h
  unfold f95_4_F at h
  split at h
  · exact ⟨N, by rw [f95_4_lp_eq]; exact h⟩
  · cases h
theorem f95_2_st_eq {R : Type} (N : Nat) (K : X → AS → Option R) (n : Nat) (x1 : Int) (x2 : Int) (x3 : List Int) (x4 : List Int) (x5 : List Int) (x6 : List Int) : roundsOf (E95 N) N95_2 2 B95_2 K (n + 1) (fill f95_2_sh [.i x1, .i x2, .l x3, .l x4, .l x5, .l x6]) = f95_2_st N (fun x1 x2 x3 x4 x5 x6 => roundsOf (E95 N) N95_2 2 B95_2 K n (fill f95_2_sh [.i x1, .i x2, .l x3, .l x4, .l x5, .l x6])) (fun y1 y2 y3 y4 y5 y6 y7 => K (X.normal) (fill f95_2_ex1 [.b y1, .i y2, .i y3, .l y4, .l y5, .l y6, .l y7])) x1 x2 x3 x4 x5 x6 := by kernel_rfl
theorem f95_2_lp_eq {R : Type} (N : Nat) (K : X → AS → Option R) : ∀ (n : Nat) (x1 : Int) (x2 : Int) (x3 : List Int) (x4 : List Int) (x5 : List Int) (x6 : List Int), roundsOf (E95 N) N95_2 2 B95_2 K n (fill f95_2_sh [.i x1, .i x2, .l x3, .l x4, .l x5, .l x6]) = f95_2_lp N (fun y1 y2 y3 y4 y5 y6 y7 => K (X.normal) (fill f95_2_ex1 [.b y1, .i y2, .i y3, .l y4, .l y5, .l y6, .l y7])) n x1 x2 x3 x4 x5 x6
  | 0, _, _, _, _, _, _ => rfl
  | n + 1, x1, x2, x3, x4, x5, x6 => by
    rw [f95_2_st_eq, f95_2_lp, show (fun x1 x2 x3 x4 x5 x6 => roundsOf (E95 N) N95_2 2 B95_2 K n (fill f95_2_sh [.i x1, .i x2, .l x3, .l x4, .l x5, .l x6])) = f95_2_lp N (fun y1 y2 y3 y4 y5 y6 y7 => K (X.normal) (fill f95_2_ex1 [.b y1, .i y2, .i y3, .l y4, .l y5, .l y6, .l y7])) n from by funext x1 x2 x3 x4 x5 x6; exact f95_2_lp_eq N K n x1 x2 x3 x4 x5 x6]
theorem f95_2_ok (N : Nat) (hlp : LoopsOk Try.prog (E95 N).lp B95_2) (hΓ : CtxOk Try.prog (E95 N).Γ) : LoopOk Try.prog (mkL N95_2 f95_2_sh (f95_2_F N)) 2 B95_2 := by
  refine loopOk_of (E := E95 N) thOk hΓ mixed hlp ?_
  intro R ls K r h
  unfold f95_2_F at h
  split at h
  · exact ⟨N, by rw [f95_2_lp_eq]; exact h⟩
  · cases h
theorem f95_0_st_eq {R : Type} (N : Nat) (K : X → AS → Option R) (n : Nat) (x1 : Int) (x2 : List Int) (x3 : List Int) (x4 : List Int) (x5 : List Int) : roundsOf (E95 N) N95_0 0 B95_0 K (n + 1) (fill f95_0_sh [.i x1, .l x2, .l x3, .l x4, .l x5]) = f95_0_st N (fun x1 x2 x3 x4 x5 => roundsOf (E95 N) N95_0 0 B95_0 K n (fill f95_0_sh [.i x1, .l x2, .l x3, .l x4, .l x5])) (fun y1 y2 y3 y4 y5 y6 => K (X.normal) (fill f95_0_ex1 [.b y1, .i y2, .l y3, .l y4, .l y5, .l y6])) x1 x2 x3 x4 x5 := by kernel_rfl
theorem f95_0_lp_eq {R : Type} (N : Nat) (K : X → AS → Option R) : ∀ (n : Nat) (x1 : Int) (x2 : List Int) (x3 : List Int) (x4 : List Int) (x5 : List Int), roundsOf (E95 N) N95_0 0 B95_0 K n (fill f95_0_sh [.i x1, .l x2, .l x3, .l x4, .l x5]) = f95_0_lp N (fun y1 y2 y3 y4 y5 y6 => K (X.normal) (fill f95_0_ex1 [.b y1, .i y2, .l y3, .l y4, .l y5, .l y6])) n x1 x2 x3 x4 x5
  | 0, _, _, _, _, _ => rfl
  | n + 1, x1, x2, x3, x4, x5 => by
    rw [f95_0_st_eq, f95_0_lp, show (fun x1 x2 x3 x4 x5 => roundsOf (E95 N) N95_0 0 B95_0 K n (fill f95_0_sh [.i x1, .l x2, .l x3, .l x4, .l x5])) = f95_0_lp N (fun y1 y2 y3 y4 y5 y6 => K (X.normal) (fill f95_0_ex1 [.b y1, .i y2, .l y3, .l y4, .l y5, .l y6])) n from by funext x1 x2 x3 x4 x5; exact f95_0_lp_eq N K n x1 x2 x3 x4 x5]
theorem f95_0_ok (N : Nat) (hlp : LoopsOk Try.prog (E95 N).lp B95_0) (hΓ : CtxOk Try.prog (E95 N).Γ) : LoopOk Try.prog (mkL N95_0 f95_0_sh (f95_0_F N)) 0 B95_0 := by
  refine loopOk_of (E := E95 N) thOk hΓ mixed hlp ?_
  intro R ls K r h
  unfold f95_0_F at h
  split at h
  · exact ⟨N, by rw [f95_0_lp_eq]; exact h⟩
  · cases h

theorem lok95_4 (N : Nat) (hΓ : CtxOk Try.prog Q95) : LoopOk Try.prog (mkL N95_4 f95_4_sh (f95_4_F N)) 4 B95_4 := f95_4_ok N (loopsOk_of (l := []) (by kernel_rfl) trivial) hΓ
theorem lok95_2 (N : Nat) (hΓ : CtxOk Try.prog Q95) : LoopOk Try.prog (mkL N95_2 f95_2_sh (f95_2_F N)) 2 B95_2 := f95_2_ok N (loopsOk_of (l := [(4, B95_4)]) (by kernel_rfl) (allOk_cons (L := mkL N95_4 f95_4_sh (f95_4_F N)) rfl (lok95_4 N hΓ) trivial)) hΓ
theorem lok95_0 (N : Nat) (hΓ : CtxOk Try.prog Q95) : LoopOk Try.prog (mkL N95_0 f95_0_sh (f95_0_F N)) 0 B95_0 := f95_0_ok N (loopsOk_of (l := [(2, B95_2), (4, B95_4)]) (by kernel_rfl) (allOk_cons (L := mkL N95_2 f95_2_sh (f95_2_F N)) rfl (lok95_2 N hΓ) (allOk_cons (L := mkL N95_4 f95_4_sh (f95_4_F N)) rfl (lok95_4 N hΓ) trivial))) hΓ
theorem f95_contract (N : Nat) (hΓ : CtxOk Try.prog Q95) : Contract Try.prog 95 { sig := S95, impl := fun _ ds k => call (E95 N) S95 55 B95 R95 ds k } :=
  call_contract (E := E95 N) thOk hΓ mixed ok95.look ok95.body ok95.n ok95.rv ok95.name rfl (by decide) (loopsOk_of (l := [(0, B95_0), (2, B95_2), (4, B95_4)]) (by kernel_rfl) (allOk_cons (L := mkL N95_0 f95_0_sh (f95_0_F N)) rfl (lok95_0 N hΓ) (allOk_cons (L := mkL N95_2 f95_2_sh (f95_2_F N)) rfl (lok95_2 N hΓ) (allOk_cons (L := mkL N95_4 f95_4_sh (f95_4_F N)) rfl (lok95_4 N hΓ) trivial))))
theorem f95_raw_eq {R : Type} (N : Nat) (l : List Int) (k : List DV → Option R) : call (E95 N) S95 55 B95 R95 [.lst .u32 1 l] k = f95_raw N l k := by kernel_rfl
end Go.Proofs.Ytiaddnmloonhgaa

/- The document's numbers: any digits, modulo the prime. -/
namespace Go.Proofs.Ytiaddnmloonhgaa
open Go Go.Eng
set_option maxRecDepth 100000
set_option linter.unusedVariables false

theorem p1305_lt : p1305 < 1361129467683753853853498429727072845824 := by decide
theorem dbl_or {x c : Nat} (hx : x < 4294967296) (hc : c ≤ 1) : orI .u32 (shlI .u32 (x : Int) 1) (c : Int) = (((2 * x + c) % 4294967296 : Nat) : Int) := by
  rw [show (1 : Int) = ((1 : Nat) : Int) from rfl, shlN (k := .u32) rfl (m := 1) (by decide), bits32]
  have e : x * 2 ^ 1 % 4294967296 = (x % 2147483648) * 2 ^ 1 := by omega
  rw [e, orN (k := .u32) rfl (show _ < 2 ^ 32 by omega) (show _ < 2 ^ 32 by omega), or_addN (show c < 2 ^ 1 by omega)]
  congr 1; omega

theorem f95_dbl {R : Type} (N : Nat) (k1 : Bool → Int → Int → Int → Int → List Int → List Int → List Int → List Int → Option R) (x1 x2 : Int) (x5 x6 x8 : List Int) :
    ∀ (B A : List Nat) (c : Nat), A.length + B.length = 5 → (∀ x ∈ B, x < 4294967296) → c ≤ 1 → ∀ fuel, B.length < fuel →
      f95_4_lp N k1 fuel x1 x2 (c : Int) (A.length : Int) x5 x6 (nats (A ++ B)) x8 = k1 false x1 x2 ((dbl32 B c).2 : Int) 5 x5 x6 (nats (A ++ (dbl32 B c).1)) x8 := by
  intro B
  induction B with
  | nil =>
    intro A c hA _ hc fuel hf
    obtain ⟨f, rfl⟩ : ∃ f, fuel = f + 1 := ⟨fuel - 1, by omega⟩
    have hl : A.length = 5 := by simpa using hA
    show f95_4_st N (f95_4_lp N k1 f) k1 _ _ _ _ _ _ _ _ = _
    unfold f95_4_st
    rw [hl]
    rfl
  | cons x B ih =>
    intro A c hA hB hc fuel hf
    obtain ⟨f, rfl⟩ : ∃ f, fuel = f + 1 := ⟨fuel - 1, by omega⟩
    rw [List.length_cons] at hA hf
    have hi : A.length < 5 := by omega
    have hx := hB x (.head _)
    show f95_4_st N (f95_4_lp N k1 f) k1 _ _ _ _ _ _ _ _ = _
    unfold f95_4_st
    rw [decide_eq_true (show (A.length : Int) < 5 by omega), decide_eq_true (show 0 ≤ (A.length : Int) by omega), cond_true, Bool.and_self, cond_true, cond_true, cond_true]
    dsimp only
    rw [ngetD, dbl_or hx hc, show (31 : Int) = ((31 : Nat) : Int) from rfl, shrN (k := .u32) (m := 31) (by decide), show (2 : Nat) ^ 31 = 2147483648 from by decide +kernel, nset, show (A.length : Int) + 1 = ((A.length + 1 : Nat) : Int) from rfl, wi64 (n := A.length + 1) (by omega)]
    simp only [dbl32]
    have := ih (A ++ [(2 * x + c) % 4294967296]) (x / 2147483648) (by rw [app_len]; omega) (fun y hy => hB y (.tail _ hy)) (by omega) f (by omega)
    rw [app_len, ← app_cons, ← app_cons] at this
    exact this

theorem dbl_nuU {v c : Nat} (hv : v < p1305) (hc : c ≤ 1) : nats (dbl32 (digs 4294967296 5 v) c).1 = nuU (2 * v + c) := by
  have hp := p1305_lt
  obtain ⟨h1, h2, h3⟩ := dbl32_spec (digs 4294967296 5 v) c (digs_lt (by decide)) hc
  rw [digs_length] at h1 h3
  have h5 : (4294967296 : Nat) ^ 5 = 1461501637330902918203684832716283019655932542976 := by decide
  rw [digs_val, h5, Nat.mod_eq_of_lt (by omega)] at h3
  have e : (dbl32 (digs 4294967296 5 v) c).2 = 0 := by
    cases hd : (dbl32 (digs 4294967296 5 v) c).2 with
    | zero => rfl
    | succ d => rw [hd, Nat.mul_succ] at h3; omega
  rw [e, Nat.mul_zero, Nat.add_zero] at h3
  rw [nats_nuU h1 h2, h3]

theorem bitN {d m : Nat} (hd : d < 4294967296) (hm : m ≤ 31) : andI .u32 (shrI .u32 (d : Int) ((m : Nat) : Int)) 1 = ((d / 2 ^ m % 2 : Nat) : Int) := by
  rw [shrN (k := .u32) (m := m) (show m ≤ 32 by omega)]
  have := maskN (k := .u32) rfl (a := d / 2 ^ m) (j := 1) (show _ < 2 ^ 32 from Nat.lt_of_le_of_lt (Nat.div_le_self _ _) hd) (by decide)
  exact this

theorem f95_bits {R : Type} {N : Nat} (hN : 40 < N) (k1 : Bool → Int → Int → List Int → List Int → List Int → List Int → Option R) {l : List Nat} {i d v : Nat} (hi : i < l.length) (hd : d < 4294967296) (hld : l.getD i 0 = d) (x4 : List Int) (hv : v < p1305) :
    ∀ m : Nat, m ≤ 32 → ∀ fuel, m < fuel → f95_2_lp N k1 fuel (i : Int) ((m : Int) - 1) (nats l) x4 (nuU ((v * 2 ^ (32 - m) + d / 2 ^ m) % p1305)) (nuU p1305) = k1 false (i : Int) (-1) (nats l) x4 (nuU ((v * 4294967296 + d) % p1305)) (nuU p1305) := by
  have hp0 : 0 < p1305 := by decide
  have hp := p1305_lt
  intro m
  induction m with
  | zero =>
    intro _ fuel hf
    obtain ⟨f, rfl⟩ : ∃ f, fuel = f + 1 := ⟨fuel - 1, by omega⟩
    rw [Nat.sub_zero, Nat.pow_zero, Nat.div_one, show (2 : Nat) ^ 32 = 4294967296 from by decide +kernel]
    rfl
  | succ m ih =>
    intro hm fuel hf
    obtain ⟨f, rfl⟩ : ∃ f, fuel = f + 1 := ⟨fuel - 1, by omega⟩
    have hnext := ih (by omega) f (by omega)
    rw [← hnext]
    show f95_2_st N (f95_2_lp N k1 f) k1 _ _ _ _ _ _ = _
    rw [show ((m + 1 : Nat) : Int) - 1 = (m : Int) by omega]
    unfold f95_2_st
    rw [decide_eq_true (show (m : Int) ≥ 0 by omega), decide_eq_true (show (0 : Int) ≤ (i : Int) by omega), decide_eq_true (show (i : Int) < nI (rowLen 1 (nats l)) by show (i : Int) < (((nats l).length : Nat) : Int); rw [nats_length]; omega)]
    simp only [Bool.and_self, cond_true]
    rw [w64 (n := m) (by omega), decide_eq_true (show (0 : Int) ≤ (m : Int) by omega), cond_true]
    rw [show mulE (Int.toNat (i : Int)) 1 = i from rfl, nats_getD, hld, bitN hd (by omega)]
    generalize hr : (v * 2 ^ (32 - (m + 1)) + d / 2 ^ (m + 1)) % p1305 = r
    have hrlt : r < p1305 := by rw [← hr]; exact Nat.mod_lt _ hp0
    have hbit : d / 2 ^ m % 2 ≤ 1 := by omega
    generalize hbb : d / 2 ^ m % 2 = bb at hbit
    rw [show nuU r = nats ([] ++ digs 4294967296 5 r) from nuU_def r]
    refine (f95_dbl N _ (i : Int) (m : Int) (nats l) x4 (nuU p1305) (digs 4294967296 5 r) [] bb (by rw [digs_length]; rfl) (digs_lt (by decide)) hbit N (by rw [digs_length]; omega)).trans ?_
    rw [List.nil_append, dbl_nuU hrlt hbit, okU_nuU, okU_nuU, numU_nuU (v := 2 * r + bb) (by omega), numU_nuU (v := p1305) (by decide)]
    simp only [Bool.and_self, cond_true, Bool.true_and]
    have e1 : IntKind.i64.wrap ((m : Int) - 1) = (m : Int) - 1 := by
      cases m with
      | zero => decide
      | succ m => rw [show ((m + 1 : Nat) : Int) - 1 = (m : Int) by omega]; exact wi64 (by omega)
    have hval : (2 * r + bb) % p1305 = (v * 2 ^ (32 - m) + d / 2 ^ m) % p1305 := by
      have h1 : v * 2 ^ (32 - m) + d / 2 ^ m = 2 * (v * 2 ^ (32 - (m + 1)) + d / 2 ^ (m + 1)) + bb := by
        have h2 : 32 - m = (32 - (m + 1)) + 1 := by omega
        have h3 : d / 2 ^ (m + 1) = d / 2 ^ m / 2 := by rw [Nat.pow_succ, Nat.div_div_eq_div_mul]
        rw [h2, Nat.pow_succ, h3, ← hbb, ← Nat.mul_assoc]
        generalize v * 2 ^ (32 - (m + 1)) = T
        omega
      rw [h1, ← hr]
      rw [Nat.add_mod, Nat.mul_mod, Nat.mod_mod, ← Nat.mul_mod, ← Nat.add_mod]
    rw [e1, ← hval]
    by_cases h : 2 * r + bb < p1305
    · rw [decide_eq_true h, Bool.not_true, cond_false, Nat.mod_eq_of_lt h]
    · rw [decide_eq_false h, Bool.not_false, cond_true, decide_eq_true (show p1305 ≤ 2 * r + bb by omega), cond_true]
      have : (2 * r + bb) % p1305 = 2 * r + bb - p1305 := by
        rw [Nat.mod_eq_sub_mod (by omega), Nat.mod_eq_of_lt (by omega)]
      rw [this]

theorem f95_digits {R : Type} {N : Nat} (hN : 40 < N) (k1 : Bool → Int → List Int → List Int → List Int → List Int → Option R) {l : List Nat} (hl : l.length ≤ 1000000) (hb : ∀ x ∈ l, x < 4294967296) (x3 : List Int) :
    ∀ m : Nat, m ≤ l.length → ∀ fuel, m < fuel → f95_0_lp N k1 fuel ((m : Int) - 1) (nats l) x3 (nuU (valB 4294967296 (l.drop m) % p1305)) (nuU p1305) = k1 false (-1) (nats l) x3 (nuU (valB 4294967296 l % p1305)) (nuU p1305) := by
  have hp0 : 0 < p1305 := by decide
  intro m
  induction m with
  | zero =>
    intro _ fuel hf
    obtain ⟨f, rfl⟩ : ∃ f, fuel = f + 1 := ⟨fuel - 1, by omega⟩
    rfl
  | succ m ih =>
    intro hm fuel hf
    obtain ⟨f, rfl⟩ : ∃ f, fuel = f + 1 := ⟨fuel - 1, by omega⟩
    rw [← ih (by omega) f (by omega)]
    show f95_0_st N (f95_0_lp N k1 f) k1 _ _ _ _ _ = _
    rw [show ((m + 1 : Nat) : Int) - 1 = (m : Int) by omega]
    unfold f95_0_st
    rw [decide_eq_true (show (m : Int) ≥ 0 by omega), cond_true]
    have h0 := f95_bits (N := N) hN (fun w0_1 w0_2 w0_3 w0_4 w0_5 w0_6 w0_7 => f95_0_lp N k1 f (IntKind.i64.wrap (w0_2 - 1)) w0_4 w0_5 w0_6 w0_7) (l := l) (i := m) (d := l.getD m 0) (v := valB 4294967296 (l.drop (m + 1)) % p1305) (by omega) (getU_lt hb m) rfl x3 (Nat.mod_lt _ hp0) 32 (Nat.le_refl _) N (by omega)
    rw [show (32 : Nat) - 32 = 0 from rfl, Nat.pow_zero, Nat.mul_one, Nat.div_eq_of_lt (show l.getD m 0 < 2 ^ 32 from getU_lt hb m), Nat.add_zero, Nat.mod_mod] at h0
    refine h0.trans ?_
    have e1 : IntKind.i64.wrap ((m : Int) - 1) = (m : Int) - 1 := by
      cases m with
      | zero => decide
      | succ m => rw [show ((m + 1 : Nat) : Int) - 1 = (m : Int) by omega]; exact wi64 (by omega)
    have hv : (valB 4294967296 (l.drop (m + 1)) % p1305 * 4294967296 + l.getD m 0) % p1305 = valB 4294967296 (l.drop m) % p1305 := by
      rw [drop_split (q := l) (i := m) (by omega), valB_cons, Nat.add_comm (l.getD m 0), Nat.mul_comm 4294967296]
      rw [Nat.add_mod, Nat.mul_mod, Nat.mod_mod, ← Nat.mul_mod, ← Nat.add_mod]
    rw [e1, hv]

def okV (x : List Int) : Bool := Nat.ble x.length 64 && x.all fun b => decide (0 ≤ b) && decide (b < 4294967296)
theorem okV_of {x : List Int} (h : okV x = true) : ∃ l : List Nat, x = nats l ∧ l.length ≤ 64 ∧ ∀ b ∈ l, b < 4294967296 := by
  unfold okV at h
  rw [Bool.and_eq_true, List.all_eq_true] at h
  obtain ⟨h1, h2⟩ := h
  have h3 : ∀ b ∈ x, 0 ≤ b ∧ b < 4294967296 := fun b hb => by
    have := h2 b hb
    rw [Bool.and_eq_true] at this
    exact ⟨of_decide_eq_true this.1, of_decide_eq_true this.2⟩
  obtain ⟨l, rfl⟩ := nats_of (xs := x) fun b hb => (h3 b hb).1
  exact ⟨l, rfl, by rw [← nats_length]; exact Nat.le_of_ble_eq_true h1, fun b hb => Int.ofNat_lt.mp (h3 b (List.mem_map.mpr ⟨b, hb, rfl⟩)).2⟩
theorem okV_nats {l : List Nat} (hl : l.length ≤ 64) (h : ∀ b ∈ l, b < 4294967296) : okV (nats l) = true := by
  unfold okV
  rw [nats_length, show Nat.ble l.length 64 = true from Nat.ble_eq_true_of_le hl, Bool.true_and, List.all_eq_true]
  intro b hb
  unfold nats at hb
  obtain ⟨n, hn, rfl⟩ := List.mem_map.mp hb
  have := h n hn
  rw [Bool.and_eq_true]
  exact ⟨decide_eq_true (Int.natCast_nonneg n), decide_eq_true (Int.ofNat_lt.mpr this)⟩
noncomputable def I95 : (R : Type) → List DV → (List DV → Option R) → Option R := fun _ ds k => match ds with
  | [.lst .u32 1 l] => bif okV l then k [.v (.one (.ints .u32 5 (nuU (numU l % p1305))))] else none
  | _ => none
theorem c95 : Contract Try.prog 95 { sig := S95, impl := I95 } := by
  refine Contract.refine fun R ds k r h => ⟨_, f95_contract 70 Q95_ok, ?_⟩
  unfold I95 at h
  split at h
  · rename_i x
    rcases hc : okV x with _ | _
    · rw [hc] at h; cases h
    · rw [hc, cond_true] at h
      obtain ⟨l, rfl, hl, hb⟩ := okV_of hc
      rw [numU_nats] at h
      rw [f95_raw_eq, ← h]
      unfold f95_raw
      dsimp only
      have e1 : IntKind.i64.wrap (nI (rowLen 1 (nats l)) - 1) = (l.length : Int) - 1 := by
        rw [show nI (rowLen 1 (nats l)) = (l.length : Int) from by show (((nats l).length : Nat) : Int) = _; rw [nats_length]]
        cases hll : l.length with
        | zero => decide
        | succ m => rw [show ((m + 1 : Nat) : Int) - 1 = (m : Int) by omega]; exact wi64 (by omega)
      rw [e1]
      have := f95_digits (N := 70) (by decide) (fun w1_1 w1_2 w1_3 w1_4 w1_5 w1_6 => k [DV.v (SV.one (At.ints IntKind.u32 5 w1_5))]) (l := l) (by omega) hb (List.replicate 5 0) l.length (Nat.le_refl _) 70 (by omega)
      rw [List.drop_length, show valB 4294967296 ([] : List Nat) % p1305 = 0 from by decide, show nuU 0 = List.replicate 5 0 from by rw [nuU_def]; decide] at this
      exact this
  · cases h
noncomputable def Q65 : Ctx := (95, { sig := S95, impl := I95 }) :: []
theorem Q65_ok : CtxOk Try.prog Q65 := ctxOk_cons ok95 rfl c95 ctxOk_nil
end Go.Proofs.Ytiaddnmloonhgaa

/- What rime/rimeref12.times comes to. MADE BY PROGRAM (wip/tools/mkfn.py, EngGen.lean). -/
namespace Go.Proofs.Ytiaddnmloonhgaa
open Go Go.Eng
set_option maxRecDepth 100000
set_option linter.unusedVariables false

def f65_2_sh : Shp := { n := 54, lo := 2, slots := [(2, .one (.fix (At.ptr 2 0 Off.z 5))), (3, .one (.fix (At.ptr 3 0 Off.z 5))), (4, .one (.fix (At.ptr 4 0 Off.z 5))), (5, .one (.fix (At.own 9))), (6, .one (.int IntKind.i64)), (7, .one (.int IntKind.u64)), (8, .one (.int IntKind.i64))], items := [(2, .obj [.ints IntKind.u32 5]), (3, .obj [.ints IntKind.u32 5]), (4, .obj [.ints IntKind.u32 5]), (9, .row IntKind.u32 1)] }
def f65_2_ex1 : Shp := { n := 54, lo := 2, slots := [(15, .one (.bool)), (2, .one (.fix (At.ptr 2 0 Off.z 5))), (3, .one (.fix (At.ptr 3 0 Off.z 5))), (4, .one (.fix (At.ptr 4 0 Off.z 5))), (5, .one (.fix (At.own 9))), (6, .one (.int IntKind.i64)), (7, .one (.int IntKind.u64)), (8, .one (.int IntKind.i64))], items := [(2, .obj [.ints IntKind.u32 5]), (3, .obj [.ints IntKind.u32 5]), (4, .obj [.ints IntKind.u32 5]), (9, .row IntKind.u32 1)] }
noncomputable def f65_2_st {R : Type} (N : Nat) (self : Int → Int → Int → List Int → List Int → List Int → List Int → Option R) (k1 : Bool → Int → Int → Int → List Int → List Int → List Int → List Int → Option R) (x1 : Int) (x2 : Int) (x3 : Int) (x4 : List Int) (x5 : List Int) (x6 : List Int) (x7 : List Int) : Option R :=
 bif Decidable.decide (x3 < 5) then
 let v0 : Int := IntKind.i64.wrap (x1 + x3);
 bif Decidable.decide (0 ≤ v0) && Decidable.decide (v0 < nI (rowLen 1 x7)) then
 bif Decidable.decide (0 ≤ x1) && Decidable.decide (x1 < 5) then
 bif Decidable.decide (0 ≤ x3) && Decidable.decide (x3 < 5) then
 bif Decidable.decide (0 ≤ v0) && Decidable.decide (v0 < nI (rowLen 1 x7)) then
 let v1 : Int := IntKind.u64.wrap (x7.getD (mulE v0.toNat 1) 0);
 let v2 : Int := IntKind.u64.wrap (x2 + v1);
 let v3 : Int := IntKind.u64.wrap (x4.getD (mulE x1.toNat 1) 0);
 let v4 : Int := IntKind.u64.wrap (x5.getD (mulE x3.toNat 1) 0);
 let v5 : Int := IntKind.u64.wrap (v3 * v4);
 let v6 : Int := IntKind.u64.wrap (v2 + v5);
 let v7 : Int := shrI IntKind.u64 v6 32;
 let v8 : Int := IntKind.i64.wrap (x3 + 1);
 let v9 : Int := IntKind.u32.wrap v6;
 let v10 : List Int := x7.set (mulE v0.toNat 1) v9;
 self x1 v7 v8 x4 x5 x6 v10
 else Option.none
 else Option.none
 else Option.none
 else Option.none
else k1 (Decidable.decide (x3 < 5)) x1 x2 x3 x4 x5 x6 x7
noncomputable def f65_2_lp {R : Type} (N : Nat) (k1 : Bool → Int → Int → Int → List Int → List Int → List Int → List Int → Option R) : Nat → Int → Int → Int → List Int → List Int → List Int → List Int → Option R
 | 0, _, _, _, _, _, _, _ => none
 | n + 1, x1, x2, x3, x4, x5, x6, x7 => f65_2_st N (f65_2_lp N k1 n) k1 x1 x2 x3 x4 x5 x6 x7
noncomputable def f65_2_F (N : Nat) : (R : Type) → List Leaf → (X → AS → Option R) → Option R := fun _ ls K => match ls with
 | [.i x1, .i x2, .i x3, .l x4, .l x5, .l x6, .l x7] => f65_2_lp N (fun y1 y2 y3 y4 y5 y6 y7 y8 => K (X.normal) (fill f65_2_ex1 [.b y1, .i y2, .i y3, .i y4, .l y5, .l y6, .l y7, .l y8])) N x1 x2 x3 x4 x5 x6 x7
 | _ => none
def f65_0_sh : Shp := { n := 54, lo := 2, slots := [(2, .one (.fix (At.ptr 2 0 Off.z 5))), (3, .one (.fix (At.ptr 3 0 Off.z 5))), (4, .one (.fix (At.ptr 4 0 Off.z 5))), (5, .one (.fix (At.own 9))), (6, .one (.int IntKind.i64))], items := [(2, .obj [.ints IntKind.u32 5]), (3, .obj [.ints IntKind.u32 5]), (4, .obj [.ints IntKind.u32 5]), (9, .row IntKind.u32 1)] }
def f65_0_ex1 : Shp := { n := 54, lo := 2, slots := [(11, .one (.bool)), (2, .one (.fix (At.ptr 2 0 Off.z 5))), (3, .one (.fix (At.ptr 3 0 Off.z 5))), (4, .one (.fix (At.ptr 4 0 Off.z 5))), (5, .one (.fix (At.own 9))), (6, .one (.int IntKind.i64))], items := [(2, .obj [.ints IntKind.u32 5]), (3, .obj [.ints IntKind.u32 5]), (4, .obj [.ints IntKind.u32 5]), (9, .row IntKind.u32 1)] }
noncomputable def f65_0_st {R : Type} (N : Nat) (self : Int → List Int → List Int → List Int → List Int → Option R) (k1 : Bool → Int → List Int → List Int → List Int → List Int → Option R) (x1 : Int) (x2 : List Int) (x3 : List Int) (x4 : List Int) (x5 : List Int) : Option R :=
 bif Decidable.decide (x1 < 5) then
 f65_2_lp N
 (fun w0_1 w0_2 w0_3 w0_4 w0_5 w0_6 w0_7 w0_8 =>
 let v1 : Int := IntKind.i64.wrap (w0_2 + 5);
 bif Decidable.decide (0 ≤ v1) && Decidable.decide (v1 < nI (rowLen 1 w0_8)) then
 let v2 : Int := IntKind.i64.wrap (w0_2 + 1);
 let v3 : Int := IntKind.u32.wrap w0_3;
 let v4 : List Int := w0_8.set (mulE v1.toNat 1) v3;
 self v2 w0_5 w0_6 w0_7 v4
 else Option.none)
 N x1 0 0 x2 x3 x4 x5
else k1 (Decidable.decide (x1 < 5)) x1 x2 x3 x4 x5
noncomputable def f65_0_lp {R : Type} (N : Nat) (k1 : Bool → Int → List Int → List Int → List Int → List Int → Option R) : Nat → Int → List Int → List Int → List Int → List Int → Option R
 | 0, _, _, _, _, _ => none
 | n + 1, x1, x2, x3, x4, x5 => f65_0_st N (f65_0_lp N k1 n) k1 x1 x2 x3 x4 x5
noncomputable def f65_0_F (N : Nat) : (R : Type) → List Leaf → (X → AS → Option R) → Option R := fun _ ls K => match ls with
 | [.i x1, .l x2, .l x3, .l x4, .l x5] => f65_0_lp N (fun y1 y2 y3 y4 y5 y6 => K (X.normal) (fill f65_0_ex1 [.b y1, .i y2, .l y3, .l y4, .l y5, .l y6])) N x1 x2 x3 x4 x5
 | _ => none
noncomputable def f65_raw {R : Type} (N : Nat) (a : List Int) (b : List Int) (k : List DV → Option R) : Option R :=
 f65_0_lp N (fun w0_1 w0_2 w0_3 w0_4 w0_5 w0_6 => bif okV w0_6 then k [DV.v (SV.one (At.ints IntKind.u32 5 (nuU (numU w0_6 % p1305))))] else Option.none) N 0 a b (List.replicate 5 0) (zerosOf (mulE (Int.toNat 10) 1))


noncomputable def E65 (N : Nat) : Env := { Θ := Th, Γ := Q65, K := K65, ν := N65, fuel := 0, lp := [(0, mkL N65_0 f65_0_sh (f65_0_F N)), (2, mkL N65_2 f65_2_sh (f65_2_F N))] }

theorem f65_2_st_eq {R : Type} (N : Nat) (K : X → AS → Option R) (n : Nat) (x1 : Int) (x2 : Int) (x3 : Int) (x4 : List Int) (x5 : List Int) (x6 : List Int) (x7 : List Int) : roundsOf (E65 N) N65_2 2 B65_2 K (n + 1) (fill f65_2_sh [.i x1, .i x2, .i x3, .l x4, .l x5, .l x6, .l x7]) = f65_2_st N (fun x1 x2 x3 x4 x5 x6 x7 => roundsOf (E65 N) N65_2 2 B65_2 K n (fill f65_2_sh [.i x1, .i x2, .i x3, .l x4, .l x5, .l x6, .l x7])) (fun y1 y2 y3 y4 y5 y6 y7 y8 => K (X.normal) (fill f65_2_ex1 [.b y1, .i y2, .i y3, .i y4, .l y5, .l y6, .l y7, .l y8])) x1 x2 x3 x4 x5 x6 x7 := by kernel_rfl
theorem f65_2_lp_eq {R : Type} (N : Nat) (K : X → AS → Option R) : ∀ (n : Nat) (x1 : Int) (x2 : Int) (x3 : Int) (x4 : List Int) (x5 : List Int) (x6 : List Int) (x7 : List Int), roundsOf (E65 N) N65_2 2 B65_2 K n (fill f65_2_sh [.i x1, .i x2, .i x3, .l x4, .l x5, .l x6, .l x7]) = f65_2_lp N (fun y1 y2 y3 y4 y5 y6 y7 y8 => K (X.normal) (fill f65_2_ex1 [.b y1, .i y2, .i y3, .i y4, .l y5, .l y6, .l y7, .l y8])) n x1 x2 x3 x4 x5 x6 x7
  | 0, _, _, _, _, _, _, _ => rfl
  | n + 1, x1, x2, x3, x4, x5, x6, x7 => by
    rw [f65_2_st_eq, f65_2_lp, show (fun x1 x2 x3 x4 x5 x6 x7 => roundsOf (E65 N) N65_2 2 B65_2 K n (fill f65_2_sh [.i x1, .i x2, .i x3, .l x4, .l x5, .l x6, .l x7])) = f65_2_lp N (fun y1 y2 y3 y4 y5 y6 y7 y8 => K (X.normal) (fill f65_2_ex1 [.b y1, .i y2, .i y3, .i y4, .l y5, .l y6, .l y7, .l y8])) n from by funext x1 x2 x3 x4 x5 x6 x7; exact f65_2_lp_eq N K n x1 x2 x3 x4 x5 x6 x7]
theorem f65_2_ok (N : Nat) (hlp : LoopsOk Try.prog (E65 N).lp B65_2) (hΓ : CtxOk Try.prog (E65 N).Γ) : LoopOk Try.prog (mkL N65_2 f65_2_sh (f65_2_F N)) 2 B65_2 := by
  refine loopOk_of (E := E65 N) thOk hΓ mixed hlp ?_
  intro R ls K r h
  unfold f65_2_F at h
  split at h
  · exact ⟨N, by rw [f65_2_lp_eq]; exact h⟩
  · cases h
theorem f65_0_st_eq {R : Type} (N : Nat) (K : X → AS → Option R) (n : Nat) (x1 : Int) (x2 : List Int) (x3 : List Int) (x4 : List Int) (x5 : List Int) : roundsOf (E65 N) N65_0 0 B65_0 K (n + 1) (fill f65_0_sh [.i x1, .l x2, .l x3, .l x4, .l x5]) = f65_0_st N (fun x1 x2 x3 x4 x5 => roundsOf (E65 N) N65_0 0 B65_0 K n (fill f65_0_sh [.i x1, .l x2, .l x3, .l x4, .l x5])) (fun y1 y2 y3 y4 y5 y6 => K (X.normal) (fill f65_0_ex1 [.b y1, .i y2, .l y3, .l y4, .l y5, .l y6])) x1 x2 x3 x4 x5 := by kernel_rfl
theorem f65_0_lp_eq {R : Type} (N : Nat) (K : X → AS → Option R) : ∀ (n : Nat) (x1 : Int) (x2 : List Int) (x3 : List Int) (x4 : List Int) (x5 : List Int), roundsOf (E65 N) N65_0 0 B65_0 K n (fill f65_0_sh [.i x1, .l x2, .l x3, .l x4, .l x5]) = f65_0_lp N (fun y1 y2 y3 y4 y5 y6 => K (X.normal) (fill f65_0_ex1 [.b y1, .i y2, .l y3, .l y4, .l y5, .l y6])) n x1 x2 x3 x4 x5
  | 0, _, _, _, _, _ => rfl
  | n + 1, x1, x2, x3, x4, x5 => by
    rw [f65_0_st_eq, f65_0_lp, show (fun x1 x2 x3 x4 x5 => roundsOf (E65 N) N65_0 0 B65_0 K n (fill f65_0_sh [.i x1, .l x2, .l x3, .l x4, .l x5])) = f65_0_lp N (fun y1 y2 y3 y4 y5 y6 => K (X.normal) (fill f65_0_ex1 [.b y1, .i y2, .l y3, .l y4, .l y5, .l y6])) n from by funext x1 x2 x3 x4 x5; exact f65_0_lp_eq N K n x1 x2 x3 x4 x5]
theorem f65_0_ok (N : Nat) (hlp : LoopsOk Try.prog (E65 N).lp B65_0) (hΓ : CtxOk Try.prog (E65 N).Γ) : LoopOk Try.prog (mkL N65_0 f65_0_sh (f65_0_F N)) 0 B65_0 := by
  refine loopOk_of (E := E65 N) thOk hΓ mixed hlp ?_
  intro R ls K r h
  unfold f65_0_F at h
  split at h
  · exact ⟨N, by rw [f65_0_lp_eq]; exact h⟩
  · cases h

theorem lok65_2 (N : Nat) (hΓ : CtxOk Try.prog Q65) : LoopOk Try.prog (mkL N65_2 f65_2_sh (f65_2_F N)) 2 B65_2 := f65_2_ok N (loopsOk_of (l := []) (by kernel_rfl) trivial) hΓ
theorem lok65_0 (N : Nat) (hΓ : CtxOk Try.prog Q65) : LoopOk Try.prog (mkL N65_0 f65_0_sh (f65_0_F N)) 0 B65_0 := f65_0_ok N (loopsOk_of (l := [(2, B65_2)]) (by kernel_rfl) (allOk_cons (L := mkL N65_2 f65_2_sh (f65_2_F N)) rfl (lok65_2 N hΓ) trivial)) hΓ
theorem f65_contract (N : Nat) (hΓ : CtxOk Try.prog Q65) : Contract Try.prog 65 { sig := S65, impl := fun _ ds k => call (E65 N) S65 54 B65 R65 ds k } :=
  call_contract (E := E65 N) thOk hΓ mixed ok65.look ok65.body ok65.n ok65.rv ok65.name rfl (by decide) (loopsOk_of (l := [(0, B65_0), (2, B65_2)]) (by kernel_rfl) (allOk_cons (L := mkL N65_0 f65_0_sh (f65_0_F N)) rfl (lok65_0 N hΓ) (allOk_cons (L := mkL N65_2 f65_2_sh (f65_2_F N)) rfl (lok65_2 N hΓ) trivial)))
theorem f65_raw_eq {R : Type} (N : Nat) (a : List Int) (b : List Int) (k : List DV → Option R) : call (E65 N) S65 54 B65 R65 [.v (.one (.ints .u32 5 a)), .v (.one (.ints .u32 5 b))] k = f65_raw N a b k := by kernel_rfl
end Go.Proofs.Ytiaddnmloonhgaa

/- The document's product. -/
namespace Go.Proofs.Ytiaddnmloonhgaa
open Go Go.Eng
set_option maxRecDepth 100000
set_option linter.unusedVariables false

theorem f65_row {R : Type} (N : Nat) (k1 : Bool → Int → Int → Int → List Int → List Int → List Int → List Int → Option R) (z : List Int) {a b C : List Nat} {i : Nat} (hi : i < 5) (ha : ∀ x ∈ a, x < 4294967296) (hb : b.length = 5) (hbd : ∀ x ∈ b, x < 4294967296) (hC : C.length = 5 - i) :
    ∀ (B A : List Nat) (c j : Nat), A.length = i + j → j + B.length = 5 → (∀ x ∈ B, x < 4294967296) → c < 4294967296 → ∀ fuel, B.length < fuel →
      f65_2_lp N k1 fuel (i : Int) (c : Int) (j : Int) (nats a) (nats b) z (nats (A ++ (B ++ C))) = k1 false (i : Int) ((mac32 (a.getD i 0) B (b.drop j) c).2 : Int) 5 (nats a) (nats b) z (nats (A ++ ((mac32 (a.getD i 0) B (b.drop j) c).1 ++ C))) := by
  intro B
  induction B with
  | nil =>
    intro A c j hA hj _ hc fuel hf
    obtain ⟨f, rfl⟩ : ∃ f, fuel = f + 1 := ⟨fuel - 1, by omega⟩
    have hl : j = 5 := by simpa using hj
    subst hl
    rfl
  | cons u B ih =>
    intro A c j hA hj hB hc fuel hf
    obtain ⟨f, rfl⟩ : ∃ f, fuel = f + 1 := ⟨fuel - 1, by omega⟩
    rw [List.length_cons] at hj hf
    have hu := hB u (.head _)
    have hx := getU_lt ha i
    have hy := getU_lt hbd j
    show f65_2_st N (f65_2_lp N k1 f) k1 _ _ _ _ _ _ _ = _
    unfold f65_2_st
    have e0 : IntKind.i64.wrap ((i : Int) + (j : Int)) = (A.length : Int) := by
      rw [show (i : Int) + (j : Int) = (A.length : Int) by omega]; exact wi64 (by omega)
    have hlen : nI (rowLen 1 (nats (A ++ (u :: B ++ C)))) = 10 := by
      show (((nats (A ++ (u :: B ++ C))).length : Nat) : Int) = 10
      rw [nats_length]; simp only [List.length_append, List.length_cons]; omega
    dsimp only
    rw [e0, hlen, decide_eq_true (show (j : Int) < 5 by omega), decide_eq_true (show (0 : Int) ≤ (A.length : Int) by omega), decide_eq_true (show (A.length : Int) < 10 by omega), decide_eq_true (show (0 : Int) ≤ (i : Int) by omega), decide_eq_true (show (i : Int) < 5 by omega), decide_eq_true (show (0 : Int) ≤ (j : Int) by omega)]
    simp only [Bool.and_self, cond_true]
    rw [show A ++ (u :: B ++ C) = A ++ u :: (B ++ C) from rfl, ngetD, show (nats a).getD (mulE (Int.toNat (i : Int)) 1) 0 = ((a.getD i 0 : Nat) : Int) from nats_getD a i, show (nats b).getD (mulE (Int.toNat (j : Int)) 1) 0 = ((b.getD j 0 : Nat) : Int) from nats_getD b j, drop_split (q := b) (i := j) (by omega)]
    generalize a.getD i 0 = x at *
    generalize b.getD j 0 = y at hy
    have hxy : x * y ≤ 4294967295 * 4294967295 := Nat.mul_le_mul (by omega) (by omega)
    rw [w64 (n := u) (by omega), w64 (n := x) (by omega), w64 (n := y) (by omega)]
    rw [show (c : Int) + (u : Int) = ((c + u : Nat) : Int) from rfl, w64 (n := c + u) (by omega), show (x : Int) * (y : Int) = ((x * y : Nat) : Int) from rfl, w64 (n := x * y) (by omega), show ((c + u : Nat) : Int) + ((x * y : Nat) : Int) = ((c + u + x * y : Nat) : Int) from rfl, w64 (n := c + u + x * y) (by omega)]
    simp only [mac32]
    have hv : c + u + x * y < 18446744073709551616 := by omega
    generalize c + u + x * y = v at hv
    rw [show (32 : Int) = ((32 : Nat) : Int) from rfl, shrN (k := .u64) (m := 32) (by decide), wm32, show (2 : Nat) ^ 32 = 4294967296 from by decide +kernel, nset, show (j : Int) + 1 = ((j + 1 : Nat) : Int) from rfl, wi64 (n := j + 1) (by omega)]
    have := ih (A ++ [v % 4294967296]) (v / 4294967296) (j + 1) (by rw [app_len]; omega) (by omega) (fun y hy => hB y (.tail _ hy)) (by omega) f (by omega)
    rw [← app_cons, ← app_cons] at this
    exact this

theorem f65_rows {R : Type} {N : Nat} (hN : 10 < N) (k1 : Bool → Int → List Int → List Int → List Int → List Int → Option R) (z : List Int) {a b : List Nat} (hal : a.length = 5) (ha : ∀ x ∈ a, x < 4294967296) (hb : b.length = 5) (hbd : ∀ x ∈ b, x < 4294967296) :
    ∀ (m i : Nat) (L : List Nat), i + m = 5 → L.length = i + 5 → (∀ x ∈ L, x < 4294967296) → valB 4294967296 L = valB 4294967296 (a.take i) * valB 4294967296 b → ∀ fuel, m < fuel →
      ∃ L' : List Nat, L'.length = 10 ∧ (∀ x ∈ L', x < 4294967296) ∧ valB 4294967296 L' = valB 4294967296 a * valB 4294967296 b ∧
        f65_0_lp N k1 fuel (i : Int) (nats a) (nats b) z (nats (L ++ List.replicate (5 - i) 0)) = k1 false 5 (nats a) (nats b) z (nats L') := by
  intro m
  induction m with
  | zero =>
    intro i L h hL hLd hv fuel hf
    obtain ⟨f, rfl⟩ : ∃ f, fuel = f + 1 := ⟨fuel - 1, by omega⟩
    have : i = 5 := by omega
    subst this
    refine ⟨L, hL, hLd, ?_, ?_⟩
    · rw [hv, List.take_of_length_le (by omega)]
    · rw [show (5 : Nat) - 5 = 0 from rfl, List.replicate_zero, List.append_nil]; rfl
  | succ m ih =>
    intro i L h hL hLd hv fuel hf
    obtain ⟨f, rfl⟩ : ∃ f, fuel = f + 1 := ⟨fuel - 1, by omega⟩
    have hx := getU_lt ha i
    have hA : (L.take i).length = i := by rw [List.length_take]; omega
    have hB : (L.drop i).length = 5 := by rw [List.length_drop]; omega
    have hBd : ∀ x ∈ L.drop i, x < 4294967296 := fun x hx => hLd x (List.mem_of_mem_drop hx)
    have hsplit : L = L.take i ++ L.drop i := (List.take_append_drop i L).symm
    obtain ⟨r1, r2, r3⟩ := mac32_spec (a.getD i 0) (L.drop i) b 0 (by rw [hB, hb])
    have r4 := mac32_carry (a.getD i 0) hx (L.drop i) b 0 hBd hbd (by decide)
    obtain ⟨L', g1, g2, g3, g4⟩ := ih (i + 1) (L.take i ++ ((mac32 (a.getD i 0) (L.drop i) b 0).1 ++ [(mac32 (a.getD i 0) (L.drop i) b 0).2])) (by omega) (by simp only [List.length_append, hA, r1, hB, List.length_singleton] <;> omega) (by
      intro x hx
      rcases List.mem_append.1 hx with hx | hx
      · exact hLd x (List.mem_of_mem_take hx)
      · rcases List.mem_append.1 hx with hx | hx
        · exact r2 x hx
        · rw [List.mem_singleton] at hx; subst hx; exact r4) (by
      rw [valB_append, valB_append, hA, r1, hB, show valB 4294967296 [(mac32 (a.getD i 0) (L.drop i) b 0).2] = (mac32 (a.getD i 0) (L.drop i) b 0).2 from by simp [valB]]
      rw [hB] at r3
      rw [r3, Nat.add_zero, Nat.mul_add, ← Nat.add_assoc]
      have e1 : valB 4294967296 (L.take i) + 4294967296 ^ i * valB 4294967296 (L.drop i) = valB 4294967296 L := by
        conv => rhs; rw [hsplit]
        rw [valB_append, hA]
      have e2 : valB 4294967296 (a.take (i + 1)) = valB 4294967296 (a.take i) + 4294967296 ^ i * a.getD i 0 := by
        rw [List.take_add_one, List.getElem?_eq_getElem (show i < a.length by omega), Option.toList_some, valB_append, List.length_take, Nat.min_eq_left (by omega), List.getD_eq_getElem?_getD, List.getElem?_eq_getElem (show i < a.length by omega), Option.getD_some]
        simp [valB]
      rw [e1, hv, e2, Nat.add_mul, Nat.mul_assoc]) f (by omega)
    refine ⟨L', g1, g2, g3, ?_⟩
    rw [← g4]
    show f65_0_st N (f65_0_lp N k1 f) k1 _ _ _ _ _ = _
    unfold f65_0_st
    rw [decide_eq_true (show (i : Int) < 5 by omega), cond_true]
    have hl0 : L ++ List.replicate (5 - i) 0 = L.take i ++ (L.drop i ++ List.replicate (5 - i) 0) := by
      conv => lhs; rw [hsplit]
      rw [List.append_assoc]
    rw [hl0]
    refine (f65_row N _ z (by omega) ha hb hbd (List.length_replicate) (L.drop i) (L.take i) 0 0 (by rw [hA]; rfl) (by rw [hB]) hBd (by decide) N (by rw [hB]; omega)).trans ?_
    rw [List.drop_zero]
    generalize hM : mac32 (a.getD i 0) (L.drop i) b 0 = M at *
    obtain ⟨B', c'⟩ := M
    simp only at r1 r4 ⊢
    have e5 : IntKind.i64.wrap ((i : Int) + 5) = ((i + 5 : Nat) : Int) := by
      rw [show (i : Int) + 5 = ((i + 5 : Nat) : Int) by omega]; exact wi64 (by omega)
    have e6 : IntKind.i64.wrap ((i : Int) + 1) = ((i + 1 : Nat) : Int) := by
      rw [show (i : Int) + 1 = ((i + 1 : Nat) : Int) by omega]; exact wi64 (by omega)
    have hlen : nI (rowLen 1 (nats (L.take i ++ (B' ++ List.replicate (5 - i) 0)))) = 10 := by
      show (((nats (L.take i ++ (B' ++ List.replicate (5 - i) 0))).length : Nat) : Int) = 10
      rw [nats_length]; simp only [List.length_append, hA, r1, hB, List.length_replicate]; omega
    rw [e5, e6, hlen, decide_eq_true (show (0 : Int) ≤ ((i + 5 : Nat) : Int) by omega), decide_eq_true (show ((i + 5 : Nat) : Int) < 10 by omega), Bool.and_self, cond_true, w32 (n := c') (by omega)]
    have hrep : List.replicate (5 - i) 0 = 0 :: List.replicate (5 - (i + 1)) 0 := by
      rw [show 5 - i = (5 - (i + 1)) + 1 by omega]; rfl
    have hset : (nats (L.take i ++ (B' ++ List.replicate (5 - i) 0))).set (mulE (Int.toNat ((i + 5 : Nat) : Int)) 1) (c' : Int) = nats (L.take i ++ (B' ++ [c']) ++ List.replicate (5 - (i + 1)) 0) := by
      rw [show mulE (Int.toNat ((i + 5 : Nat) : Int)) 1 = i + 5 from rfl, nats_set, hrep, ← List.append_assoc, set_mid (by rw [List.length_append, hA, r1, hB])]
      simp
    rw [hset]

noncomputable def I65 : (R : Type) → List DV → (List DV → Option R) → Option R := fun _ ds k => match ds with
  | [.v (.one (.ints .u32 5 x)), .v (.one (.ints .u32 5 y))] => bif okU x && okU y then k [.v (.one (.ints .u32 5 (nuU (numU x * numU y % p1305))))] else none
  | _ => none
theorem c65 : Contract Try.prog 65 { sig := S65, impl := I65 } := by
  refine Contract.refine fun R ds k r h => ⟨_, f65_contract 11 Q65_ok, ?_⟩
  unfold I65 at h
  split at h
  · rename_i x y
    rcases hc : okU x && okU y with _ | _
    · rw [hc] at h; cases h
    · rw [hc, cond_true] at h
      rw [Bool.and_eq_true] at hc
      rw [f65_raw_eq]
      obtain ⟨l, rfl, hl, hb⟩ := okU_of hc.1
      obtain ⟨m, rfl, hm, hbm⟩ := okU_of hc.2
      rw [numU_nats, numU_nats] at h
      rw [← h]
      unfold f65_raw
      obtain ⟨L', g1, g2, g3, g4⟩ := f65_rows (N := 11) (by decide) (fun w0_1 w0_2 w0_3 w0_4 w0_5 w0_6 => bif okV w0_6 then k [DV.v (SV.one (At.ints IntKind.u32 5 (nuU (numU w0_6 % p1305))))] else Option.none) (List.replicate 5 0) hl hb hm hbm 5 0 (List.replicate 5 0) rfl rfl (by decide) (by simp [valB]) 11 (by decide)
      refine Eq.trans g4 ?_
      rw [okV_nats (by omega) g2, numU_nats, g3]; rfl
  · cases h
noncomputable def Q25 : Ctx := (64, { sig := S64, impl := I64 }) :: (65, { sig := S65, impl := I65 }) :: (66, { sig := S66, impl := I66 }) :: []
theorem Q25_ok : CtxOk Try.prog Q25 := ctxOk_cons ok64 rfl c64 (ctxOk_cons ok65 rfl c65 (ctxOk_cons ok66 rfl c66 ctxOk_nil))
end Go.Proofs.Ytiaddnmloonhgaa

/- What rime/rimeref12.Mac comes to. MADE BY PROGRAM (wip/tools/mkfn.py, EngGen.lean). -/
namespace Go.Proofs.Ytiaddnmloonhgaa
open Go Go.Eng
set_option maxRecDepth 100000
set_option linter.unusedVariables false

def f25_4_sh : Shp := { n := 83, lo := 2, slots := [(1, .one (.fix (At.own 1))), (2, .one (.fix (At.ptr 2 0 Off.z 32))), (4, .one (.fix (At.ptr 4 0 Off.z 16))), (8, .one (.fix (At.ptr 8 0 Off.z 5))), (9, .one (.fix (At.ptr 9 0 Off.z 5))), (10, .one (.int IntKind.i64))], items := [(1, .view IntKind.u8 1), (2, .obj [.ints IntKind.u8 32]), (4, .obj [.ints IntKind.u8 16]), (8, .obj [.ints IntKind.u32 5]), (9, .obj [.ints IntKind.u32 5])] }
def f25_4_ex1 : Shp := { n := 83, lo := 2, slots := [(41, .one (.bool)), (1, .one (.fix (At.own 1))), (2, .one (.fix (At.ptr 2 0 Off.z 32))), (4, .one (.fix (At.ptr 4 0 Off.z 16))), (8, .one (.fix (At.ptr 8 0 Off.z 5))), (9, .one (.fix (At.ptr 9 0 Off.z 5))), (10, .one (.int IntKind.i64))], items := [(1, .view IntKind.u8 1), (2, .obj [.ints IntKind.u8 32]), (4, .obj [.ints IntKind.u8 16]), (8, .obj [.ints IntKind.u32 5]), (9, .obj [.ints IntKind.u32 5])] }
noncomputable def f25_4_st {R : Type} (N : Nat) (self : Int → List Int → List Int → List Int → List Int → List Int → Option R) (k1 : Bool → Int → List Int → List Int → List Int → List Int → List Int → Option R) (x1 : Int) (x2 : List Int) (x3 : List Int) (x4 : List Int) (x5 : List Int) (x6 : List Int) : Option R :=
 bif Decidable.decide (x1 < nI (rowLen 1 x2)) then
 let v0 : Int := IntKind.i64.wrap (x1 + 16);
 bif hiOk (Option.some (minI v0 (nI (rowLen 1 x2)))) (rowLen 1 x2) then
 bif loOk (Option.some x1) (hiInt (Option.some (minI v0 (nI (rowLen 1 x2)))) (rowLen 1 x2)) then
 let v1 : List Int := Go.Eng.sub x2 (plusO Off.z 1 (Option.some x1)) (mulE (Go.Eng.subN (hiNat (Option.some (minI v0 (nI (rowLen 1 x2)))) (rowLen 1 x2)) (Option.some x1)) 1);
 bif (rowLen 1 v1 * 1).ble big48 && (rowLen 1 v1).ble big48 then
 let v2 : List Int := (zerosOf (1 * 1)).set 0 1;
 bif ((2 * (rowLen 1 v1 + rowLen 1 v2) + 192) * 1).ble big48 && (rowLen 1 v1 + rowLen 1 v2).ble big48 then
 let v3 : List Int := v1 ++ v2;
 bif okY 20 v3 then bif okU x6 && (okU (nuU (numY v3)) && Decidable.decide (numU x6 + numU (nuU (numY v3)) < 1461501637330902918203684832716283019655932542976)) then bif okU (nuU (numU x6 + numU (nuU (numY v3)))) && okU x5 then self v0 x2 x3 x4 x5 (nuU (numU (nuU (numU x6 + numU (nuU (numY v3)))) * numU x5 % p1305)) else Option.none else Option.none else Option.none
 else Option.none
 else Option.none
 else Option.none
 else Option.none
else k1 (Decidable.decide (x1 < nI (rowLen 1 x2))) x1 x2 x3 x4 x5 x6
noncomputable def f25_4_lp {R : Type} (N : Nat) (k1 : Bool → Int → List Int → List Int → List Int → List Int → List Int → Option R) : Nat → Int → List Int → List Int → List Int → List Int → List Int → Option R
 | 0, _, _, _, _, _, _ => none
 | n + 1, x1, x2, x3, x4, x5, x6 => f25_4_st N (f25_4_lp N k1 n) k1 x1 x2 x3 x4 x5 x6
noncomputable def f25_4_F (N : Nat) : (R : Type) → List Leaf → (X → AS → Option R) → Option R := fun _ ls K => match ls with
 | [.i x1, .l x2, .l x3, .l x4, .l x5, .l x6] => f25_4_lp N (fun y1 y2 y3 y4 y5 y6 y7 => K (X.normal) (fill f25_4_ex1 [.b y1, .i y2, .l y3, .l y4, .l y5, .l y6, .l y7])) N x1 x2 x3 x4 x5 x6
 | _ => none
noncomputable def f25_raw {R : Type} (N : Nat) (key : List Int) (b : List Int) (k : List DV → Option R) : Option R :=
 let v0 : Int := andI IntKind.u8 (key.getD (mulE (Int.toNat 3) 1) 0) 15;
let v1 : List Int := key.set (mulE (Int.toNat 3) 1) v0;
let v2 : Int := IntKind.i64.wrap (3 + 4);
let v3 : Int := andI IntKind.u8 (v1.getD (mulE v2.toNat 1) 0) 15;
let v4 : List Int := v1.set (mulE v2.toNat 1) v3;
let v5 : Int := IntKind.i64.wrap (v2 + 4);
let v6 : Int := andI IntKind.u8 (v4.getD (mulE v5.toNat 1) 0) 15;
let v7 : List Int := v4.set (mulE v5.toNat 1) v6;
let v8 : Int := IntKind.i64.wrap (v5 + 4);
let v9 : Int := andI IntKind.u8 (v7.getD (mulE v8.toNat 1) 0) 15;
let v10 : List Int := v7.set (mulE v8.toNat 1) v9;
let v11 : Int := andI IntKind.u8 (v10.getD (mulE (Int.toNat 4) 1) 0) 252;
let v12 : List Int := v10.set (mulE (Int.toNat 4) 1) v11;
let v13 : Int := IntKind.i64.wrap (4 + 4);
let v14 : Int := andI IntKind.u8 (v12.getD (mulE v13.toNat 1) 0) 252;
let v15 : List Int := v12.set (mulE v13.toNat 1) v14;
let v16 : Int := IntKind.i64.wrap (v13 + 4);
let v17 : Int := andI IntKind.u8 (v15.getD (mulE v16.toNat 1) 0) 252;
let v18 : List Int := v15.set (mulE v16.toNat 1) v17;
let v19 : List Int := Go.Eng.sub v18 (plusO Off.z 1 Option.none) (mulE (Go.Eng.subN (hiNat (Option.some 16) 32) Option.none) 1);
bif okY 20 v19 then
 f25_4_lp N
 (fun w20_1 w20_2 w20_3 w20_4 w20_5 w20_6 w20_7 =>
 let v21 : List Int := Go.Eng.sub w20_4 (plusO Off.z 1 (Option.some 16)) (mulE (Go.Eng.subN (hiNat Option.none 32) (Option.some 16)) 1);
 bif okY 20 v21 then
 bif okU w20_7 && (okU (nuU (numY v21)) && Decidable.decide (numU w20_7 + numU (nuU (numY v21)) < 1461501637330902918203684832716283019655932542976)) then
 let v22 : Int := IntKind.i64.wrap (Int.tdiv 0 4);
 let v23 : Int := IntKind.i64.wrap (8 * Int.tmod 0 4);
 let v24 : Int := IntKind.u64.wrap v23;
 let v25 : Int := shrI IntKind.u32 ((nuU (numU w20_7 + numU (nuU (numY v21)))).getD (mulE v22.toNat 1) 0) v24;
 let v26 : Int := IntKind.u8.wrap v25;
 let v27 : List Int := (List.replicate 16 0).set (mulE (Int.toNat 0) 1) v26;
 let v28 : Int := IntKind.i64.wrap (0 + 1);
 let v29 : Int := IntKind.i64.wrap (v28.tdiv 4);
 let v30 : Int := IntKind.i64.wrap (8 * v28.tmod 4);
 let v31 : Int := IntKind.u64.wrap v30;
 let v32 : Int := shrI IntKind.u32 ((nuU (numU w20_7 + numU (nuU (numY v21)))).getD (mulE v29.toNat 1) 0) v31;
 let v33 : Int := IntKind.u8.wrap v32;
 let v34 : List Int := v27.set (mulE v28.toNat 1) v33;
 let v35 : Int := IntKind.i64.wrap (v28 + 1);
 let v36 : Int := IntKind.i64.wrap (v35.tdiv 4);
 let v37 : Int := IntKind.i64.wrap (8 * v35.tmod 4);
 let v38 : Int := IntKind.u64.wrap v37;
 let v39 : Int := shrI IntKind.u32 ((nuU (numU w20_7 + numU (nuU (numY v21)))).getD (mulE v36.toNat 1) 0) v38;
 let v40 : Int := IntKind.u8.wrap v39;
 let v41 : List Int := v34.set (mulE v35.toNat 1) v40;
 let v42 : Int := IntKind.i64.wrap (v35 + 1);
 let v43 : Int := IntKind.i64.wrap (v42.tdiv 4);
 let v44 : Int := IntKind.i64.wrap (8 * v42.tmod 4);
 let v45 : Int := IntKind.u64.wrap v44;
 let v46 : Int := shrI IntKind.u32 ((nuU (numU w20_7 + numU (nuU (numY v21)))).getD (mulE v43.toNat 1) 0) v45;
 let v47 : Int := IntKind.u8.wrap v46;
 let v48 : List Int := v41.set (mulE v42.toNat 1) v47;
 let v49 : Int := IntKind.i64.wrap (v42 + 1);
 let v50 : Int := IntKind.i64.wrap (v49.tdiv 4);
 let v51 : Int := IntKind.i64.wrap (8 * v49.tmod 4);
 let v52 : Int := IntKind.u64.wrap v51;
 let v53 : Int := shrI IntKind.u32 ((nuU (numU w20_7 + numU (nuU (numY v21)))).getD (mulE v50.toNat 1) 0) v52;
 let v54 : Int := IntKind.u8.wrap v53;
 let v55 : List Int := v48.set (mulE v49.toNat 1) v54;
 let v56 : Int := IntKind.i64.wrap (v49 + 1);
 let v57 : Int := IntKind.i64.wrap (v56.tdiv 4);
 let v58 : Int := IntKind.i64.wrap (8 * v56.tmod 4);
 let v59 : Int := IntKind.u64.wrap v58;
 let v60 : Int := shrI IntKind.u32 ((nuU (numU w20_7 + numU (nuU (numY v21)))).getD (mulE v57.toNat 1) 0) v59;
 let v61 : Int := IntKind.u8.wrap v60;
 let v62 : List Int := v55.set (mulE v56.toNat 1) v61;
 let v63 : Int := IntKind.i64.wrap (v56 + 1);
 let v64 : Int := IntKind.i64.wrap (v63.tdiv 4);
 let v65 : Int := IntKind.i64.wrap (8 * v63.tmod 4);
 let v66 : Int := IntKind.u64.wrap v65;
 let v67 : Int := shrI IntKind.u32 ((nuU (numU w20_7 + numU (nuU (numY v21)))).getD (mulE v64.toNat 1) 0) v66;
 let v68 : Int := IntKind.u8.wrap v67;
 let v69 : List Int := v62.set (mulE v63.toNat 1) v68;
 let v70 : Int := IntKind.i64.wrap (v63 + 1);
 let v71 : Int := IntKind.i64.wrap (v70.tdiv 4);
 let v72 : Int := IntKind.i64.wrap (8 * v70.tmod 4);
 let v73 : Int := IntKind.u64.wrap v72;
 let v74 : Int := shrI IntKind.u32 ((nuU (numU w20_7 + numU (nuU (numY v21)))).getD (mulE v71.toNat 1) 0) v73;
 let v75 : Int := IntKind.u8.wrap v74;
 let v76 : List Int := v69.set (mulE v70.toNat 1) v75;
 let v77 : Int := IntKind.i64.wrap (v70 + 1);
 let v78 : Int := IntKind.i64.wrap (v77.tdiv 4);
 let v79 : Int := IntKind.i64.wrap (8 * v77.tmod 4);
 let v80 : Int := IntKind.u64.wrap v79;
 let v81 : Int := shrI IntKind.u32 ((nuU (numU w20_7 + numU (nuU (numY v21)))).getD (mulE v78.toNat 1) 0) v80;
 let v82 : Int := IntKind.u8.wrap v81;
 let v83 : List Int := v76.set (mulE v77.toNat 1) v82;
 let v84 : Int := IntKind.i64.wrap (v77 + 1);
 let v85 : Int := IntKind.i64.wrap (v84.tdiv 4);
 let v86 : Int := IntKind.i64.wrap (8 * v84.tmod 4);
 let v87 : Int := IntKind.u64.wrap v86;
 let v88 : Int := shrI IntKind.u32 ((nuU (numU w20_7 + numU (nuU (numY v21)))).getD (mulE v85.toNat 1) 0) v87;
 let v89 : Int := IntKind.u8.wrap v88;
 let v90 : List Int := v83.set (mulE v84.toNat 1) v89;
 let v91 : Int := IntKind.i64.wrap (v84 + 1);
 let v92 : Int := IntKind.i64.wrap (v91.tdiv 4);
 let v93 : Int := IntKind.i64.wrap (8 * v91.tmod 4);
 let v94 : Int := IntKind.u64.wrap v93;
 let v95 : Int := shrI IntKind.u32 ((nuU (numU w20_7 + numU (nuU (numY v21)))).getD (mulE v92.toNat 1) 0) v94;
 let v96 : Int := IntKind.u8.wrap v95;
 let v97 : List Int := v90.set (mulE v91.toNat 1) v96;
 let v98 : Int := IntKind.i64.wrap (v91 + 1);
 let v99 : Int := IntKind.i64.wrap (v98.tdiv 4);
 let v100 : Int := IntKind.i64.wrap (8 * v98.tmod 4);
 let v101 : Int := IntKind.u64.wrap v100;
 let v102 : Int := shrI IntKind.u32 ((nuU (numU w20_7 + numU (nuU (numY v21)))).getD (mulE v99.toNat 1) 0) v101;
 let v103 : Int := IntKind.u8.wrap v102;
 let v104 : List Int := v97.set (mulE v98.toNat 1) v103;
 let v105 : Int := IntKind.i64.wrap (v98 + 1);
 let v106 : Int := IntKind.i64.wrap (v105.tdiv 4);
 let v107 : Int := IntKind.i64.wrap (8 * v105.tmod 4);
 let v108 : Int := IntKind.u64.wrap v107;
 let v109 : Int := shrI IntKind.u32 ((nuU (numU w20_7 + numU (nuU (numY v21)))).getD (mulE v106.toNat 1) 0) v108;
 let v110 : Int := IntKind.u8.wrap v109;
 let v111 : List Int := v104.set (mulE v105.toNat 1) v110;
 let v112 : Int := IntKind.i64.wrap (v105 + 1);
 let v113 : Int := IntKind.i64.wrap (v112.tdiv 4);
 let v114 : Int := IntKind.i64.wrap (8 * v112.tmod 4);
 let v115 : Int := IntKind.u64.wrap v114;
 let v116 : Int := shrI IntKind.u32 ((nuU (numU w20_7 + numU (nuU (numY v21)))).getD (mulE v113.toNat 1) 0) v115;
 let v117 : Int := IntKind.u8.wrap v116;
 let v118 : List Int := v111.set (mulE v112.toNat 1) v117;
 let v119 : Int := IntKind.i64.wrap (v112 + 1);
 let v120 : Int := IntKind.i64.wrap (v119.tdiv 4);
 let v121 : Int := IntKind.i64.wrap (8 * v119.tmod 4);
 let v122 : Int := IntKind.u64.wrap v121;
 let v123 : Int := shrI IntKind.u32 ((nuU (numU w20_7 + numU (nuU (numY v21)))).getD (mulE v120.toNat 1) 0) v122;
 let v124 : Int := IntKind.u8.wrap v123;
 let v125 : List Int := v118.set (mulE v119.toNat 1) v124;
 let v126 : Int := IntKind.i64.wrap (v119 + 1);
 let v127 : Int := IntKind.i64.wrap (v126.tdiv 4);
 let v128 : Int := IntKind.i64.wrap (8 * v126.tmod 4);
 let v129 : Int := IntKind.u64.wrap v128;
 let v130 : Int := shrI IntKind.u32 ((nuU (numU w20_7 + numU (nuU (numY v21)))).getD (mulE v127.toNat 1) 0) v129;
 let v131 : Int := IntKind.u8.wrap v130;
 let v132 : List Int := v125.set (mulE v126.toNat 1) v131;
 k [DV.v (SV.one (At.ints IntKind.u8 16 v132))]
 else Option.none
 else Option.none)
 N 0 b key (List.replicate 16 0) (nuU (numY v19)) (List.replicate 5 0)
else Option.none


noncomputable def E25 (N : Nat) : Env := { Θ := Th, Γ := Q25, K := K25, ν := N25, fuel := 40, lp := [(4, mkL N25_4 f25_4_sh (f25_4_F N))] }

theorem f25_4_st_eq {R : Type} (N : Nat) (K : X → AS → Option R) (n : Nat) (x1 : Int) (x2 : List Int) (x3 : List Int) (x4 : List Int) (x5 : List Int) (x6 : List Int) : roundsOf (E25 N) N25_4 4 B25_4 K (n + 1) (fill f25_4_sh [.i x1, .l x2, .l x3, .l x4, .l x5, .l x6]) = f25_4_st N (fun x1 x2 x3 x4 x5 x6 => roundsOf (E25 N) N25_4 4 B25_4 K n (fill f25_4_sh [.i x1, .l x2, .l x3, .l x4, .l x5, .l x6])) (fun y1 y2 y3 y4 y5 y6 y7 => K (X.normal) (fill f25_4_ex1 [.b y1, .i y2, .l y3, .l y4, .l y5, .l y6, .l y7])) x1 x2 x3 x4 x5 x6 := by kernel_rfl
theorem f25_4_lp_eq {R : Type} (N : Nat) (K : X → AS → Option R) : ∀ (n : Nat) (x1 : Int) (x2 : List Int) (x3 : List Int) (x4 : List Int) (x5 : List Int) (x6 : List Int), roundsOf (E25 N) N25_4 4 B25_4 K n (fill f25_4_sh [.i x1, .l x2, .l x3, .l x4, .l x5, .l x6]) = f25_4_lp N (fun y1 y2 y3 y4 y5 y6 y7 => K (X.normal) (fill f25_4_ex1 [.b y1, .i y2, .l y3, .l y4, .l y5, .l y6, .l y7])) n x1 x2 x3 x4 x5 x6
  | 0, _, _, _, _, _, _ => rfl
  | n + 1, x1, x2, x3, x4, x5, x6 => by
    rw [f25_4_st_eq, f25_4_lp, show (fun x1 x2 x3 x4 x5 x6 => roundsOf (E25 N) N25_4 4 B25_4 K n (fill f25_4_sh [.i x1, .l x2, .l x3, .l x4, .l x5, .l x6])) = f25_4_lp N (fun y1 y2 y3 y4 y5 y6 y7 => K (X.normal) (fill f25_4_ex1 [.b y1, .i y2, .l y3, .l y4, .l y5, .l y6, .l y7])) n from by funext x1 x2 x3 x4 x5 x6; exact f25_4_lp_eq N K n x1 x2 x3 x4 x5 x6]
theorem f25_4_ok (N : Nat) (hlp : LoopsOk Try.prog (E25 N).lp B25_4) (hΓ : CtxOk Try.prog (E25 N).Γ) : LoopOk Try.prog (mkL N25_4 f25_4_sh (f25_4_F N)) 4 B25_4 := by
  refine loopOk_of (E := E25 N) thOk hΓ mixed hlp ?_
  intro R ls K r h
  unfold f25_4_F at h
  split at h
  · exact ⟨N, by rw [f25_4_lp_eq]; exact h⟩
  · cases h

theorem lok25_4 (N : Nat) (hΓ : CtxOk Try.prog Q25) : LoopOk Try.prog (mkL N25_4 f25_4_sh (f25_4_F N)) 4 B25_4 := f25_4_ok N (loopsOk_of (l := []) (by kernel_rfl) trivial) hΓ
theorem f25_contract (N : Nat) (hΓ : CtxOk Try.prog Q25) : Contract Try.prog 25 { sig := S25, impl := fun _ ds k => call (E25 N) S25 83 B25 R25 ds k } :=
  call_contract (E := E25 N) thOk hΓ mixed ok25.look ok25.body ok25.n ok25.rv ok25.name rfl (by decide) (loopsOk_of (l := [(0, B25_0), (2, B25_2), (4, B25_4), (6, B25_6)]) (by kernel_rfl) (allOk_skip rfl (allOk_skip rfl (allOk_cons (L := mkL N25_4 f25_4_sh (f25_4_F N)) rfl (lok25_4 N hΓ) (allOk_skip rfl trivial)))))
theorem f25_raw_eq {R : Type} (N : Nat) (key : List Int) (b : List Int) (k : List DV → Option R) : call (E25 N) S25 83 B25 R25 [.v (.one (.ints .u8 32 key)), .lst .u8 1 b] k = f25_raw N key b k := by kernel_rfl
end Go.Proofs.Ytiaddnmloonhgaa

/- Limbs of bytes; the whole; the digits of a tag: as numbers. -/
namespace Go.Proofs.Ytiaddnmloonhgaa
open Go Go.Eng
set_option maxRecDepth 100000

/-! ### limbs of bytes -/

theorem nats_bound {l : List Nat} {b : Nat} (h : ∀ x ∈ l, x < b) (hb : 0 < b) (i : Nat) : l.getD i 0 < b := by
  rw [List.getD_eq_getElem?_getD]
  cases hx : l[i]? with
  | none => exact hb
  | some x => exact h x (List.mem_of_getElem? hx)

theorem limbBit_nat {l : List Nat} (h : ∀ x ∈ l, x < 256) (i : Nat) : limbBit (nats l) i = decide (valB 256 l / 2 ^ i % 2 = 1) := by
  unfold limbBit
  have hb := nats_bound h (by decide) (i / 8)
  rw [nats_getD, shrN (k := .u8) (m := i % 8) (by show i % 8 ≤ 8; omega)]
  have e : andI .u8 ((l.getD (i / 8) 0 / 2 ^ (i % 8) : Nat) : Int) 1 = ((l.getD (i / 8) 0 / 2 ^ (i % 8) % 2 ^ 1 : Nat) : Int) :=
    maskN (k := .u8) (j := 1) rfl (Nat.lt_of_le_of_lt (Nat.div_le_self _ _) hb) (by decide)
  rw [e, valB_byte_bit h, Nat.pow_one]
  by_cases h2 : l.getD (i / 8) 0 / 2 ^ (i % 8) % 2 = 1
  · rw [h2]; rfl
  · have : l.getD (i / 8) 0 / 2 ^ (i % 8) % 2 = 0 := by omega
    rw [this]; rfl

theorem limbs_step_nat {l : List Nat} (h : ∀ x ∈ l, x < 256) {i : Nat} (hi : i < 130) :
    limbsStep (nats l) i (nats (digs 67108864 5 (valB 256 l % 2 ^ i))) = nats (digs 67108864 5 (valB 256 l % 2 ^ (i + 1))) := by
  unfold limbsStep
  rw [limbBit_nat h, show decide (i < 130) = true from decide_eq_true hi, Bool.true_and, mod_two_pow_succ]
  have hlt := Nat.mod_lt (valB 256 l) (Nat.two_pow_pos i)
  generalize valB 256 l % 2 ^ i = n at hlt ⊢
  by_cases hb : valB 256 l / 2 ^ i % 2 = 1
  · rw [hb, Nat.one_mul, decide_eq_true rfl, cond_true]
    have hs := digs_set (w := 26) (by decide) 5 n i hlt (by omega)
    rw [show (2 : Nat) ^ 26 = 67108864 from rfl] at hs
    rw [hs, ← nats_set]
    congr 1
    rw [nats_getD]
    have hd : (digs 67108864 5 n).getD (i / 26) 0 < 2 ^ (i % 26) := by
      rw [digs_getD _ _ _ _ (by omega)]
      have e : (2 : Nat) ^ i = 67108864 ^ (i / 26) * 2 ^ (i % 26) := by
        rw [show (67108864 : Nat) = 2 ^ 26 from rfl, ← Nat.pow_mul, ← Nat.pow_add, Nat.div_add_mod]
      refine Nat.lt_of_le_of_lt (Nat.mod_le _ _) ?_
      exact Nat.div_lt_of_lt_mul (by rw [← e]; exact hlt)
    have hm : i % 26 < 26 := Nat.mod_lt _ (by decide)
    generalize (digs 67108864 5 n).getD (i / 26) 0 = x at hd ⊢
    generalize i % 26 = j at hd hm ⊢
    have hp : (2 : Nat) ^ j ≤ 2 ^ 25 := Nat.pow_le_pow_right (by decide) (by omega)
    have e1 : shlI .u64 1 (j : Int) = ((2 ^ j : Nat) : Int) := by
      have := shlN (k := .u64) rfl (m := j) (by show j ≤ 64; omega) 1
      rw [Nat.one_mul, Nat.mod_eq_of_lt (Nat.lt_of_le_of_lt hp (by decide))] at this
      exact this
    rw [e1, orN (k := .u64) rfl (Nat.lt_of_lt_of_le hd (Nat.le_trans hp (by decide))) (Nat.lt_of_le_of_lt hp (by decide))]
    have := or_addN' (a := 1) (b := x) (j := j) hd
    rw [Nat.one_mul] at this
    rw [this]
  · have h0 : valB 256 l / 2 ^ i % 2 = 0 := by omega
    rw [h0, Nat.zero_mul, Nat.add_zero, decide_eq_false (by decide), cond_false]

theorem limbsGo_nat {l : List Nat} (h : ∀ x ∈ l, x < 256) : ∀ (m i : Nat), i + m = 130 → limbsGo (nats l) m i (nats (digs 67108864 5 (valB 256 l % 2 ^ i))) = nats (digs 67108864 5 (valB 256 l % 2 ^ 130))
  | 0, i, hm => by rw [show i = 130 by omega]; rfl
  | m + 1, i, hm => by
    rw [limbsGo, limbs_step_nat h (by omega)]
    exact limbsGo_nat h m (i + 1) (by omega)

theorem limbsGo_split (b : List Int) : ∀ (m k i : Nat) (n : List Int), limbsGo b (m + k) i n = limbsGo b k (i + m) (limbsGo b m i n)
  | 0, k, i, n => by rw [Nat.zero_add]; rfl
  | m + 1, k, i, n => by
    rw [show m + 1 + k = (m + k) + 1 by omega, limbsGo, limbsGo_split b m k (i + 1), limbsGo, show i + 1 + m = i + (m + 1) by omega]

theorem limbsGo_rest (b : List Int) : ∀ (m i : Nat) (n : List Int), 130 ≤ i → limbsGo b m i n = n
  | 0, _, _, _ => rfl
  | m + 1, i, n, h => by
    have : limbsStep b i n = n := by
      unfold limbsStep
      rw [show decide (i < 130) = false from decide_eq_false (by omega)]; rfl
    rw [limbsGo, this]
    exact limbsGo_rest b m (i + 1) n (by omega)

theorem limbs_nat {l : List Nat} (h : ∀ x ∈ l, x < 256) : limbsL (nats l) = nats (digs 67108864 5 (valB 256 l % 2 ^ 130)) := by
  unfold limbsL
  rw [show (136 : Nat) = 130 + 6 from rfl, limbsGo_split, limbsGo_rest _ _ _ _ (by decide)]
  have := limbsGo_nat h 130 0 rfl
  rw [show valB 256 l % 2 ^ 0 = 0 from Nat.mod_one _] at this
  exact this

/-! ### the whole -/

def wholeOf (D : List Int) : Option (Int × List Int × List Int) :=
  f63_0_lp 6 (fun _ y2 _ y4 _ y6 => some (y2, y4, y6)) 6 0 0 D (List.replicate 5 0) (D.set 0 (IntKind.u64.wrap (D.getD 0 0 + 5)))

theorem whole_of (a : List Int) : wholeRun a = wholeOf (carriedL (carriedL a)) := by kernel_rfl

def chainI (e0 a1 a2 a3 a4 : Int) : Int × List Int :=
  let s0 := IntKind.u64.wrap (e0 + 0)
  let s1 := IntKind.u64.wrap (a1 + shrI .u64 s0 26)
  let s2 := IntKind.u64.wrap (a2 + shrI .u64 s1 26)
  let s3 := IntKind.u64.wrap (a3 + shrI .u64 s2 26)
  let s4 := IntKind.u64.wrap (a4 + shrI .u64 s3 26)
  (shrI .u64 s4 26, [andI .u64 s0 67108863, andI .u64 s1 67108863, andI .u64 s2 67108863, andI .u64 s3 67108863, andI .u64 s4 67108863])

theorem wholeOf_eq (a0 a1 a2 a3 a4 : Int) : wholeOf [a0, a1, a2, a3, a4] = some ((chainI (IntKind.u64.wrap (a0 + 5)) a1 a2 a3 a4).1, [a0, a1, a2, a3, a4], (chainI (IntKind.u64.wrap (a0 + 5)) a1 a2 a3 a4).2) := by kernel_rfl

theorem chain_nat {a0 a1 a2 a3 a4 : Nat} (h0 : a0 < 4611686018427387904) (h1 : a1 < 4611686018427387904) (h2 : a2 < 4611686018427387904) (h3 : a3 < 4611686018427387904) (h4 : a4 < 4611686018427387904) :
    chainI (a0 : Int) (a1 : Int) (a2 : Int) (a3 : Int) (a4 : Int) = ((carC a0 a1 a2 a3 a4 : Int), nats [a0 % 67108864, (a1 + a0 / 67108864) % 67108864, (a2 + (a1 + a0 / 67108864) / 67108864) % 67108864,
    (a3 + (a2 + (a1 + a0 / 67108864) / 67108864) / 67108864) % 67108864, (a4 + (a3 + (a2 + (a1 + a0 / 67108864) / 67108864) / 67108864) / 67108864) % 67108864]) := by
  unfold chainI
  have e0 : IntKind.u64.wrap ((a0 : Int) + 0) = (a0 : Int) := by rw [Int.add_zero]; exact w64 (by omega)
  dsimp only
  simp only [e0, shr26]
  have e1 : IntKind.u64.wrap ((a1 : Int) + ((a0 / 67108864 : Nat) : Int)) = ((a1 + a0 / 67108864 : Nat) : Int) := w64 (n := a1 + a0 / 67108864) (by omega)
  simp only [e1, shr26]
  generalize hs1 : a1 + a0 / 67108864 = s1
  have e2 : IntKind.u64.wrap ((a2 : Int) + ((s1 / 67108864 : Nat) : Int)) = ((a2 + s1 / 67108864 : Nat) : Int) := w64 (n := a2 + s1 / 67108864) (by omega)
  simp only [e2, shr26]
  generalize hs2 : a2 + s1 / 67108864 = s2
  have e3 : IntKind.u64.wrap ((a3 : Int) + ((s2 / 67108864 : Nat) : Int)) = ((a3 + s2 / 67108864 : Nat) : Int) := w64 (n := a3 + s2 / 67108864) (by omega)
  simp only [e3, shr26]
  generalize hs3 : a3 + s2 / 67108864 = s3
  have e4 : IntKind.u64.wrap ((a4 : Int) + ((s3 / 67108864 : Nat) : Int)) = ((a4 + s3 / 67108864 : Nat) : Int) := w64 (n := a4 + s3 / 67108864) (by omega)
  simp only [e4, shr26]
  generalize hs4 : a4 + s3 / 67108864 = s4
  rw [and26 (by omega), and26 (by omega), and26 (by omega), and26 (by omega), and26 (by omega)]
  unfold carC
  rw [hs1, hs2, hs3, hs4]
  rfl

/-- once carried, limbs that are nearly small are small -/
theorem car_small {c0 c1 c2 c3 c4 : Nat} (h0 : c0 ≤ 67108868) (h1 : c1 < 67108864) (h2 : c2 < 67108864) (h3 : c3 < 67108864) (h4 : c4 < 67108864) :
    carC c0 c1 c2 c3 c4 ≤ 1 ∧ c0 % 67108864 + 5 * carC c0 c1 c2 c3 c4 < 67108864 := by
  unfold carC
  have a1 : c0 / 67108864 ≤ 1 := by omega
  have a0 : c0 / 67108864 = 0 ∨ c0 % 67108864 ≤ 4 := by omega
  have a2 := Nat.mod_lt c0 (show 67108864 > 0 by decide)
  generalize c0 / 67108864 = q0 at *
  generalize c0 % 67108864 = r0 at *
  have b1 : (c1 + q0) / 67108864 ≤ q0 := by omega
  generalize (c1 + q0) / 67108864 = q1 at *
  have b2 : (c2 + q1) / 67108864 ≤ q1 := by omega
  generalize (c2 + q1) / 67108864 = q2 at *
  have b3 : (c3 + q2) / 67108864 ≤ q2 := by omega
  generalize (c3 + q2) / 67108864 = q3 at *
  have b4 : (c4 + q3) / 67108864 ≤ q3 := by omega
  generalize (c4 + q3) / 67108864 = q4 at *
  omega

/-- small limbs stay -/
theorem car_none {c0 c1 c2 c3 c4 : Nat} (h0 : c0 < 67108864) (h1 : c1 < 67108864) (h2 : c2 < 67108864) (h3 : c3 < 67108864) (h4 : c4 < 67108864) : carN c0 c1 c2 c3 c4 = [c0, c1, c2, c3, c4] := by
  unfold carN carC
  rw [Nat.div_eq_of_lt h0, Nat.add_zero, Nat.div_eq_of_lt h1, Nat.add_zero, Nat.div_eq_of_lt h2, Nat.add_zero, Nat.div_eq_of_lt h3, Nat.add_zero, Nat.div_eq_of_lt h4,
    Nat.mod_eq_of_lt h0, Nat.mod_eq_of_lt h1, Nat.mod_eq_of_lt h2, Nat.mod_eq_of_lt h3, Nat.mod_eq_of_lt h4, Nat.mul_zero, Nat.add_zero]

theorem five_lt {d0 d1 d2 d3 d4 : Nat} (g0 : d0 < 67108864) (g1 : d1 < 67108864) (g2 : d2 < 67108864) (g3 : d3 < 67108864) (g4 : d4 < 67108864) : ∀ x ∈ [d0, d1, d2, d3, d4], x < 67108864 := by
  intro x hx
  simp only [List.mem_cons, List.not_mem_nil, or_false] at hx
  rcases hx with rfl | rfl | rfl | rfl | rfl <;> assumption

theorem digs_five {d0 d1 d2 d3 d4 : Nat} (g0 : d0 < 67108864) (g1 : d1 < 67108864) (g2 : d2 < 67108864) (g3 : d3 < 67108864) (g4 : d4 < 67108864) : digs 67108864 5 (val5 d0 d1 d2 d3 d4) = [d0, d1, d2, d3, d4] := by
  rw [← val5_eq]
  exact digs_of (by decide) (five_lt g0 g1 g2 g3 g4)

theorem val5_lt {d0 d1 d2 d3 d4 : Nat} (g0 : d0 < 67108864) (g1 : d1 < 67108864) (g2 : d2 < 67108864) (g3 : d3 < 67108864) (g4 : d4 < 67108864) : val5 d0 d1 d2 d3 d4 < 1361129467683753853853498429727072845824 := by
  rw [← val5_eq]
  have h := valB_lt (b := 67108864) (by decide) (five_lt g0 g1 g2 g3 g4)
  rw [show [d0, d1, d2, d3, d4].length = 5 from rfl, show (67108864 : Nat) ^ 5 = 1361129467683753853853498429727072845824 by decide] at h
  exact h

theorem whole_nat {c0 c1 c2 c3 c4 : Nat} (h0 : c0 ≤ 67108868) (h1 : c1 < 67108864) (h2 : c2 < 67108864) (h3 : c3 < 67108864) (h4 : c4 < 67108864) :
    wholeL (nats [c0, c1, c2, c3, c4]) = nats (digs 67108864 5 (val5 c0 c1 c2 c3 c4 % p1305)) := by
  have key : ∃ d0 d1 d2 d3 d4 : Nat, carriedL (nats [c0, c1, c2, c3, c4]) = nats [d0, d1, d2, d3, d4] ∧ d0 < 67108864 ∧ d1 < 67108864 ∧ d2 < 67108864 ∧ d3 < 67108864 ∧ d4 < 67108864 ∧ val5 d0 d1 d2 d3 d4 % p1305 = val5 c0 c1 c2 c3 c4 % p1305 := by
    have hv := car_val c0 c1 c2 c3 c4
    obtain ⟨hc, hs⟩ := car_small h0 h1 h2 h3 h4
    have en : carriedL (nats [c0, c1, c2, c3, c4]) = nats (carN c0 c1 c2 c3 c4) := car_nat (by omega) (by omega) (by omega) (by omega) (by omega)
    rw [en]
    unfold carN at hv ⊢
    have m1 := Nat.mod_lt (c1 + c0 / 67108864) (show 67108864 > 0 by decide)
    have m2 := Nat.mod_lt (c2 + (c1 + c0 / 67108864) / 67108864) (show 67108864 > 0 by decide)
    have m3 := Nat.mod_lt (c3 + (c2 + (c1 + c0 / 67108864) / 67108864) / 67108864) (show 67108864 > 0 by decide)
    have m4 := Nat.mod_lt (c4 + (c3 + (c2 + (c1 + c0 / 67108864) / 67108864) / 67108864) / 67108864) (show 67108864 > 0 by decide)
    generalize c0 % 67108864 + 5 * carC c0 c1 c2 c3 c4 = u0 at *
    generalize (c1 + c0 / 67108864) % 67108864 = u1 at *
    generalize (c2 + (c1 + c0 / 67108864) / 67108864) % 67108864 = u2 at *
    generalize (c3 + (c2 + (c1 + c0 / 67108864) / 67108864) / 67108864) % 67108864 = u3 at *
    generalize (c4 + (c3 + (c2 + (c1 + c0 / 67108864) / 67108864) / 67108864) / 67108864) % 67108864 = u4 at *
    refine ⟨u0, u1, u2, u3, u4, rfl, hs, m1, m2, m3, m4, ?_⟩
    rw [val5_eq] at hv
    rw [← hv, Nat.add_mul_mod_self_right]
  obtain ⟨d0, d1, d2, d3, d4, e, g0, g1, g2, g3, g4, hv⟩ := key
  have e2 : carriedL (nats [d0, d1, d2, d3, d4]) = nats [d0, d1, d2, d3, d4] :=
    (car_nat (by omega) (by omega) (by omega) (by omega) (by omega)).trans (by rw [car_none g0 g1 g2 g3 g4])
  have hrun := whole_of (nats [c0, c1, c2, c3, c4])
  rw [e, e2] at hrun
  rw [show nats [d0, d1, d2, d3, d4] = [(d0 : Int), (d1 : Int), (d2 : Int), (d3 : Int), (d4 : Int)] from rfl, wholeOf_eq] at hrun
  rw [show IntKind.u64.wrap ((d0 : Int) + 5) = ((d0 + 5 : Nat) : Int) from w64 (n := d0 + 5) (by omega), chain_nat (by omega) (by omega) (by omega) (by omega) (by omega)] at hrun
  unfold wholeL
  rw [hrun, ← hv]
  clear hrun e e2 hv h0 h1 h2 h3 h4
  have hv2 := car_val (d0 + 5) d1 d2 d3 d4
  have hlt := val5_lt g0 g1 g2 g3 g4
  have hv5 : val5 (d0 + 5) d1 d2 d3 d4 = val5 d0 d1 d2 d3 d4 + 5 := by unfold val5; omega
  rw [hv5] at hv2
  unfold carN at hv2
  have m0 := Nat.mod_lt (d0 + 5) (show 67108864 > 0 by decide)
  have m1 := Nat.mod_lt (d1 + (d0 + 5) / 67108864) (show 67108864 > 0 by decide)
  have m2 := Nat.mod_lt (d2 + (d1 + (d0 + 5) / 67108864) / 67108864) (show 67108864 > 0 by decide)
  have m3 := Nat.mod_lt (d3 + (d2 + (d1 + (d0 + 5) / 67108864) / 67108864) / 67108864) (show 67108864 > 0 by decide)
  have m4 := Nat.mod_lt (d4 + (d3 + (d2 + (d1 + (d0 + 5) / 67108864) / 67108864) / 67108864) / 67108864) (show 67108864 > 0 by decide)
  simp only
  generalize carC (d0 + 5) d1 d2 d3 d4 = c at *
  generalize (d1 + (d0 + 5) / 67108864) % 67108864 = u1 at *
  generalize (d2 + (d1 + (d0 + 5) / 67108864) / 67108864) % 67108864 = u2 at *
  generalize (d3 + (d2 + (d1 + (d0 + 5) / 67108864) / 67108864) / 67108864) % 67108864 = u3 at *
  generalize (d4 + (d3 + (d2 + (d1 + (d0 + 5) / 67108864) / 67108864) / 67108864) / 67108864) % 67108864 = u4 at *
  generalize (d0 + 5) % 67108864 = u0 at *
  have hu := val5_lt m0 m1 m2 m3 m4
  have hu5 : val5 (u0 + 5 * c) u1 u2 u3 u4 = val5 u0 u1 u2 u3 u4 + 5 * c := by unfold val5; omega
  rw [val5_eq, hu5] at hv2
  have dd := digs_five g0 g1 g2 g3 g4
  have du := digs_five m0 m1 m2 m3 m4
  generalize val5 d0 d1 d2 d3 d4 = V at *
  generalize val5 u0 u1 u2 u3 u4 = U at *
  unfold p1305 at *
  by_cases h : c = 0
  · rw [h, show decide (((0 : Nat) : Int) > 0) = false from rfl, cond_false, Nat.mod_eq_of_lt (by omega), dd]
    rfl
  · have h1 : c = 1 := by omega
    rw [h1, show decide (((1 : Nat) : Int) > 0) = true from rfl, cond_true, Nat.mod_eq_sub_mod (by omega), Nat.mod_eq_of_lt (by omega)]
    rw [show V - 1361129467683753853853498429727072845819 = U by omega, du]

/-! ### the digits of a tag -/

theorem bitsGo_nat {X base : Nat} (hX : base + 8 ≤ 130) : ∀ (m j : Nat), j + m = 8 → bitsGo (nats (digs 67108864 5 X)) base m j ((X / 2 ^ base % 2 ^ j : Nat) : Int) = ((X / 2 ^ base % 256 : Nat) : Int)
  | 0, j, h => by rw [show j = 8 by omega]; rfl
  | m + 1, j, h => by
    have step : orI .u64 ((X / 2 ^ base % 2 ^ j : Nat) : Int) (shlI .u64 (andI .u64 (shrI .u64 ((nats (digs 67108864 5 X)).getD ((base + j) / 26) 0) (((base + j) % 26 : Nat) : Int)) 1) (j : Int)) = ((X / 2 ^ base % 2 ^ (j + 1) : Nat) : Int) := by
      have hb := nats_digs_bound (b := 67108864) (m := 5) (n := X) (by decide) ((base + j) / 26)
      have hbit := digs_bit (w := 26) (m := 5) (n := X) (by decide) (j := base + j) (by omega)
      rw [show (2 : Nat) ^ 26 = 67108864 from rfl] at hbit
      rw [nats_getD, shrN (k := .u64) (m := (base + j) % 26) (by show _ ≤ 64; omega)]
      have e1 : andI .u64 (((digs 67108864 5 X).getD ((base + j) / 26) 0 / 2 ^ ((base + j) % 26) : Nat) : Int) 1 = (((digs 67108864 5 X).getD ((base + j) / 26) 0 / 2 ^ ((base + j) % 26) % 2 ^ 1 : Nat) : Int) :=
        maskN (k := .u64) (j := 1) rfl (Nat.lt_of_le_of_lt (Nat.div_le_self _ _) (Nat.lt_trans hb (by decide))) (by decide)
      rw [e1, Nat.pow_one, hbit, mod_two_pow_succ, Nat.div_div_eq_div_mul, ← Nat.pow_add]
      have hlt := Nat.mod_lt (X / 2 ^ base) (Nat.two_pow_pos j)
      have hj : (2 : Nat) ^ j ≤ 2 ^ 7 := Nat.pow_le_pow_right (by decide) (by omega)
      have hbb := Nat.mod_lt (X / 2 ^ (base + j)) (show 2 > 0 by decide)
      generalize X / 2 ^ base % 2 ^ j = n at hlt ⊢
      generalize X / 2 ^ (base + j) % 2 = t at hbb ⊢
      rw [shlN (k := .u64) rfl (m := j) (by show j ≤ 64; omega)]
      have ht : t * 2 ^ j ≤ 1 * 2 ^ 7 := Nat.mul_le_mul (by omega) hj
      rw [Nat.mod_eq_of_lt (Nat.lt_of_le_of_lt ht (by decide))]
      rw [orN (k := .u64) rfl (Nat.lt_of_lt_of_le hlt (Nat.le_trans hj (by decide))) (Nat.lt_of_le_of_lt ht (by decide)), or_addN' hlt]
    rw [bitsGo, step]
    exact bitsGo_nat hX m (j + 1) (by omega)

theorem digGo_nat {X : Nat} {key : List Nat} (hk : ∀ x ∈ key, x < 256) : ∀ (m i c : Nat), i + m ≤ 16 → c ≤ 1 →
    digGo (nats key) (nats (digs 67108864 5 X)) m i (c : Int) = nats (digs 256 m (X / 2 ^ (8 * i) + valB 256 (key.drop (16 + i)) + c))
  | 0, _, _, _, _ => rfl
  | m + 1, i, c, h, hc => by
    have hb := bitsGo_nat (X := X) (base := 8 * i) (by omega) 8 0 rfl
    rw [Nat.pow_zero, Nat.mod_one] at hb
    have hkb := nats_bound hk (by decide) (16 + i)
    have hd : valB 256 (key.drop (16 + i)) = key.getD (16 + i) 0 + 256 * valB 256 (key.drop (16 + (i + 1))) := by
      by_cases hl : 16 + i < key.length
      · rw [List.drop_eq_getElem_cons hl, valB, List.getD_eq_getElem?_getD, List.getElem?_eq_getElem hl]; rfl
      · rw [List.drop_of_length_le (by omega), List.drop_of_length_le (by omega), List.getD_eq_getElem?_getD, List.getElem?_eq_none (by omega)]; rfl
    have hxm := Nat.mod_lt (X / 2 ^ (8 * i)) (show 256 > 0 by decide)
    have hxd : X / 2 ^ (8 * (i + 1)) = X / 2 ^ (8 * i) / 256 := by
      rw [show 8 * (i + 1) = 8 * i + 8 by omega, Nat.pow_add, Nat.div_div_eq_div_mul]
    rw [digGo]
    rw [show (0 : Int) = ((0 : Nat) : Int) from rfl, hb, ← show (0 : Int) = ((0 : Nat) : Int) from rfl, nats_getD, w64 (n := key.getD (16 + i) 0) (by omega)]
    rw [show IntKind.u64.wrap (((X / 2 ^ (8 * i) % 256 : Nat) : Int) + ((key.getD (16 + i) 0 : Nat) : Int)) = ((X / 2 ^ (8 * i) % 256 + key.getD (16 + i) 0 : Nat) : Int) from w64 (n := X / 2 ^ (8 * i) % 256 + key.getD (16 + i) 0) (by omega)]
    rw [show IntKind.u64.wrap ((c : Int) + ((X / 2 ^ (8 * i) % 256 + key.getD (16 + i) 0 : Nat) : Int)) = ((c + (X / 2 ^ (8 * i) % 256 + key.getD (16 + i) 0) : Nat) : Int) from w64 (n := c + (X / 2 ^ (8 * i) % 256 + key.getD (16 + i) 0)) (by omega)]
    rw [wm8, show shrI .u64 ((c + (X / 2 ^ (8 * i) % 256 + key.getD (16 + i) 0) : Nat) : Int) 8 = (((c + (X / 2 ^ (8 * i) % 256 + key.getD (16 + i) 0)) / 2 ^ 8 : Nat) : Int) from shrN (k := .u64) (m := 8) (by decide) _]
    rw [digGo_nat hk m (i + 1) _ (by omega) (by omega), digs, hxd, hd]
    generalize X / 2 ^ (8 * i) = Y at *
    generalize key.getD (16 + i) 0 = z at *
    generalize valB 256 (key.drop (16 + (i + 1))) = V
    rw [show (2 : Nat) ^ 8 = 256 from rfl]
    rw [show (c + (Y % 256 + z)) % 256 = (Y + (z + 256 * V) + c) % 256 by omega, show Y / 256 + V + (c + (Y % 256 + z)) / 256 = (Y + (z + 256 * V) + c) / 256 by omega]
    rfl
end Go.Proofs.Ytiaddnmloonhgaa

/- The tag as a number: a polynomial modulo 2^130 - 5, and what is added. -/
namespace Go.Proofs.Ytiaddnmloonhgaa
open Go Go.Eng
set_option maxRecDepth 100000

/-! ### a piece -/

/-- the number of a piece: its bytes and a one behind -/
def pv (c : List Nat) : Nat := valB 256 c + 256 ^ c.length

theorem valB_zeros (b : Nat) : ∀ n, valB b (List.replicate n 0) = 0
  | 0 => rfl
  | n + 1 => by rw [List.replicate_succ, valB, valB_zeros b n]; simp

theorem nats_append (a b : List Nat) : nats (a ++ b) = nats a ++ nats b := by simp [nats]
theorem nats_replicate (n x : Nat) : nats (List.replicate n x) = List.replicate n (x : Int) := by simp [nats]
theorem nats_take (l : List Nat) (n : Nat) : (nats l).take n = nats (l.take n) := by simp [nats, List.map_take]
theorem nats_drop (l : List Nat) (n : Nat) : (nats l).drop n = nats (l.drop n) := by simp [nats, List.map_drop]

theorem piece_nat {c : List Nat} (hc : c.length ≤ 16) : pieceL (nats c) = nats (c ++ 1 :: List.replicate (16 - c.length) 0) := by
  unfold pieceL
  rw [nats_length]
  have e : (List.replicate 17 (0 : Int)).drop c.length = nats (0 :: List.replicate (16 - c.length) 0) := by
    rw [List.drop_replicate, show 17 - c.length = (16 - c.length) + 1 by omega, List.replicate_succ]
    simp [nats]
  rw [e, ← nats_append, show (1 : Int) = ((1 : Nat) : Int) from rfl, nats_set]
  congr 1
  rw [List.set_append_right _ _ (Nat.le_refl _), Nat.sub_self, List.set_cons_zero]

theorem piece_val (c : List Nat) : valB 256 (c ++ 1 :: List.replicate (16 - c.length) 0) = pv c := by
  rw [valB_append, valB, valB_zeros]; simp [pv]

theorem piece_lt {c : List Nat} (h : ∀ x ∈ c, x < 256) : ∀ x ∈ c ++ 1 :: List.replicate (16 - c.length) 0, x < 256 := by
  intro x hx
  rcases List.mem_append.1 hx with hx | hx
  · exact h x hx
  · rcases List.mem_cons.1 hx with e | hx
    · omega
    · have := List.eq_of_mem_replicate hx; omega

theorem pv_lt {c : List Nat} (h : ∀ x ∈ c, x < 256) (hc : c.length ≤ 16) : pv c < 2 ^ 130 := by
  have h1 := valB_lt (by decide) h
  have h2 : 256 ^ c.length ≤ 256 ^ 16 := Nat.pow_le_pow_right (by decide) hc
  unfold pv
  have e : (256 : Nat) ^ 16 + 256 ^ 16 < 2 ^ 130 := by decide
  omega

theorem limbs_piece {c : List Nat} (h : ∀ x ∈ c, x < 256) (hc : c.length ≤ 16) : limbsL (pieceL (nats c)) = nats (digs 67108864 5 (pv c)) := by
  rw [piece_nat hc, limbs_nat (piece_lt h), piece_val, Nat.mod_eq_of_lt (pv_lt h hc)]

/-! ### the sum -/

theorem addL_eq (a0 a1 a2 a3 a4 : Int) (p : List Int) : addL [a0, a1, a2, a3, a4] p = [IntKind.u64.wrap (a0 + p.getD 0 0), IntKind.u64.wrap (a1 + p.getD 1 0), IntKind.u64.wrap (a2 + p.getD 2 0), IntKind.u64.wrap (a3 + p.getD 3 0), IntKind.u64.wrap (a4 + p.getD 4 0)] := by kernel_rfl

theorem add_nat {a0 a1 a2 a3 a4 : Nat} (ha : Sml a0 a1 a2 a3 a4) (X : Nat) (hX : X < 2 ^ 130) :
    ∃ b0 b1 b2 b3 b4 : Nat, addL (nats [a0, a1, a2, a3, a4]) (nats (digs 67108864 5 X)) = nats [b0, b1, b2, b3, b4] ∧ Lim 268435456 b0 b1 b2 b3 b4 ∧ val5 b0 b1 b2 b3 b4 = val5 a0 a1 a2 a3 a4 + X := by
  obtain ⟨h0, h1, h2, h3, h4⟩ := ha
  have hv := digs_val 67108864 5 X
  rw [Nat.mod_eq_of_lt hX] at hv
  have e : digs 67108864 5 X = [X % 67108864, X / 67108864 % 67108864, X / 67108864 / 67108864 % 67108864, X / 67108864 / 67108864 / 67108864 % 67108864, X / 67108864 / 67108864 / 67108864 / 67108864 % 67108864] := rfl
  rw [e] at hv ⊢
  have m0 := Nat.mod_lt X (show 67108864 > 0 by decide)
  have m1 := Nat.mod_lt (X / 67108864) (show 67108864 > 0 by decide)
  have m2 := Nat.mod_lt (X / 67108864 / 67108864) (show 67108864 > 0 by decide)
  have m3 := Nat.mod_lt (X / 67108864 / 67108864 / 67108864) (show 67108864 > 0 by decide)
  have m4 := Nat.mod_lt (X / 67108864 / 67108864 / 67108864 / 67108864) (show 67108864 > 0 by decide)
  rw [val5_eq] at hv
  generalize X % 67108864 = x0 at *
  generalize X / 67108864 % 67108864 = x1 at *
  generalize X / 67108864 / 67108864 % 67108864 = x2 at *
  generalize X / 67108864 / 67108864 / 67108864 % 67108864 = x3 at *
  generalize X / 67108864 / 67108864 / 67108864 / 67108864 % 67108864 = x4 at *
  clear e
  refine ⟨a0 + x0, a1 + x1, a2 + x2, a3 + x3, a4 + x4, ?_, ⟨by omega, by omega, by omega, by omega, by omega⟩, by rw [← hv]; unfold val5; omega⟩
  have := addL_eq a0 a1 a2 a3 a4 (nats [x0, x1, x2, x3, x4])
  refine this.trans ?_
  show [IntKind.u64.wrap ((a0 + x0 : Nat) : Int), IntKind.u64.wrap ((a1 + x1 : Nat) : Int), IntKind.u64.wrap ((a2 + x2 : Nat) : Int), IntKind.u64.wrap ((a3 + x3 : Nat) : Int), IntKind.u64.wrap ((a4 + x4 : Nat) : Int)] = _
  rw [w64 (by omega), w64 (by omega), w64 (by omega), w64 (by omega), w64 (by omega)]
  rfl

/-! ### the polynomial -/

/-- Horner, piece by piece -/
def polyGo (R : Nat) (l : List Nat) : Nat → Nat → Nat → Nat
  | 0, _, acc => acc
  | m + 1, i, acc => polyGo R l m (i + 16) ((acc + pv ((l.drop i).take 16)) * R)

theorem mod_of {a b q p : Nat} (h : a + q * p = b) : a % p = b % p := by rw [← h, Nat.add_mul_mod_self_right]

theorem polyGo_mod (p R : Nat) (l : List Nat) : ∀ (m i a b : Nat), a % p = b % p → polyGo R l m i a % p = polyGo R l m i b % p
  | 0, _, _, _, h => h
  | m + 1, i, a, b, h => by
    refine polyGo_mod p R l m (i + 16) _ _ ?_
    have e : (a + pv ((l.drop i).take 16)) % p = (b + pv ((l.drop i).take 16)) % p := by rw [Nat.add_mod, h, ← Nat.add_mod]
    rw [Nat.mul_mod, e, ← Nat.mul_mod]

theorem macGo_nat {l : List Nat} (hl : ∀ x ∈ l, x < 256) {r0 r1 r2 r3 r4 : Nat} (hr : Lim 134217728 r0 r1 r2 r3 r4) :
    ∀ (m i : Nat) (a0 a1 a2 a3 a4 : Nat), Sml a0 a1 a2 a3 a4 → ∃ b0 b1 b2 b3 b4 : Nat, macGo (nats [r0, r1, r2, r3, r4]) (nats l) m i (nats [a0, a1, a2, a3, a4]) = nats [b0, b1, b2, b3, b4] ∧ Sml b0 b1 b2 b3 b4 ∧
      val5 b0 b1 b2 b3 b4 % p1305 = polyGo (val5 r0 r1 r2 r3 r4) l m i (val5 a0 a1 a2 a3 a4) % p1305
  | 0, i, a0, a1, a2, a3, a4, h => ⟨a0, a1, a2, a3, a4, rfl, h, rfl⟩
  | m + 1, i, a0, a1, a2, a3, a4, h => by
    have hc : ((l.drop i).take 16).length ≤ 16 := List.length_take_le _ _
    have hb : ∀ x ∈ (l.drop i).take 16, x < 256 := fun x hx => hl x (List.mem_of_mem_drop (List.mem_of_mem_take hx))
    obtain ⟨c0, c1, c2, c3, c4, e1, l1, v1⟩ := add_nat h (pv ((l.drop i).take 16)) (pv_lt hb hc)
    obtain ⟨d0, d1, d2, d3, d4, q, e2, l2, v2⟩ := times_nat l1 hr
    obtain ⟨b0, b1, b2, b3, b4, e3, l3, v3⟩ := macGo_nat hl hr m (i + 16) d0 d1 d2 d3 d4 l2
    refine ⟨b0, b1, b2, b3, b4, ?_, l3, ?_⟩
    · rw [macGo, nats_drop, nats_take, limbs_piece hb hc, e1, e2, e3]
    · rw [v3, polyGo]
      refine polyGo_mod _ _ _ _ _ _ _ ?_
      rw [mod_of v2, v1]

/-! ### the key -/

def setAndN (x : List Nat) (i m : Nat) : List Nat := x.set i (x.getD i 0 &&& m)
def clampN (x : List Nat) : List Nat := setAndN (setAndN (setAndN (setAndN (setAndN (setAndN (setAndN x 3 15) 7 15) 11 15) 15 15) 4 252) 8 252) 12 252

theorem setAnd_nat {x : List Nat} (h : ∀ y ∈ x, y < 256) {i m : Nat} (hm : m < 256) : setAnd (nats x) i (m : Int) = nats (setAndN x i m) ∧ ∀ y ∈ setAndN x i m, y < 256 := by
  have hb := nats_bound h (by decide) i
  refine ⟨?_, ?_⟩
  · unfold setAnd setAndN
    rw [nats_getD, andN (k := .u8) rfl hb hm, nats_set]
  · intro y hy
    rcases List.mem_or_eq_of_mem_set hy with hy | e
    · exact h y hy
    · subst e; exact Nat.lt_of_le_of_lt Nat.and_le_left hb

theorem clamp_nat {x : List Nat} (h : ∀ y ∈ x, y < 256) : clampB (clampA (nats x)) = nats (clampN x) ∧ ∀ y ∈ clampN x, y < 256 := by
  unfold clampB clampA clampN
  obtain ⟨e1, h1⟩ := setAnd_nat h (i := 3) (m := 15) (by decide)
  obtain ⟨e2, h2⟩ := setAnd_nat h1 (i := 7) (m := 15) (by decide)
  obtain ⟨e3, h3⟩ := setAnd_nat h2 (i := 11) (m := 15) (by decide)
  obtain ⟨e4, h4⟩ := setAnd_nat h3 (i := 15) (m := 15) (by decide)
  obtain ⟨e5, h5⟩ := setAnd_nat h4 (i := 4) (m := 252) (by decide)
  obtain ⟨e6, h6⟩ := setAnd_nat h5 (i := 8) (m := 252) (by decide)
  obtain ⟨e7, h7⟩ := setAnd_nat h6 (i := 12) (m := 252) (by decide)
  refine ⟨?_, h7⟩
  rw [show (15 : Int) = ((15 : Nat) : Int) from rfl, show (252 : Int) = ((252 : Nat) : Int) from rfl, e1, e2, e3, e4, e5, e6, e7]

/-- the number of the key's first half -/
def rOf (key : List Nat) : Nat := valB 256 (clampN (key.take 16 ++ [0])) % 2 ^ 130

theorem half_nat {key : List Nat} (h : ∀ y ∈ key, y < 256) (hk : key.length = 32) : halfL (nats key) = nats (digs 67108864 5 (rOf key)) := by
  unfold halfL
  have e : Go.Eng.splice (List.replicate 17 0) (plusO .z 1 none) (List.take (mulE (min (rowLen 1 (Go.Eng.sub (nats key) (plusO .z 1 none) (mulE (subN (hiNat (some 16) 32) none) 1))) (subN (hiNat none 17) none)) 1) (Go.Eng.sub (nats key) (plusO .z 1 none) (mulE (subN (hiNat (some 16) 32) none) 1))) = nats (key.take 16 ++ [0]) := by
    have l16 : (key.take 16).length = 16 := by rw [List.length_take]; omega
    have s : Go.Eng.sub (nats key) (plusO .z 1 none) (mulE (subN (hiNat (some 16) 32) none) 1) = nats (key.take 16) := by rw [← nats_take]; rfl
    rw [s, rowLen_one, nats_length, l16]
    show splice (List.replicate 17 0) .z ((nats (key.take 16)).take 16) = _
    rw [List.take_of_length_le (by rw [nats_length]; omega)]
    unfold splice
    rw [nats_length, l16, nats_append]
    rfl
  rw [e]
  have h0 : ∀ y ∈ key.take 16 ++ [0], y < 256 := by
    intro y hy
    rcases List.mem_append.1 hy with hy | hy
    · exact h y (List.mem_of_mem_take hy)
    · simp at hy; omega
  obtain ⟨e1, h1⟩ := clamp_nat h0
  rw [e1, limbs_nat h1]
  rfl

/-! ### the tag -/

def macN (key l : List Nat) : List Nat := digs 256 16 (polyGo (rOf key) l ((l.length + 15) / 16) 0 0 % p1305 + valB 256 (key.drop 16))

theorem mac_nat {key l : List Nat} (h : ∀ y ∈ key, y < 256) (hk : key.length = 32) (hl : ∀ x ∈ l, x < 256) : macL (nats key) (nats l) = nats (macN key l) := by
  unfold macL
  rw [half_nat h hk, nats_length]
  have hR : rOf key < 2 ^ 130 := Nat.mod_lt _ (by decide)
  have hv := digs_val 67108864 5 (rOf key)
  rw [Nat.mod_eq_of_lt hR] at hv
  have hd : ∀ x ∈ digs 67108864 5 (rOf key), x < 67108864 := digs_lt (by decide)
  obtain ⟨r0, r1, r2, r3, r4, er⟩ : ∃ r0 r1 r2 r3 r4, digs 67108864 5 (rOf key) = [r0, r1, r2, r3, r4] := ⟨_, _, _, _, _, rfl⟩
  rw [er] at hv hd ⊢
  rw [val5_eq] at hv
  have hr : Lim 134217728 r0 r1 r2 r3 r4 := by
    simp only [List.mem_cons, List.not_mem_nil, or_false, forall_eq_or_imp, forall_eq] at hd
    obtain ⟨d0, d1, d2, d3, d4⟩ := hd
    exact ⟨by omega, by omega, by omega, by omega, by omega⟩
  obtain ⟨b0, b1, b2, b3, b4, e, hs, v⟩ := macGo_nat hl hr ((l.length + 15) / 16) 0 0 0 0 0 0 ⟨by decide, by decide, by decide, by decide, by decide⟩
  rw [hv, show val5 0 0 0 0 0 = 0 from rfl] at v
  rw [show (List.replicate 5 (0 : Int)) = nats [0, 0, 0, 0, 0] from rfl, e, whole_nat hs.1 hs.2.1 hs.2.2.1 hs.2.2.2.1 hs.2.2.2.2, v, digL_eq]
  have := digGo_nat (X := polyGo (rOf key) l ((l.length + 15) / 16) 0 0 % p1305) h 16 0 0 (by decide) (by decide)
  rw [Nat.mul_zero, Nat.pow_zero, Nat.div_one, Nat.add_zero, Nat.add_zero] at this
  exact this
end Go.Proofs.Ytiaddnmloonhgaa

/- What rime/rimeref12.Stream comes to. MADE BY PROGRAM (wip/tools/mkfn.py, EngGen.lean). -/
namespace Go.Proofs.Ytiaddnmloonhgaa
open Go Go.Eng
set_option maxRecDepth 100000
set_option linter.unusedVariables false

def f17_2_sh : Shp := { n := 71, lo := 4, slots := [(1, .one (.int IntKind.u32)), (3, .one (.fix (At.own 3))), (4, .one (.fix (At.ptr 4 0 Off.z 32))), (6, .one (.fix (At.ptr 6 0 Off.z 12))), (11, .one (.fix (At.own 1000011))), (12, .one (.int IntKind.i64)), (13, .one (.fix (At.ptr 13 0 Off.z 64))), (14, .one (.int IntKind.i64))], items := [(1000011, .row IntKind.u8 1), (3, .view IntKind.u8 1), (4, .obj [.ints IntKind.u8 32]), (6, .obj [.ints IntKind.u8 12]), (13, .obj [.ints IntKind.u8 64])] }
def f17_2_ex1 : Shp := { n := 71, lo := 4, slots := [(54, .one (.bool)), (1, .one (.int IntKind.u32)), (3, .one (.fix (At.own 3))), (4, .one (.fix (At.ptr 4 0 Off.z 32))), (6, .one (.fix (At.ptr 6 0 Off.z 12))), (11, .one (.fix (At.own 1000011))), (12, .one (.int IntKind.i64)), (13, .one (.fix (At.ptr 13 0 Off.z 64))), (14, .one (.int IntKind.i64))], items := [(1000011, .row IntKind.u8 1), (3, .view IntKind.u8 1), (4, .obj [.ints IntKind.u8 32]), (6, .obj [.ints IntKind.u8 12]), (13, .obj [.ints IntKind.u8 64])] }
noncomputable def f17_2_st {R : Type} (N : Nat) (self : Int → Int → Int → List Int → List Int → List Int → List Int → List Int → Option R) (k1 : Bool → Int → Int → Int → List Int → List Int → List Int → List Int → List Int → Option R) (x1 : Int) (x2 : Int) (x3 : Int) (x4 : List Int) (x5 : List Int) (x6 : List Int) (x7 : List Int) (x8 : List Int) : Option R :=
 let v0 : Int := IntKind.i64.wrap (x2 + 64);
bif Decidable.decide (x3 < v0) then
 let v1 : Bool := bif Bool.true then Decidable.decide (x3 < nI (rowLen 1 x5)) else Bool.false;
 bif v1 then
 bif Decidable.decide (0 ≤ x3) && Decidable.decide (x3 < nI (rowLen 1 x5)) then
 let v2 : Int := IntKind.i64.wrap (x3 - x2);
 bif Decidable.decide (0 ≤ v2) && Decidable.decide (v2 < 64) then
 let v3 : Int := xorI IntKind.u8 (x5.getD (mulE x3.toNat 1) 0) (x8.getD (mulE v2.toNat 1) 0);
 let v4 : List Int := (zerosOf (1 * 1)).set 0 v3;
 bif ((2 * (rowLen 1 x4 + rowLen 1 v4) + 192) * 1).ble big48 && (rowLen 1 x4 + rowLen 1 v4).ble big48 then
 let v5 : Int := IntKind.i64.wrap (x3 + 1);
 let v6 : List Int := x4 ++ v4;
 self x1 x2 v5 v6 x5 x6 x7 x8
 else Option.none
 else Option.none
 else Option.none
 else k1 v1 x1 x2 x3 x4 x5 x6 x7 x8
else k1 Bool.false x1 x2 x3 x4 x5 x6 x7 x8
noncomputable def f17_2_lp {R : Type} (N : Nat) (k1 : Bool → Int → Int → Int → List Int → List Int → List Int → List Int → List Int → Option R) : Nat → Int → Int → Int → List Int → List Int → List Int → List Int → List Int → Option R
 | 0, _, _, _, _, _, _, _, _ => none
 | n + 1, x1, x2, x3, x4, x5, x6, x7, x8 => f17_2_st N (f17_2_lp N k1 n) k1 x1 x2 x3 x4 x5 x6 x7 x8
noncomputable def f17_2_F (N : Nat) : (R : Type) → List Leaf → (X → AS → Option R) → Option R := fun _ ls K => match ls with
 | [.i x1, .i x2, .i x3, .l x4, .l x5, .l x6, .l x7, .l x8] => f17_2_lp N (fun y1 y2 y3 y4 y5 y6 y7 y8 y9 => K (X.normal) (fill f17_2_ex1 [.b y1, .i y2, .i y3, .i y4, .l y5, .l y6, .l y7, .l y8, .l y9])) N x1 x2 x3 x4 x5 x6 x7 x8
 | _ => none
def f17_0_sh : Shp := { n := 71, lo := 4, slots := [(1, .one (.int IntKind.u32)), (3, .one (.fix (At.own 3))), (4, .one (.fix (At.ptr 4 0 Off.z 32))), (6, .one (.fix (At.ptr 6 0 Off.z 12))), (11, .one (.fix (At.own 1000011))), (12, .one (.int IntKind.i64))], items := [(1000011, .row IntKind.u8 1), (3, .view IntKind.u8 1), (4, .obj [.ints IntKind.u8 32]), (6, .obj [.ints IntKind.u8 12])] }
def f17_0_ex1 : Shp := { n := 71, lo := 4, slots := [(33, .one (.bool)), (1, .one (.int IntKind.u32)), (3, .one (.fix (At.own 3))), (4, .one (.fix (At.ptr 4 0 Off.z 32))), (6, .one (.fix (At.ptr 6 0 Off.z 12))), (11, .one (.fix (At.own 1000011))), (12, .one (.int IntKind.i64))], items := [(1000011, .row IntKind.u8 1), (3, .view IntKind.u8 1), (4, .obj [.ints IntKind.u8 32]), (6, .obj [.ints IntKind.u8 12])] }
noncomputable def f17_0_st {R : Type} (N : Nat) (self : Int → Int → List Int → List Int → List Int → List Int → Option R) (k1 : Bool → Int → Int → List Int → List Int → List Int → List Int → Option R) (x1 : Int) (x2 : Int) (x3 : List Int) (x4 : List Int) (x5 : List Int) (x6 : List Int) : Option R :=
 bif Decidable.decide (x2 < nI (rowLen 1 x4)) then
 bif okN 32 x5 && okN 12 x6 then
 let v0 : Int := IntKind.i64.wrap (x2.tdiv 64);
 let v1 : Int := IntKind.u32.wrap v0;
 let v2 : Int := IntKind.u32.wrap (x1 + v1);
 f17_2_lp N
 (fun w3_1 w3_2 w3_3 w3_4 w3_5 w3_6 w3_7 w3_8 w3_9 =>
 let v4 : Int := IntKind.i64.wrap (w3_3 + 64);
 self w3_2 v4 w3_5 w3_6 w3_7 w3_8)
 N x1 x2 x2 x3 x4 x5 x6 (blockL x5 v2 x6)
 else Option.none
else k1 (Decidable.decide (x2 < nI (rowLen 1 x4))) x1 x2 x3 x4 x5 x6
noncomputable def f17_0_lp {R : Type} (N : Nat) (k1 : Bool → Int → Int → List Int → List Int → List Int → List Int → Option R) : Nat → Int → Int → List Int → List Int → List Int → List Int → Option R
 | 0, _, _, _, _, _, _ => none
 | n + 1, x1, x2, x3, x4, x5, x6 => f17_0_st N (f17_0_lp N k1 n) k1 x1 x2 x3 x4 x5 x6
noncomputable def f17_0_F (N : Nat) : (R : Type) → List Leaf → (X → AS → Option R) → Option R := fun _ ls K => match ls with
 | [.i x1, .i x2, .l x3, .l x4, .l x5, .l x6] => f17_0_lp N (fun y1 y2 y3 y4 y5 y6 y7 => K (X.normal) (fill f17_0_ex1 [.b y1, .i y2, .i y3, .l y4, .l y5, .l y6, .l y7])) N x1 x2 x3 x4 x5 x6
 | _ => none
noncomputable def f17_raw {R : Type} (N : Nat) (key : List Int) (ctr : Int) (nonce : List Int) (b : List Int) (k : List DV → Option R) : Option R :=
 let v0 : Int := IntKind.i64.wrap (nI (rowLen 1 b) + 63);
let v1 : Int := IntKind.u64.wrap v0;
let v2 : Int := IntKind.u64.wrap (v1.tdiv 64);
bif Decidable.decide (v2 > 0) then
 let v3 : Int := IntKind.u64.wrap ctr;
 let v4 : Int := IntKind.u64.wrap (v3 + v2);
 let v5 : Int := IntKind.u64.wrap (v4 - 1);
 let v6 : Bool := bif Bool.true then Decidable.decide (v5 > 4294967295) else Bool.false;
 bif v6 then k [DV.lst IntKind.u8 1 [], DV.v (SV.one (At.int IntKind.i64 122))] else f17_0_lp N (fun w7_1 w7_2 w7_3 w7_4 w7_5 w7_6 w7_7 => k [DV.lst IntKind.u8 1 w7_4, DV.v (SV.one (At.int IntKind.i64 0))]) N ctr 0 [] b key nonce
else f17_0_lp N (fun w8_1 w8_2 w8_3 w8_4 w8_5 w8_6 w8_7 => k [DV.lst IntKind.u8 1 w8_4, DV.v (SV.one (At.int IntKind.i64 0))]) N ctr 0 [] b key nonce


noncomputable def E17 (N : Nat) : Env := { Θ := Th, Γ := Q17, K := K17, ν := N17, fuel := 0, lp := [(0, mkL N17_0 f17_0_sh (f17_0_F N)), (2, mkL N17_2 f17_2_sh (f17_2_F N))] }

theorem f17_2_st_eq {R : Type} (N : Nat) (K : X → AS → Option R) (n : Nat) (x1 : Int) (x2 : Int) (x3 : Int) (x4 : List Int) (x5 : List Int) (x6 : List Int) (x7 : List Int) (x8 : List Int) : roundsOf (E17 N) N17_2 2 B17_2 K (n + 1) (fill f17_2_sh [.i x1, .i x2, .i x3, .l x4, .l x5, .l x6, .l x7, .l x8]) = f17_2_st N (fun x1 x2 x3 x4 x5 x6 x7 x8 => roundsOf (E17 N) N17_2 2 B17_2 K n (fill f17_2_sh [.i x1, .i x2, .i x3, .l x4, .l x5, .l x6, .l x7, .l x8])) (fun y1 y2 y3 y4 y5 y6 y7 y8 y9 => K (X.normal) (fill f17_2_ex1 [.b y1, .i y2, .i y3, .i y4, .l y5, .l y6, .l y7, .l y8, .l y9])) x1 x2 x3 x4 x5 x6 x7 x8 := by kernel_rfl
theorem f17_2_lp_eq {R : Type} (N : Nat) (K : X → AS → Option R) : ∀ (n : Nat) (x1 : Int) (x2 : Int) (x3 : Int) (x4 : List Int) (x5 : List Int) (x6 : List Int) (x7 : List Int) (x8 : List Int), roundsOf (E17 N) N17_2 2 B17_2 K n (fill f17_2_sh [.i x1, .i x2, .i x3, .l x4, .l x5, .l x6, .l x7, .l x8]) = f17_2_lp N (fun y1 y2 y3 y4 y5 y6 y7 y8 y9 => K (X.normal) (fill f17_2_ex1 [.b y1, .i y2, .i y3, .i y4, .l y5, .l y6, .l y7, .l y8, .l y9])) n x1 x2 x3 x4 x5 x6 x7 x8
  | 0, _, _, _, _, _, _, _, _ => rfl
  | n + 1, x1, x2, x3, x4, x5, x6, x7, x8 => by
    rw [f17_2_st_eq, f17_2_lp, show (fun x1 x2 x3 x4 x5 x6 x7 x8 => roundsOf (E17 N) N17_2 2 B17_2 K n (fill f17_2_sh [.i x1, .i x2, .i x3, .l x4, .l x5, .l x6, .l x7, .l x8])) = f17_2_lp N (fun y1 y2 y3 y4 y5 y6 y7 y8 y9 => K (X.normal) (fill f17_2_ex1 [.b y1, .i y2, .i y3, .i y4, .l y5, .l y6, .l y7, .l y8, .l y9])) n from by funext x1 x2 x3 x4 x5 x6 x7 x8; exact f17_2_lp_eq N K n x1 x2 x3 x4 x5 x6 x7 x8]
theorem f17_2_ok (N : Nat) (hlp : LoopsOk Try.prog (E17 N).lp B17_2) (hΓ : CtxOk Try.prog (E17 N).Γ) : LoopOk Try.prog (mkL N17_2 f17_2_sh (f17_2_F N)) 2 B17_2 := by
  refine loopOk_of (E := E17 N) thOk hΓ mixed hlp ?_
  intro R ls K r h
  unfold f17_2_F at h
  split at h
  · exact ⟨N, by rw [f17_2_lp_eq]; exact h⟩
  · cases h
theorem f17_0_st_eq {R : Type} (N : Nat) (K : X → AS → Option R) (n : Nat) (x1 : Int) (x2 : Int) (x3 : List Int) (x4 : List Int) (x5 : List Int) (x6 : List Int) : roundsOf (E17 N) N17_0 0 B17_0 K (n + 1) (fill f17_0_sh [.i x1, .i x2, .l x3, .l x4, .l x5, .l x6]) = f17_0_st N (fun x1 x2 x3 x4 x5 x6 => roundsOf (E17 N) N17_0 0 B17_0 K n (fill f17_0_sh [.i x1, .i x2, .l x3, .l x4, .l x5, .l x6])) (fun y1 y2 y3 y4 y5 y6 y7 => K (X.normal) (fill f17_0_ex1 [.b y1, .i y2, .i y3, .l y4, .l y5, .l y6, .l y7])) x1 x2 x3 x4 x5 x6 := by kernel_rfl
theorem f17_0_lp_eq {R : Type} (N : Nat) (K : X → AS → Option R) : ∀ (n : Nat) (x1 : Int) (x2 : Int) (x3 : List Int) (x4 : List Int) (x5 : List Int) (x6 : List Int), roundsOf (E17 N) N17_0 0 B17_0 K n (fill f17_0_sh [.i x1, .i x2, .l x3, .l x4, .l x5, .l x6]) = f17_0_lp N (fun y1 y2 y3 y4 y5 y6 y7 => K (X.normal) (fill f17_0_ex1 [.b y1, .i y2, .i y3, .l y4, .l y5, .l y6, .l y7])) n x1 x2 x3 x4 x5 x6
  | 0, _, _, _, _, _, _ => rfl
  | n + 1, x1, x2, x3, x4, x5, x6 => by
    rw [f17_0_st_eq, f17_0_lp, show (fun x1 x2 x3 x4 x5 x6 => roundsOf (E17 N) N17_0 0 B17_0 K n (fill f17_0_sh [.i x1, .i x2, .l x3, .l x4, .l x5, .l x6])) = f17_0_lp N (fun y1 y2 y3 y4 y5 y6 y7 => K (X.normal) (fill f17_0_ex1 [.b y1, .i y2, .i y3, .l y4, .l y5, .l y6, .l y7])) n from by funext x1 x2 x3 x4 x5 x6; exact f17_0_lp_eq N K n x1 x2 x3 x4 x5 x6]
theorem f17_0_ok (N : Nat) (hlp : LoopsOk Try.prog (E17 N).lp B17_0) (hΓ : CtxOk Try.prog (E17 N).Γ) : LoopOk Try.prog (mkL N17_0 f17_0_sh (f17_0_F N)) 0 B17_0 := by
  refine loopOk_of (E := E17 N) thOk hΓ mixed hlp ?_
  intro R ls K r h
  unfold f17_0_F at h
  split at h
  · exact ⟨N, by rw [f17_0_lp_eq]; exact h⟩
  · cases h

theorem lok17_2 (N : Nat) (hΓ : CtxOk Try.prog Q17) : LoopOk Try.prog (mkL N17_2 f17_2_sh (f17_2_F N)) 2 B17_2 := f17_2_ok N (loopsOk_of (l := []) (by kernel_rfl) trivial) hΓ
theorem lok17_0 (N : Nat) (hΓ : CtxOk Try.prog Q17) : LoopOk Try.prog (mkL N17_0 f17_0_sh (f17_0_F N)) 0 B17_0 := f17_0_ok N (loopsOk_of (l := [(2, B17_2)]) (by kernel_rfl) (allOk_cons (L := mkL N17_2 f17_2_sh (f17_2_F N)) rfl (lok17_2 N hΓ) trivial)) hΓ
theorem f17_contract (N : Nat) (hΓ : CtxOk Try.prog Q17) : Contract Try.prog 17 { sig := S17, impl := fun _ ds k => call (E17 N) S17 71 B17 R17 ds k } :=
  call_contract (E := E17 N) thOk hΓ mixed ok17.look ok17.body ok17.n ok17.rv ok17.name rfl (by decide) (loopsOk_of (l := [(0, B17_0), (2, B17_2)]) (by kernel_rfl) (allOk_cons (L := mkL N17_0 f17_0_sh (f17_0_F N)) rfl (lok17_0 N hΓ) (allOk_cons (L := mkL N17_2 f17_2_sh (f17_2_F N)) rfl (lok17_2 N hΓ) trivial)))
theorem f17_raw_eq {R : Type} (N : Nat) (key : List Int) (ctr : Int) (nonce : List Int) (b : List Int) (k : List DV → Option R) : call (E17 N) S17 71 B17 R17 [.v (.one (.ints .u8 32 key)), .v (.one (.int .u32 ctr)), .v (.one (.ints .u8 12 nonce)), .lst .u8 1 b] k = f17_raw N key ctr nonce b k := by kernel_rfl
end Go.Proofs.Ytiaddnmloonhgaa

/- The document's stream is the program's. -/
namespace Go.Proofs.Ytiaddnmloonhgaa
open Go Go.Eng
set_option maxRecDepth 100000

theorem maskL_len (f : Nat → Int) (b : List Int) : (maskL f b).length = b.length := by simp [maskL]
theorem maskL_get (f : Nat → Int) (b : List Int) {n : Nat} (h : n < b.length) : (maskL f b)[n]? = some (xorI .u8 (b.getD n 0) (f n)) := by
  unfold maskL
  rw [List.getElem?_mapIdx, List.getD_eq_getElem?_getD, List.getElem?_eq_getElem h]; rfl
theorem maskL_take (f : Nat → Int) (b : List Int) {n : Nat} (h : n < b.length) : (maskL f b).take (n + 1) = (maskL f b).take n ++ [xorI .u8 (b.getD n 0) (f n)] := by
  rw [List.take_add_one, maskL_get f b h]; rfl
theorem one_app {n : Nat} (h : n ≤ 1099511627776) : (((2 * (n + 1) + 192) * 1).ble big48 && (n + 1).ble big48) = true := by
  rw [show ((2 * (n + 1) + 192) * 1).ble big48 = true from Nat.ble_eq_true_of_le (by unfold big48; omega), show (n + 1).ble big48 = true from Nat.ble_eq_true_of_le (by unfold big48; omega)]; rfl

theorem in_loop17 {R : Type} {N : Nat} (k1 : Bool → Int → Int → Int → List Int → List Int → List Int → List Int → List Int → Option R) (x1 : Int) {key nonce b : List Int} {c j E : Nat} (hb : b.length ≤ lim) (hE : E = min (64 * j + 64) b.length) :
    ∀ (m n : Nat), n + m = E → 64 * j ≤ n → ∀ fuel, m < fuel →
      f17_2_lp N k1 fuel x1 ((64 * j : Nat) : Int) (n : Int) ((maskL (maskAt key c nonce) b).take n) b key nonce (blockL key ((c + j : Nat) : Int) nonce) =
        k1 false x1 ((64 * j : Nat) : Int) (E : Int) ((maskL (maskAt key c nonce) b).take E) b key nonce (blockL key ((c + j : Nat) : Int) nonce) := by
  have hb' : b.length ≤ 1099511627776 := hb
  intro m
  induction m with
  | zero =>
    intro n h hj fuel hf
    obtain ⟨f, rfl⟩ : ∃ f, fuel = f + 1 := ⟨fuel - 1, by omega⟩
    have : n = E := by omega
    subst this
    show f17_2_st N (f17_2_lp N k1 f) k1 _ _ _ _ _ _ _ _ = _
    unfold f17_2_st
    have e0 : IntKind.i64.wrap (((64 * j : Nat) : Int) + 64) = ((64 * j + 64 : Nat) : Int) := wrapI (by omega) (by omega)
    dsimp only
    rw [e0]
    by_cases h1 : n < 64 * j + 64
    · rw [decide_eq_true (show (n : Int) < ((64 * j + 64 : Nat) : Int) by omega), cond_true, cond_true]
      rw [decide_eq_false (show ¬ ((n : Int) < nI (rowLen 1 b)) by show ¬ ((n : Int) < (b.length : Int)); omega)]
      rfl
    · rw [decide_eq_false (show ¬ ((n : Int) < ((64 * j + 64 : Nat) : Int)) by omega), cond_false]
  | succ m ih =>
    intro n h hj fuel hf
    obtain ⟨f, rfl⟩ : ∃ f, fuel = f + 1 := ⟨fuel - 1, by omega⟩
    show f17_2_st N (f17_2_lp N k1 f) k1 _ _ _ _ _ _ _ _ = _
    unfold f17_2_st
    have hn : n < b.length := by omega
    have e0 : IntKind.i64.wrap (((64 * j : Nat) : Int) + 64) = ((64 * j + 64 : Nat) : Int) := wrapI (by omega) (by omega)
    have e1 : IntKind.i64.wrap ((n : Int) - ((64 * j : Nat) : Int)) = ((n % 64 : Nat) : Int) := wrapI (by omega) (by omega)
    have e2 : IntKind.i64.wrap ((n : Int) + 1) = ((n + 1 : Nat) : Int) := wrapI (by omega) (by omega)
    dsimp only
    rw [e0, e1, e2, decide_eq_true (show (n : Int) < ((64 * j + 64 : Nat) : Int) by omega), decide_eq_true (show (n : Int) < nI (rowLen 1 b) by show (n : Int) < (b.length : Int); omega), decide_eq_true (show (0 : Int) ≤ (n : Int) by omega), decide_eq_true (show (0 : Int) ≤ ((n % 64 : Nat) : Int) by omega), decide_eq_true (show ((n % 64 : Nat) : Int) < 64 by omega)]
    simp only [Bool.and_self, cond_true, mulE_one, Int.toNat_natCast]
    rw [one_set, show rowLen 1 ((maskL (maskAt key c nonce) b).take n) + rowLen 1 [xorI .u8 (b.getD n 0) ((blockL key ((c + j : Nat) : Int) nonce).getD (n % 64) 0)] = n + 1 from by
      show ((maskL (maskAt key c nonce) b).take n).length + 1 = n + 1
      rw [List.length_take, maskL_len]; omega]
    rw [one_app (by omega), cond_true]
    have hf2 : (blockL key ((c + j : Nat) : Int) nonce).getD (n % 64) 0 = maskAt key c nonce n := by
      unfold maskAt
      rw [show n / 64 = j by omega]
    rw [hf2, ← maskL_take _ _ hn]
    exact ih (n + 1) (by omega) (by omega) f (by omega)

theorem out_loop17 {R : Type} {N : Nat} (k1 : Bool → Int → Int → List Int → List Int → List Int → List Int → Option R) {key nonce b : List Int} {c : Nat} (hb : b.length ≤ lim) (hN : 64 < N) (hk : okN 32 key = true) (hn : okN 12 nonce = true) (hc : c + (b.length + 63) / 64 ≤ 4294967296) :
    ∀ (m j : Nat), b.length ≤ 64 * (j + m) → ∀ fuel, m < fuel → ∃ e : Int, f17_0_lp N k1 fuel (c : Int) ((64 * j : Nat) : Int) ((maskL (maskAt key c nonce) b).take (64 * j)) b key nonce = k1 false (c : Int) e (maskL (maskAt key c nonce) b) b key nonce := by
  have hb' : b.length ≤ 1099511627776 := hb
  have done : ∀ (j fuel : Nat), b.length ≤ 64 * j → 0 < fuel → ∃ e : Int, f17_0_lp N k1 fuel (c : Int) ((64 * j : Nat) : Int) ((maskL (maskAt key c nonce) b).take (64 * j)) b key nonce = k1 false (c : Int) e (maskL (maskAt key c nonce) b) b key nonce := by
    intro j fuel h hf
    obtain ⟨f, rfl⟩ : ∃ f, fuel = f + 1 := ⟨fuel - 1, by omega⟩
    refine ⟨((64 * j : Nat) : Int), ?_⟩
    show f17_0_st N (f17_0_lp N k1 f) k1 _ _ _ _ _ _ = _
    unfold f17_0_st
    rw [decide_eq_false (show ¬ (((64 * j : Nat) : Int) < nI (rowLen 1 b)) by show ¬ (((64 * j : Nat) : Int) < (b.length : Int)); omega), cond_false, List.take_of_length_le (by rw [maskL_len]; omega)]
  intro m
  induction m with
  | zero => intro j h fuel hf; exact done j fuel (by omega) hf
  | succ m ih =>
    intro j h fuel hf
    by_cases hl : b.length ≤ 64 * j
    · exact done j fuel hl (by omega)
    · obtain ⟨f, rfl⟩ : ∃ f, fuel = f + 1 := ⟨fuel - 1, by omega⟩
      obtain ⟨e, he⟩ := ih (j + 1) (by omega) f (by omega)
      refine ⟨e, ?_⟩
      rw [← he]
      show f17_0_st N (f17_0_lp N k1 f) k1 _ _ _ _ _ _ = _
      unfold f17_0_st
      have e0 : IntKind.i64.wrap ((((64 * j : Nat) : Int)).tdiv 64) = ((j : Nat) : Int) := by
        rw [show (((64 * j : Nat) : Int)).tdiv 64 = ((64 * j / 64 : Nat) : Int) from rfl]; exact wrapI (by omega) (by omega)
      have e1 : IntKind.u32.wrap ((j : Nat) : Int) = ((j : Nat) : Int) := w32 (by omega)
      have e2 : IntKind.u32.wrap ((c : Int) + ((j : Nat) : Int)) = ((c + j : Nat) : Int) := by
        rw [show (c : Int) + ((j : Nat) : Int) = ((c + j : Nat) : Int) by omega]; exact w32 (by omega)
      rw [decide_eq_true (show ((64 * j : Nat) : Int) < nI (rowLen 1 b) by show ((64 * j : Nat) : Int) < (b.length : Int); omega), cond_true, hk, hn]
      dsimp only
      rw [e0, e1, e2]
      simp only [Bool.and_self, cond_true]
      refine (in_loop17 (N := N) _ (c : Int) hb (E := min (64 * j + 64) b.length) rfl (min (64 * j + 64) b.length - 64 * j) (64 * j) (by omega) (Nat.le_refl _) N (by omega)).trans ?_
      have e3 : IntKind.i64.wrap (((64 * j : Nat) : Int) + 64) = ((64 * (j + 1) : Nat) : Int) := wrapI (by omega) (by omega)
      rw [e3]
      have e4 : (maskL (maskAt key c nonce) b).take (min (64 * j + 64) b.length) = (maskL (maskAt key c nonce) b).take (64 * (j + 1)) := by
        by_cases h2 : 64 * j + 64 ≤ b.length
        · rw [Nat.min_eq_left h2, show 64 * (j + 1) = 64 * j + 64 by omega]
        · rw [Nat.min_eq_right (by omega), List.take_of_length_le (by rw [maskL_len]; omega), List.take_of_length_le (by rw [maskL_len]; omega)]
      rw [e4]

theorem f17_spec {R : Type} {key nonce b : List Int} {c : Nat} (hb : b.length ≤ lim) (hk : okN 32 key = true) (hn : okN 12 nonce = true) (hc : c < 4294967296) (k : List DV → Option R) :
    f17_raw (b.length + 70) key (c : Int) nonce b k = cond (tooFar c b.length) (k [.lst .u8 1 [], .v (.one (.int .i64 122))]) (k [.lst .u8 1 (streamL key c nonce b), .v (.one (.int .i64 0))]) := by
  have hb' : b.length ≤ 1099511627776 := hb
  unfold f17_raw
  have e0 : IntKind.i64.wrap (nI (rowLen 1 b) + 63) = ((b.length + 63 : Nat) : Int) := wrapI (show ((b.length : Nat) : Int) + 63 = _ by omega) (by omega)
  have e1 : IntKind.u64.wrap ((b.length + 63 : Nat) : Int) = ((b.length + 63 : Nat) : Int) := w64 (by omega)
  have e2 : IntKind.u64.wrap ((((b.length + 63 : Nat) : Int)).tdiv 64) = (((b.length + 63) / 64 : Nat) : Int) := by
    rw [show (((b.length + 63 : Nat) : Int)).tdiv 64 = (((b.length + 63) / 64 : Nat) : Int) from rfl]; exact w64 (by omega)
  have e3 : IntKind.u64.wrap (c : Int) = (c : Int) := w64 (by omega)
  have e4 : IntKind.u64.wrap ((c : Int) + (((b.length + 63) / 64 : Nat) : Int)) = ((c + (b.length + 63) / 64 : Nat) : Int) := by
    rw [show (c : Int) + (((b.length + 63) / 64 : Nat) : Int) = ((c + (b.length + 63) / 64 : Nat) : Int) by omega]; exact w64 (by omega)
  dsimp only
  rw [e0, e1, e2, e3, e4]
  have run : tooFar c b.length = false → f17_0_lp (b.length + 70) (fun w7_1 w7_2 w7_3 w7_4 w7_5 w7_6 w7_7 => k [DV.lst IntKind.u8 1 w7_4, DV.v (SV.one (At.int IntKind.i64 0))]) (b.length + 70) (c : Int) 0 [] b key nonce = k [.lst .u8 1 (streamL key c nonce b), .v (.one (.int .i64 0))] := by
    intro ht
    unfold tooFar at ht
    have ht := of_decide_eq_false ht
    obtain ⟨e, he⟩ := out_loop17 (N := b.length + 70) (fun w7_1 w7_2 w7_3 w7_4 w7_5 w7_6 w7_7 => k [DV.lst IntKind.u8 1 w7_4, DV.v (SV.one (At.int IntKind.i64 0))]) (c := c) hb (by omega) hk hn (by omega) b.length 0 (by omega) (b.length + 70) (by omega)
    exact he
  by_cases h0 : (b.length + 63) / 64 = 0
  · have ht : tooFar c b.length = false := by unfold tooFar; rw [decide_eq_false]; omega
    rw [decide_eq_false (show ¬ ((((b.length + 63) / 64 : Nat) : Int) > 0) by omega), cond_false, ht, cond_false]
    exact run ht
  · rw [decide_eq_true (show (((b.length + 63) / 64 : Nat) : Int) > 0 by omega), cond_true, cond_true]
    have e5 : IntKind.u64.wrap (((c + (b.length + 63) / 64 : Nat) : Int) - 1) = ((c + (b.length + 63) / 64 - 1 : Nat) : Int) := by
      rw [show ((c + (b.length + 63) / 64 : Nat) : Int) - 1 = ((c + (b.length + 63) / 64 - 1 : Nat) : Int) by omega]; exact w64 (by omega)
    rw [e5]
    have e6 : decide (((c + (b.length + 63) / 64 - 1 : Nat) : Int) > 4294967295) = tooFar c b.length := by
      unfold tooFar
      exact decide_eq_decide.2 (by omega)
    rw [e6]
    cases ht : tooFar c b.length with
    | true => rfl
    | false => exact run ht

def I17 : (R : Type) → List DV → (List DV → Option R) → Option R := fun _ ds k => match ds with
  | [.v (.one (.ints .u8 32 key)), .v (.one (.int .u32 ctr)), .v (.one (.ints .u8 12 nonce)), .lst .u8 1 b] =>
    cond ((okN 32 key && okN 12 nonce) && (decide (0 ≤ ctr) && (decide (ctr < 4294967296) && Nat.ble b.length lim)))
      (cond (tooFar ctr.toNat b.length) (k [.lst .u8 1 [], .v (.one (.int .i64 122))]) (k [.lst .u8 1 (streamL key ctr.toNat nonce b), .v (.one (.int .i64 0))])) none
  | _ => none
theorem c17 : Contract Try.prog 17 { sig := S17, impl := I17 } := by
  refine Contract.refine fun R ds k r h => ?_
  unfold I17 at h
  split at h
  · rename_i key ctr nonce b
    refine ⟨_, f17_contract (b.length + 70) Q17_ok, ?_⟩
    cases hc : ((okN 32 key && okN 12 nonce) && (decide (0 ≤ ctr) && (decide (ctr < 4294967296) && Nat.ble b.length lim))) with
    | true =>
      rw [hc] at h
      simp only [Bool.and_eq_true, decide_eq_true_eq] at hc
      obtain ⟨⟨h1, h2⟩, h3, h4, h5⟩ := hc
      obtain ⟨c, rfl⟩ : ∃ c : Nat, ctr = c := ⟨ctr.toNat, by omega⟩
      rw [f17_raw_eq, f17_spec (Nat.le_of_ble_eq_true h5) h1 h2 (by omega)]
      exact h
    | false => rw [hc] at h; cases h
  · exact (Option.some_ne_none _ h.symm).elim
end Go.Proofs.Ytiaddnmloonhgaa

/- The document's tag of bytes is the program's. -/
namespace Go.Proofs.Ytiaddnmloonhgaa
open Go Go.Eng
set_option maxRecDepth 100000
set_option linter.unusedVariables false

/-! the bytes of a number -/
def outM (A : List Int) : List Int := (List.range 16).map fun i => IntKind.u8.wrap (shrI .u32 (A.getD (i / 4) 0) ((8 * (i % 4) : Nat) : Int))
theorem digs_four {a v m : Nat} (ha : a < 4294967296) : digs 256 (m + 4) (a + 4294967296 * v) = a % 256 :: a / 256 % 256 :: a / 65536 % 256 :: a / 16777216 % 256 :: digs 256 m v := by
  simp only [digs]
  rw [show (a + 4294967296 * v) % 256 = a % 256 by omega, show (a + 4294967296 * v) / 256 % 256 = a / 256 % 256 by omega, show (a + 4294967296 * v) / 256 / 256 % 256 = a / 65536 % 256 by omega, show (a + 4294967296 * v) / 256 / 256 / 256 % 256 = a / 16777216 % 256 by omega, show (a + 4294967296 * v) / 256 / 256 / 256 / 256 = v by omega]
theorem byteN {a r : Nat} (hr : r ≤ 24) : IntKind.u8.wrap (shrI .u32 (a : Int) (r : Int)) = ((a / 2 ^ r % 256 : Nat) : Int) := by
  rw [shrN (k := .u32) (m := r) (show r ≤ 32 by omega), wm8]
theorem out_bytes {V : Nat} : outM (nuU V) = nats (digs 256 16 V) := by
  rw [nuU_def]
  have hv := digs_val 4294967296 5 V
  have hl := digs_length 4294967296 5 V
  have hd : ∀ x ∈ digs 4294967296 5 V, x < 4294967296 := digs_lt (by decide)
  generalize digs 4294967296 5 V = D at *
  match D, hl with
  | [a0, a1, a2, a3, a4], _ =>
    have h0 := hd a0 (by simp)
    have h1 := hd a1 (by simp)
    have h2 := hd a2 (by simp)
    have h3 := hd a3 (by simp)
    have e : digs 256 16 V = digs 256 16 (a0 + 4294967296 * (a1 + 4294967296 * (a2 + 4294967296 * (a3 + 4294967296 * a4)))) := by
      have hh : valB 4294967296 [a0, a1, a2, a3, a4] = a0 + 4294967296 * (a1 + 4294967296 * (a2 + 4294967296 * (a3 + 4294967296 * a4))) := by simp [valB]
      rw [hh] at hv
      rw [hv, ← digs_mod 256 16 V, ← digs_mod 256 16 (V % 4294967296 ^ 5)]
      rw [show (4294967296 : Nat) ^ 5 = 256 ^ 16 * 4294967296 from by decide, Nat.mod_mul_right_mod]
    rw [e, show (16 : Nat) = 12 + 4 from rfl, digs_four h0, show (12 : Nat) = 8 + 4 from rfl, digs_four h1, show (8 : Nat) = 4 + 4 from rfl, digs_four h2, show (4 : Nat) = 0 + 4 from rfl, digs_four h3]
    show [IntKind.u8.wrap (shrI .u32 (a0 : Int) ((0 : Nat) : Int)), IntKind.u8.wrap (shrI .u32 (a0 : Int) ((8 : Nat) : Int)), IntKind.u8.wrap (shrI .u32 (a0 : Int) ((16 : Nat) : Int)), IntKind.u8.wrap (shrI .u32 (a0 : Int) ((24 : Nat) : Int)),
      IntKind.u8.wrap (shrI .u32 (a1 : Int) ((0 : Nat) : Int)), IntKind.u8.wrap (shrI .u32 (a1 : Int) ((8 : Nat) : Int)), IntKind.u8.wrap (shrI .u32 (a1 : Int) ((16 : Nat) : Int)), IntKind.u8.wrap (shrI .u32 (a1 : Int) ((24 : Nat) : Int)),
      IntKind.u8.wrap (shrI .u32 (a2 : Int) ((0 : Nat) : Int)), IntKind.u8.wrap (shrI .u32 (a2 : Int) ((8 : Nat) : Int)), IntKind.u8.wrap (shrI .u32 (a2 : Int) ((16 : Nat) : Int)), IntKind.u8.wrap (shrI .u32 (a2 : Int) ((24 : Nat) : Int)),
      IntKind.u8.wrap (shrI .u32 (a3 : Int) ((0 : Nat) : Int)), IntKind.u8.wrap (shrI .u32 (a3 : Int) ((8 : Nat) : Int)), IntKind.u8.wrap (shrI .u32 (a3 : Int) ((16 : Nat) : Int)), IntKind.u8.wrap (shrI .u32 (a3 : Int) ((24 : Nat) : Int))] = _
    simp only [byteN (show 0 ≤ 24 by decide), byteN (show 8 ≤ 24 by decide), byteN (show 16 ≤ 24 by decide), byteN (show 24 ≤ 24 by decide), Nat.pow_zero, Nat.div_one, show (2 : Nat) ^ 8 = 256 from rfl, show (2 : Nat) ^ 16 = 65536 from rfl, p24]
    rfl

/-! the number of the first half -/
theorem setAnd_len (x : List Int) (i : Nat) (m : Int) : (setAnd x i m).length = x.length := by simp [setAnd]
theorem setAnd_take {x : List Int} {i n : Nat} (h : i < n) (m : Int) : (setAnd x i m).take n = setAnd (x.take n) i m := by
  unfold setAnd
  rw [List.take_set]
  congr 1
  rw [List.getD_eq_getElem?_getD, List.getD_eq_getElem?_getD, List.getElem?_take, if_pos h]
theorem setAnd_app {x z : List Int} {i : Nat} (h : i < x.length) (m : Int) : setAnd (x ++ z) i m = setAnd x i m ++ z := by
  unfold setAnd
  rw [List.set_append_left _ _ h]
  congr 2
  rw [List.getD_eq_getElem?_getD, List.getD_eq_getElem?_getD, List.getElem?_append_left h]
theorem clamp_take (x : List Int) : (clampB (clampA x)).take 16 = clampB (clampA (x.take 16)) := by
  unfold clampB clampA
  simp only [setAnd_take (n := 16) (show 3 < 16 by decide), setAnd_take (n := 16) (show 7 < 16 by decide), setAnd_take (n := 16) (show 11 < 16 by decide), setAnd_take (n := 16) (show 15 < 16 by decide), setAnd_take (n := 16) (show 4 < 16 by decide), setAnd_take (n := 16) (show 8 < 16 by decide), setAnd_take (n := 16) (show 12 < 16 by decide)]
theorem clamp_app {x z : List Int} (h : x.length = 16) : clampB (clampA (x ++ z)) = clampB (clampA x) ++ z := by
  unfold clampB clampA
  rw [setAnd_app (by omega), setAnd_app (by simp only [setAnd_len]; omega), setAnd_app (by simp only [setAnd_len]; omega), setAnd_app (by simp only [setAnd_len]; omega), setAnd_app (by simp only [setAnd_len]; omega), setAnd_app (by simp only [setAnd_len]; omega), setAnd_app (by simp only [setAnd_len]; omega)]
theorem clamp_len (x : List Int) : (clampB (clampA x)).length = x.length := by unfold clampB clampA; simp only [setAnd_len]
theorem half_ref {key : List Nat} (h : ∀ y ∈ key, y < 256) (hk : key.length = 32) : ∃ X : List Nat, (clampB (clampA (nats key))).take 16 = nats X ∧ X.length = 16 ∧ (∀ y ∈ X, y < 256) ∧ valB 256 X = rOf key := by
  have l16 : (key.take 16).length = 16 := by rw [List.length_take]; omega
  have h16 : ∀ y ∈ key.take 16, y < 256 := fun y hy => h y (List.mem_of_mem_take hy)
  obtain ⟨e1, e2⟩ := clamp_nat h16
  have hlen : (clampN (key.take 16)).length = 16 := by
    have := congrArg List.length e1
    rw [clamp_len, nats_length, nats_length, l16] at this
    exact this.symm
  refine ⟨clampN (key.take 16), ?_, hlen, e2, ?_⟩
  · rw [clamp_take, nats_take]; exact e1
  · unfold rOf
    have h0 : ∀ y ∈ key.take 16 ++ [0], y < 256 := by
      intro y hy
      rcases List.mem_append.1 hy with hy | hy
      · exact h16 y hy
      · simp at hy; omega
    obtain ⟨f1, f2⟩ := clamp_nat h0
    have : nats (clampN (key.take 16 ++ [0])) = nats (clampN (key.take 16) ++ [0]) := by
      rw [← f1, nats_append, clamp_app (by rw [nats_length]; exact l16), e1, nats_append]
    rw [nats_inj.1 this, valB_append]
    have hlt := valB_lt (b := 256) (by decide) e2
    rw [hlen] at hlt
    have h128 : (256 : Nat) ^ 16 ≤ 2 ^ 130 := by decide
    rw [show valB 256 [0] = 0 from by simp [valB], Nat.mul_zero, Nat.add_zero, Nat.mod_eq_of_lt (Nat.lt_of_lt_of_le hlt h128)]

/-! the pieces -/
theorem f25_loop {R : Type} {N : Nat} (k1 : Bool → Int → List Int → List Int → List Int → List Int → List Int → Option R) (x3 x4 : List Int) {l : List Nat} {r : Nat} (hl : l.length ≤ lim) (hd : ∀ x ∈ l, x < 256) (hr : r < 2 ^ 130) :
    ∀ (m i v : Nat), m = (l.length - i + 15) / 16 → v < p1305 → ∀ fuel, m < fuel → ∃ (e : Int) (v' : Nat), v' < p1305 ∧ v' % p1305 = polyGo r l m i v % p1305 ∧
      f25_4_lp N k1 fuel (i : Int) (nats l) x3 x4 (nuU r) (nuU v) = k1 false e (nats l) x3 x4 (nuU r) (nuU v') := by
  have hp := p1305_lt
  have hp0 : 0 < p1305 := by decide
  have hl' : l.length ≤ 1099511627776 := hl
  intro m
  induction m with
  | zero =>
    intro i v hm hv fuel hf
    obtain ⟨f, rfl⟩ : ∃ f, fuel = f + 1 := ⟨fuel - 1, by omega⟩
    refine ⟨(i : Int), v, hv, rfl, ?_⟩
    show f25_4_st N (f25_4_lp N k1 f) k1 _ _ _ _ _ _ = _
    unfold f25_4_st
    rw [show nI (rowLen 1 (nats l)) = (l.length : Int) from by show (((nats l).length : Nat) : Int) = _; rw [nats_length], decide_eq_false (by omega), cond_false]
  | succ m ih =>
    intro i v hm hv fuel hf
    obtain ⟨f, rfl⟩ : ∃ f, fuel = f + 1 := ⟨fuel - 1, by omega⟩
    have hil : i < l.length := by omega
    -- the piece
    have hpl : ((l.drop i).take 16).length ≤ 16 := List.length_take_le _ _
    have hpd : ∀ x ∈ (l.drop i).take 16 ++ [1], x < 256 := by
      intro x hx
      rcases List.mem_append.1 hx with hx | hx
      · exact hd x (List.mem_of_mem_drop (List.mem_of_mem_take hx))
      · simp at hx; omega
    have hpv : valB 256 ((l.drop i).take 16 ++ [1]) = pv ((l.drop i).take 16) := by
      unfold pv
      rw [valB_append]; simp [valB]
    have hpvl : pv ((l.drop i).take 16) < 256 ^ 17 := by
      rw [← hpv]
      refine Nat.lt_of_lt_of_le (valB_lt (b := 256) (by decide) hpd) (Nat.pow_le_pow_right (by decide) ?_)
      rw [List.length_append]; simp only [List.length_singleton]; omega
    obtain ⟨e, v', g1, g2, g3⟩ := ih (i + 16) ((v + pv ((l.drop i).take 16)) * r % p1305) (by omega) (Nat.mod_lt _ hp0) f (by omega)
    refine ⟨e, v', g1, ?_, ?_⟩
    · rw [g2, polyGo]
      exact polyGo_mod p1305 r l m (i + 16) _ _ (Nat.mod_mod _ _)
    · rw [← g3]
      show f25_4_st N (f25_4_lp N k1 f) k1 _ _ _ _ _ _ = _
      unfold f25_4_st
      have hlen : rowLen 1 (nats l) = l.length := nats_length l
      have e0 : IntKind.i64.wrap ((i : Int) + 16) = ((i + 16 : Nat) : Int) := by
        rw [show (i : Int) + 16 = ((i + 16 : Nat) : Int) by omega]; exact wi64 (by omega)
      have hmin : minI ((i + 16 : Nat) : Int) (nI l.length) = ((min (i + 16) l.length : Nat) : Int) := by
        unfold minI
        by_cases h2 : l.length < i + 16
        · rw [if_pos (show nI l.length < ((i + 16 : Nat) : Int) by show (l.length : Int) < _; omega), Nat.min_eq_right (by omega)]
        · rw [if_neg (show ¬ (nI l.length < ((i + 16 : Nat) : Int)) by show ¬ ((l.length : Int) < _); omega), Nat.min_eq_left (by omega)]
      dsimp only
      rw [hlen, decide_eq_true (show (i : Int) < nI l.length by show (i : Int) < (l.length : Int); omega), cond_true, e0, hmin, hiOk_nat (by omega), cond_true]
      rw [show loOk (some (i : Int)) (hiInt (some ((min (i + 16) l.length : Nat) : Int)) l.length) = true from loOk_nat (by show (i : Int) ≤ ((min (i + 16) l.length : Nat) : Int); omega), cond_true, sub_nat]
      have hpiece : (List.drop i (nats l)).take (min (i + 16) l.length - i) = nats ((l.drop i).take 16) := by
        rw [nats_drop, nats_take]
        congr 1
        by_cases h2 : l.length < i + 16
        · rw [Nat.min_eq_right (by omega), List.take_of_length_le (by rw [List.length_drop]; omega), List.take_of_length_le (by rw [List.length_drop]; omega)]
        · rw [Nat.min_eq_left (by omega), show i + 16 - i = 16 by omega]
      rw [hpiece, one_set, show nats ((l.drop i).take 16) ++ [1] = nats ((l.drop i).take 16 ++ [1]) from by rw [nats_append]; rfl]
      rw [show rowLen 1 (nats ((l.drop i).take 16)) = ((l.drop i).take 16).length from nats_length _, show rowLen 1 ([1] : List Int) = 1 from rfl]
      rw [show (((l.drop i).take 16).length * 1).ble big48 = true from Nat.ble_eq_true_of_le (by unfold big48; omega), show (((l.drop i).take 16).length).ble big48 = true from Nat.ble_eq_true_of_le (by unfold big48; omega), Bool.and_self, cond_true, one_app (by omega), cond_true]
      have hok : okY 20 (nats ((l.drop i).take 16 ++ [1])) = true := okY_mk (by rw [nats_length, List.length_append]; simp only [List.length_singleton]; omega) (by
        intro b hb
        unfold nats at hb
        obtain ⟨n, hn, rfl⟩ := List.mem_map.mp hb
        have := hpd n hn
        exact ⟨Int.natCast_nonneg n, by show (n : Int) < 256; omega⟩)
      have h17 : (256 : Nat) ^ 17 = 87112285931760246646623899502532662132736 := by decide
      rw [h17] at hpvl
      rw [hok, cond_true, numY_nats, hpv, okU_nuU, okU_nuU, numU_nuU (v := v) (Nat.lt_trans hv (Nat.lt_of_lt_of_le hp (by decide))), numU_nuU (v := pv ((l.drop i).take 16)) (Nat.lt_of_lt_of_le hpvl (by decide)), Bool.true_and, Bool.true_and, decide_eq_true (show v + pv ((l.drop i).take 16) < 1461501637330902918203684832716283019655932542976 by omega), cond_true]
      have h160 : (2 : Nat) ^ 160 = 1461501637330902918203684832716283019655932542976 := by decide
      rw [okU_nuU, okU_nuU, Bool.and_self, cond_true, numU_nuU (v := v + pv ((l.drop i).take 16)) (by rw [h160]; omega), numU_nuU (v := r) (Nat.lt_of_lt_of_le hr (by decide))]
end Go.Proofs.Ytiaddnmloonhgaa

/- The document's tag: its contract. -/
namespace Go.Proofs.Ytiaddnmloonhgaa
open Go Go.Eng
set_option maxRecDepth 100000
set_option linter.unusedVariables false

theorem f25_spec {R : Type} {key l : List Nat} (hk : ∀ y ∈ key, y < 256) (hkl : key.length = 32) (hl : l.length ≤ lim) (hd : ∀ x ∈ l, x < 256) (k : List DV → Option R) :
    f25_raw (l.length + 2) (nats key) (nats l) k = k [.v (.one (.ints .u8 16 (macL (nats key) (nats l))))] := by
  have hp := p1305_lt
  obtain ⟨X, x1, x2, x3, x4⟩ := half_ref hk hkl
  unfold f25_raw
  dsimp only
  have hv : Go.Eng.sub (clampB (clampA (nats key))) (plusO Off.z 1 Option.none) (mulE (Go.Eng.subN (hiNat (Option.some 16) 32) Option.none) 1) = nats X := x1
  have hcl : List.set (List.set (List.set (List.set (List.set (List.set (List.set (nats key) 3 (andI .u8 ((nats key).getD 3 0) 15)) 7 (andI .u8 ((setAnd (nats key) 3 15).getD 7 0) 15)) 11 (andI .u8 ((setAnd (setAnd (nats key) 3 15) 7 15).getD 11 0) 15)) 15 (andI .u8 ((setAnd (setAnd (setAnd (nats key) 3 15) 7 15) 11 15).getD 15 0) 15)) 4 (andI .u8 ((clampA (nats key)).getD 4 0) 252)) 8 (andI .u8 ((setAnd (clampA (nats key)) 4 252).getD 8 0) 252)) 12 (andI .u8 ((setAnd (setAnd (clampA (nats key)) 4 252) 8 252).getD 12 0) 252) = clampB (clampA (nats key)) := rfl
  have goal : ∀ z : List Int, z = nats X → (bif okY 20 z then f25_4_lp (l.length + 2)
      (fun w20_1 w20_2 w20_3 w20_4 w20_5 w20_6 w20_7 =>
        bif okY 20 (Go.Eng.sub w20_4 (plusO Off.z 1 (Option.some 16)) (mulE (Go.Eng.subN (hiNat Option.none 32) (Option.some 16)) 1)) then
        bif okU w20_7 && (okU (nuU (numY (Go.Eng.sub w20_4 (plusO Off.z 1 (Option.some 16)) (mulE (Go.Eng.subN (hiNat Option.none 32) (Option.some 16)) 1)))) && Decidable.decide (numU w20_7 + numU (nuU (numY (Go.Eng.sub w20_4 (plusO Off.z 1 (Option.some 16)) (mulE (Go.Eng.subN (hiNat Option.none 32) (Option.some 16)) 1)))) < 1461501637330902918203684832716283019655932542976)) then
        k [.v (.one (.ints .u8 16 (outM (nuU (numU w20_7 + numU (nuU (numY (Go.Eng.sub w20_4 (plusO Off.z 1 (Option.some 16)) (mulE (Go.Eng.subN (hiNat Option.none 32) (Option.some 16)) 1)))))))))]
        else none else none) (l.length + 2) 0 (nats l) (nats key) (List.replicate 16 0) (nuU (numY z)) (List.replicate 5 0) else none) = k [.v (.one (.ints .u8 16 (macL (nats key) (nats l))))] := by
    rintro z rfl
    have hr : rOf key < 2 ^ 130 := Nat.mod_lt _ (by decide)
    have hX : okY 20 (nats X) = true := okY_mk (by rw [nats_length]; omega) (by
      intro b hb
      unfold nats at hb
      obtain ⟨n, hn, rfl⟩ := List.mem_map.mp hb
      have := x3 n hn
      exact ⟨Int.natCast_nonneg n, by show (n : Int) < 256; omega⟩)
    rw [hX, cond_true, numY_nats, x4, show List.replicate 5 0 = nuU 0 from by rw [nuU_def]; decide]
    obtain ⟨e, v', g1, g2, g3⟩ := f25_loop (N := l.length + 2) (fun w20_1 w20_2 w20_3 w20_4 w20_5 w20_6 w20_7 =>
        bif okY 20 (Go.Eng.sub w20_4 (plusO Off.z 1 (Option.some 16)) (mulE (Go.Eng.subN (hiNat Option.none 32) (Option.some 16)) 1)) then
        bif okU w20_7 && (okU (nuU (numY (Go.Eng.sub w20_4 (plusO Off.z 1 (Option.some 16)) (mulE (Go.Eng.subN (hiNat Option.none 32) (Option.some 16)) 1)))) && Decidable.decide (numU w20_7 + numU (nuU (numY (Go.Eng.sub w20_4 (plusO Off.z 1 (Option.some 16)) (mulE (Go.Eng.subN (hiNat Option.none 32) (Option.some 16)) 1)))) < 1461501637330902918203684832716283019655932542976)) then
        k [.v (.one (.ints .u8 16 (outM (nuU (numU w20_7 + numU (nuU (numY (Go.Eng.sub w20_4 (plusO Off.z 1 (Option.some 16)) (mulE (Go.Eng.subN (hiNat Option.none 32) (Option.some 16)) 1)))))))))]
        else none else none) (nats key) (List.replicate 16 0) hl hd hr ((l.length + 15) / 16) 0 0 (by omega) (by decide) (l.length + 2) (by omega)
    refine Eq.trans g3 ?_
    have hs : Go.Eng.sub (nats key) (plusO Off.z 1 (Option.some 16)) (mulE (Go.Eng.subN (hiNat Option.none 32) (Option.some 16)) 1) = nats (key.drop 16) := by
      rw [← nats_drop]
      show List.take 16 (List.drop 16 (nats key)) = _
      exact List.take_of_length_le (by rw [List.length_drop, nats_length]; omega)
    have hsd : ∀ x ∈ key.drop 16, x < 256 := fun x hx => hk x (List.mem_of_mem_drop hx)
    have hS : okY 20 (nats (key.drop 16)) = true := okY_mk (by rw [nats_length, List.length_drop]; omega) (by
      intro b hb
      unfold nats at hb
      obtain ⟨n, hn, rfl⟩ := List.mem_map.mp hb
      have := hsd n hn
      exact ⟨Int.natCast_nonneg n, by show (n : Int) < 256; omega⟩)
    have hSl : valB 256 (key.drop 16) < 340282366920938463463374607431768211456 := by
      have := valB_lt (b := 256) (by decide) hsd
      rw [List.length_drop, hkl] at this
      exact Nat.lt_of_lt_of_le this (by decide)
    have h160 : (2 : Nat) ^ 160 = 1461501637330902918203684832716283019655932542976 := by decide
    rw [hs, hS, cond_true, numY_nats, okU_nuU, okU_nuU, numU_nuU (v := v') (by rw [h160]; omega), numU_nuU (v := valB 256 (key.drop 16)) (by rw [h160]; omega), Bool.true_and, Bool.true_and, decide_eq_true (show v' + valB 256 (key.drop 16) < 1461501637330902918203684832716283019655932542976 by omega), cond_true]
    rw [out_bytes, mac_nat hk hkl hd]
    unfold macN
    rw [← g2, Nat.mod_eq_of_lt g1]
  refine Eq.trans ?_ (goal (clampB (clampA (nats key)) |>.take 16) x1)
  kernel_rfl
end Go.Proofs.Ytiaddnmloonhgaa

/- What the engine is told of this seat. MADE BY PROGRAM (wip/tools/facts.py). -/
namespace Go.Proofs.Ytiaddnmloonhgaa
open Go Go.Eng

set_option maxRecDepth 100000

def Th2 : Types := [(3, ⟨.int .i64, 1, 8, [.int .i64 0]⟩),
  (4, ⟨.bool, 1, 1, [.bool false]⟩),
  (5, ⟨.int .u8, 1, 1, [.int .u8 0]⟩),
  (23, ⟨.array 32 5, 32, 32, [.ints .u8 32 (List.replicate 32 0)]⟩),
  (24, ⟨.int .u32, 1, 4, [.int .u32 0]⟩),
  (26, ⟨.array 12 5, 12, 12, [.ints .u8 12 (List.replicate 12 0)]⟩),
  (27, ⟨.slice 5, 1, 24, [.nils]⟩),
  (28, ⟨.slice 27, 1, 24, [.nils]⟩),
  (29, ⟨.slice 105, 1, 24, [.nils]⟩),
  (30, ⟨.slice 100, 1, 24, [.nils]⟩),
  (31, ⟨.slice 108, 1, 24, [.nils]⟩),
  (32, ⟨.slice 110, 1, 24, [.nils]⟩),
  (33, ⟨.slice 112, 1, 24, [.nils]⟩),
  (34, ⟨.slice 114, 1, 24, [.nils]⟩),
  (35, ⟨.slice 116, 1, 24, [.nils]⟩),
  (36, ⟨.slice 118, 1, 24, [.nils]⟩),
  (37, ⟨.slice 120, 1, 24, [.nils]⟩),
  (38, ⟨.slice 122, 1, 24, [.nils]⟩),
  (39, ⟨.slice 124, 1, 24, [.nils]⟩),
  (40, ⟨.slice 126, 1, 24, [.nils]⟩),
  (41, ⟨.slice 128, 1, 24, [.nils]⟩),
  (42, ⟨.slice 130, 1, 24, [.nils]⟩),
  (44, ⟨.struct [(28, 0), (28, 1), (29, 2), (29, 3), (30, 4), (30, 5), (31, 6), (31, 7), (32, 8), (32, 9), (33, 10), (33, 11), (34, 12), (34, 13), (35, 14), (35, 15), (36, 16), (36, 17), (37, 18), (37, 19), (38, 20), (38, 21), (39, 22), (39, 23), (40, 24), (40, 25), (41, 26), (41, 27), (42, 28), (42, 29)], 30, 720, [.nils, .nils, .nils, .nils, .nils, .nils, .nils, .nils, .nils, .nils, .nils, .nils, .nils, .nils, .nils, .nils, .nils, .nils, .nils, .nils, .nils, .nils, .nils, .nils, .nils, .nils, .nils, .nils, .nils, .nils]⟩),
  (46, ⟨.int .i64, 1, 8, [.int .i64 0]⟩),
  (51, ⟨.array 64 5, 64, 64, [.ints .u8 64 (List.replicate 64 0)]⟩),
  (58, ⟨.array 16 5, 16, 16, [.ints .u8 16 (List.replicate 16 0)]⟩),
  (66, ⟨.struct [(23, 0), (26, 32), (27, 44), (27, 45), (27, 46), (3, 47), (5, 48)], 49, 136, [.ints .u8 32 (List.replicate 32 0), .ints .u8 12 (List.replicate 12 0), .nils, .nils, .nils, .int .i64 0, .int .u8 0]⟩),
  (70, ⟨.int .u64, 1, 8, [.int .u64 0]⟩),
  (100, ⟨.slice 24, 1, 24, [.nils]⟩),
  (105, ⟨.slice 3, 1, 24, [.nils]⟩),
  (108, ⟨.slice 147, 1, 24, [.nils]⟩),
  (110, ⟨.slice 148, 1, 24, [.nils]⟩),
  (112, ⟨.slice 149, 1, 24, [.nils]⟩),
  (114, ⟨.slice 150, 1, 24, [.nils]⟩),
  (116, ⟨.slice 151, 1, 24, [.nils]⟩),
  (118, ⟨.slice 153, 1, 24, [.nils]⟩),
  (120, ⟨.slice 154, 1, 24, [.nils]⟩),
  (122, ⟨.slice 155, 1, 24, [.nils]⟩),
  (124, ⟨.slice 157, 1, 24, [.nils]⟩),
  (126, ⟨.slice 159, 1, 24, [.nils]⟩),
  (128, ⟨.slice 161, 1, 24, [.nils]⟩),
  (130, ⟨.slice 163, 1, 24, [.nils]⟩),
  (147, ⟨.array 32 5, 32, 32, [.ints .u8 32 (List.replicate 32 0)]⟩),
  (148, ⟨.array 32 5, 32, 32, [.ints .u8 32 (List.replicate 32 0)]⟩),
  (149, ⟨.array 32 5, 32, 32, [.ints .u8 32 (List.replicate 32 0)]⟩),
  (150, ⟨.array 32 5, 32, 32, [.ints .u8 32 (List.replicate 32 0)]⟩),
  (151, ⟨.array 32 5, 32, 32, [.ints .u8 32 (List.replicate 32 0)]⟩),
  (153, ⟨.struct [(3, 0), (148, 1)], 33, 40, [.int .i64 0, .ints .u8 32 (List.replicate 32 0)]⟩),
  (154, ⟨.struct [(3, 0), (148, 1)], 33, 40, [.int .i64 0, .ints .u8 32 (List.replicate 32 0)]⟩),
  (155, ⟨.struct [(3, 0), (148, 1)], 33, 40, [.int .i64 0, .ints .u8 32 (List.replicate 32 0)]⟩),
  (157, ⟨.struct [(3, 0), (149, 1), (149, 33)], 65, 72, [.int .i64 0, .ints .u8 32 (List.replicate 32 0), .ints .u8 32 (List.replicate 32 0)]⟩),
  (159, ⟨.struct [(3, 0), (149, 1)], 33, 40, [.int .i64 0, .ints .u8 32 (List.replicate 32 0)]⟩),
  (161, ⟨.struct [(3, 0), (3, 1), (148, 2)], 34, 48, [.int .i64 0, .int .i64 0, .ints .u8 32 (List.replicate 32 0)]⟩),
  (163, ⟨.struct [(3, 0), (3, 1)], 2, 16, [.int .i64 0, .int .i64 0]⟩)]

theorem thOk2 : TypesOk Try.prog Th2 := tysB_ok (by kernel_rfl)

/-- what hangs on a pointer that was handed in -/
def hiL : List Nat := [0, hiN, hiN + 1, hiN + 2, hiN + 3, hiN + 4, hiN + 5, hiN + 6, hiN + 7, hiN + 8, hiN + 9, hiN + 10, hiN + 11]

/-- (*rime/rimeplain.Given).Bytes -/
noncomputable def B15 : Code := (Try.f15.body.getD .skip)
def S15 : Sig := { ps := [.mt, .view .u8 1], rs := [.fresh .u8 1] }
def R15 : List ResultVar := [.tmp 4]
def K15 : List Nat := [0, 1, 4, 5, 6, 7, 15, 26]
def N15_2 : Nrm := { slots := [.tmp 0, .tmp 1, .tmp 5, .tmp 7], items := [1, 11] }
def N15_0 : Nrm := { slots := [.tmp 0, .tmp 1, .tmp 5, .tmp 6], items := [1, 11] }
noncomputable def B15_2 : Code := bodyIn 2 (loopsIn B15)
noncomputable def B15_0 : Code := bodyIn 0 (loopsIn B15)
def N15 : Nrms := [(2, N15_2), (0, N15_0)]
theorem ok15 : FnOk Try.prog 15 Try.f15 61 B15 R15 := ⟨by kernel_rfl, by kernel_rfl, by kernel_rfl, by kernel_rfl, by decide +kernel⟩

/-- (*rime/rimeplain.Given).Intact -/
noncomputable def B22 : Code := (Try.f22.body.getD .skip)
def S22 : Sig := { ps := [.mt], rs := [.val] }
def R22 : List ResultVar := [.tmp 2]
def K22 : List Nat := [0, 2, 3, 4, 5, 6, 7, 8, 9, 10, 11, 12, 13, 14, 15, 16, 17, 24, 42, 49, 67, 74, 92, 99, 117, 124, 142, 149, 167, 174, 192, 199, 217, 224, 242, 249, 267, 274, 292, 299, 317, 324, 342, 349, 367, 374, 392]
def N22_28 : Nrm := { slots := [.tmp 0, .tmp 17], items := hiL }
def N22_26 : Nrm := { slots := [.tmp 0, .tmp 16], items := hiL }
def N22_24 : Nrm := { slots := [.tmp 0, .tmp 15], items := hiL }
def N22_22 : Nrm := { slots := [.tmp 0, .tmp 14], items := hiL }
def N22_20 : Nrm := { slots := [.tmp 0, .tmp 13], items := hiL }
def N22_18 : Nrm := { slots := [.tmp 0, .tmp 12], items := hiL }
def N22_16 : Nrm := { slots := [.tmp 0, .tmp 11], items := hiL }
def N22_14 : Nrm := { slots := [.tmp 0, .tmp 10], items := hiL }
def N22_12 : Nrm := { slots := [.tmp 0, .tmp 9], items := hiL }
def N22_10 : Nrm := { slots := [.tmp 0, .tmp 8], items := hiL }
def N22_8 : Nrm := { slots := [.tmp 0, .tmp 7], items := hiL }
def N22_6 : Nrm := { slots := [.tmp 0, .tmp 6], items := hiL }
def N22_4 : Nrm := { slots := [.tmp 0, .tmp 5], items := hiL }
def N22_2 : Nrm := { slots := [.tmp 0, .tmp 4], items := hiL }
def N22_0 : Nrm := { slots := [.tmp 0, .tmp 3], items := hiL }
noncomputable def B22_28 : Code := bodyIn 28 (loopsIn B22)
noncomputable def B22_26 : Code := bodyIn 26 (loopsIn B22)
noncomputable def B22_24 : Code := bodyIn 24 (loopsIn B22)
noncomputable def B22_22 : Code := bodyIn 22 (loopsIn B22)
noncomputable def B22_20 : Code := bodyIn 20 (loopsIn B22)
noncomputable def B22_18 : Code := bodyIn 18 (loopsIn B22)
noncomputable def B22_16 : Code := bodyIn 16 (loopsIn B22)
noncomputable def B22_14 : Code := bodyIn 14 (loopsIn B22)
noncomputable def B22_12 : Code := bodyIn 12 (loopsIn B22)
noncomputable def B22_10 : Code := bodyIn 10 (loopsIn B22)
noncomputable def B22_8 : Code := bodyIn 8 (loopsIn B22)
noncomputable def B22_6 : Code := bodyIn 6 (loopsIn B22)
noncomputable def B22_4 : Code := bodyIn 4 (loopsIn B22)
noncomputable def B22_2 : Code := bodyIn 2 (loopsIn B22)
noncomputable def B22_0 : Code := bodyIn 0 (loopsIn B22)
def N22 : Nrms := [(28, N22_28), (26, N22_26), (24, N22_24), (22, N22_22), (20, N22_20), (18, N22_18), (16, N22_16), (14, N22_14), (12, N22_12), (10, N22_10), (8, N22_8), (6, N22_6), (4, N22_4), (2, N22_2), (0, N22_0)]
theorem ok22 : FnOk Try.prog 22 Try.f22 393 B22 R22 := ⟨by kernel_rfl, by kernel_rfl, by kernel_rfl, by kernel_rfl, by decide +kernel⟩

/-- rime/rimeplain.markBytes -/
noncomputable def B41 : Code := (Try.f41.body.getD .skip)
def S41 : Sig := { ps := [.val, .val], rs := [.val] }
def R41 : List ResultVar := [.tmp 4]
def K41 : List Nat := [0, 1, 4]
def N41 : Nrms := []
theorem ok41 : FnOk Try.prog 41 Try.f41 12 B41 R41 := ⟨by kernel_rfl, by kernel_rfl, by kernel_rfl, by kernel_rfl, by decide +kernel⟩

/-- rime/rimelaw12.SealBlocks -/
noncomputable def B3 : Code := (Try.f3.body.getD .skip)
def S3 : Sig := { ps := [.val, .val, .val, .view .u8 1], rs := [.val] }
def R3 : List ResultVar := [.tmp 8]
def K3 : List Nat := [1, 3, 4, 6, 8, 9, 10, 11, 12, 13, 14]
def N3 : Nrms := []
theorem ok3 : FnOk Try.prog 3 Try.f3 59 B3 R3 := ⟨by kernel_rfl, by kernel_rfl, by kernel_rfl, by kernel_rfl, by decide +kernel⟩

/-- rime/rimelaw12.SealMacs -/
noncomputable def B4 : Code := (Try.f4.body.getD .skip)
def S4 : Sig := { ps := [.val, .view .u8 1], rs := [.val] }
def R4 : List ResultVar := [.tmp 4]
def K4 : List Nat := [1, 2, 4, 5]
def N4 : Nrms := []
theorem ok4 : FnOk Try.prog 4 Try.f4 20 B4 R4 := ⟨by kernel_rfl, by kernel_rfl, by kernel_rfl, by kernel_rfl, by decide +kernel⟩

/-- rime/rimelaw12.SealSeals -/
noncomputable def B5 : Code := (Try.f5.body.getD .skip)
def S5 : Sig := { ps := [.val, .val, .view .u8 1, .view .u8 1], rs := [.val] }
def R5 : List ResultVar := [.tmp 8]
def K5 : List Nat := [2, 3, 4, 5, 8, 9, 10, 11, 12, 13, 14, 15]
def N5 : Nrms := []
theorem ok5 : FnOk Try.prog 5 Try.f5 64 B5 R5 := ⟨by kernel_rfl, by kernel_rfl, by kernel_rfl, by kernel_rfl, by decide +kernel⟩

/-- rime/rimelaw12.SealUnboxes -/
noncomputable def B11 : Code := (Try.f11.body.getD .skip)
def S11 : Sig := { ps := [.val, .view .u8 1, .view .u8 1], rs := [.val] }
def R11 : List ResultVar := [.tmp 6]
def K11 : List Nat := [1, 2, 3, 6, 7, 8, 9, 10, 11, 12, 13]
def N11 : Nrms := []
theorem ok11 : FnOk Try.prog 11 Try.f11 52 B11 R11 := ⟨by kernel_rfl, by kernel_rfl, by kernel_rfl, by kernel_rfl, by decide +kernel⟩

end Go.Proofs.Ytiaddnmloonhgaa

/- What rime/rimeplain.markBytes comes to. MADE BY PROGRAM (wip/tools/mkfn.py, EngGen.lean). -/
namespace Go.Proofs.Ytiaddnmloonhgaa
open Go Go.Eng
set_option maxRecDepth 100000
set_option linter.unusedVariables false

noncomputable def f41_raw {R : Type} (N : Nat) (i : Int) (j : Int) (k : List DV → Option R) : Option R :=
 let v0 : Int := IntKind.i64.wrap (i * 31);
let v1 : Int := IntKind.i64.wrap (j * 7);
let v2 : Int := IntKind.i64.wrap (v0 + v1);
let v3 : Int := IntKind.i64.wrap (v2 + 5);
let v4 : Int := IntKind.u8.wrap v3;
k [DV.v (SV.one (At.int IntKind.u8 v4))]


noncomputable def E41 (N : Nat) : Env := { Θ := Th, Γ := [], K := K41, ν := N41, fuel := 0, lp := [] }


theorem f41_contract (N : Nat) (hΓ : CtxOk Try.prog []) : Contract Try.prog 41 { sig := S41, impl := fun _ ds k => call (E41 N) S41 12 B41 R41 ds k } :=
  call_contract (E := E41 N) thOk hΓ mixed ok41.look ok41.body ok41.n ok41.rv ok41.name rfl (by decide) (loopsOk_of (l := []) (by kernel_rfl) trivial)
theorem f41_raw_eq {R : Type} (N : Nat) (i : Int) (j : Int) (k : List DV → Option R) : call (E41 N) S41 12 B41 R41 [.v (.one (.int .i64 i)), .v (.one (.int .i64 j))] k = f41_raw N i j k := by kernel_rfl
end Go.Proofs.Ytiaddnmloonhgaa

/- Marks; contexts for Given. -/
namespace Go.Proofs.Ytiaddnmloonhgaa
open Go Go.Eng
set_option maxRecDepth 100000
noncomputable def I41 : (R : Type) → List DV → (List DV → Option R) → Option R := fun _ ds k => match ds with
  | [.v (.one (.int .i64 i)), .v (.one (.int .i64 j))] => k [.v (.one (.int .u8 (markI i j)))]
  | _ => none
theorem c41 : Contract Try.prog 41 { sig := S41, impl := I41 } := by
  refine Contract.refine fun R ds k r h => ⟨_, f41_contract 0 ctxOk_nil, ?_⟩
  unfold I41 at h
  split at h
  · rw [f41_raw_eq]; exact h
  · cases h
noncomputable def QB0 : Ctx := (41, { sig := S41, impl := I41 }) :: (30, { sig := S30, impl := I30 }) :: (20, { sig := S20, impl := I20 }) :: []
theorem QB0_ok : CtxOk Try.prog QB0 := ctxOk_cons ok41 rfl c41 (ctxOk_cons ok30 rfl c30 (ctxOk_cons ok20 rfl c20 ctxOk_nil))
end Go.Proofs.Ytiaddnmloonhgaa

/- What (*rime/rimeplain.Given).Bytes comes to. MADE BY PROGRAM (wip/tools/mkfn.py, EngGen.lean). -/
namespace Go.Proofs.Ytiaddnmloonhgaa
open Go Go.Eng
set_option maxRecDepth 100000
set_option linter.unusedVariables false

def f15_0_sh : Shp := { n := 61, lo := 2, slots := [(0, .one (.fix (At.ptr 0 0 Off.z 30))), (1, .one (.fix (At.own 1))), (5, .one (.fix (At.own 11))), (6, .one (.int IntKind.i64))], items := [(1, .view IntKind.u8 1), (11, .row IntKind.u8 1)] }
def f15_0_ex1 : Shp := { n := 61, lo := 2, slots := [(15, .one (.bool)), (0, .one (.fix (At.ptr 0 0 Off.z 30))), (1, .one (.fix (At.own 1))), (5, .one (.fix (At.own 11))), (6, .one (.int IntKind.i64))], items := [(1, .view IntKind.u8 1), (11, .row IntKind.u8 1)] }
noncomputable def f15_0_st {R : Type} (N : Nat) (self : Int → List Int → List Int → Option R) (k1 : Bool → Int → List Int → List Int → Option R) (x1 : Int) (x2 : List Int) (x3 : List Int) : Option R :=
 bif Decidable.decide (x1 < nI (rowLen 1 x3)) then
 bif Decidable.decide (0 ≤ x1) && Decidable.decide (x1 < nI (rowLen 1 x3)) then
 let v0 : Int := IntKind.i64.wrap (x1 + 1);
 let v1 : List Int := x3.set (mulE x1.toNat 1) (markI 987 x1);
 self v0 x2 v1
 else Option.none
else k1 (Decidable.decide (x1 < nI (rowLen 1 x3))) x1 x2 x3
noncomputable def f15_0_lp {R : Type} (N : Nat) (k1 : Bool → Int → List Int → List Int → Option R) : Nat → Int → List Int → List Int → Option R
 | 0, _, _, _ => none
 | n + 1, x1, x2, x3 => f15_0_st N (f15_0_lp N k1 n) k1 x1 x2 x3
noncomputable def f15_0_F (N : Nat) : (R : Type) → List Leaf → (X → AS → Option R) → Option R := fun _ ls K => match ls with
 | [.i x1, .l x2, .l x3] => f15_0_lp N (fun y1 y2 y3 y4 => K (X.normal) (fill f15_0_ex1 [.b y1, .i y2, .l y3, .l y4])) N x1 x2 x3
 | _ => none
def f15_2_sh : Shp := { n := 61, lo := 2, slots := [(0, .one (.fix (At.ptr 0 0 Off.z 30))), (1, .one (.fix (At.own 1))), (5, .one (.fix (At.own 11))), (7, .one (.int IntKind.i64))], items := [(1, .view IntKind.u8 1), (11, .row IntKind.u8 1)] }
def f15_2_ex1 : Shp := { n := 61, lo := 2, slots := [(26, .one (.bool)), (0, .one (.fix (At.ptr 0 0 Off.z 30))), (1, .one (.fix (At.own 1))), (5, .one (.fix (At.own 11))), (7, .one (.int IntKind.i64))], items := [(1, .view IntKind.u8 1), (11, .row IntKind.u8 1)] }
noncomputable def f15_2_st {R : Type} (N : Nat) (self : Int → List Int → List Int → Option R) (k1 : Bool → Int → List Int → List Int → Option R) (x1 : Int) (x2 : List Int) (x3 : List Int) : Option R :=
 bif Decidable.decide (x1 < nI (rowLen 1 x2)) then
 bif Decidable.decide (0 ≤ x1) && Decidable.decide (x1 < nI (rowLen 1 x2)) then
 bif Decidable.decide (0 ≤ x1) && Decidable.decide (x1 < nI (rowLen 1 x3)) then
 let v0 : Int := IntKind.i64.wrap (x1 + 1);
 let v1 : List Int := x3.set (mulE x1.toNat 1) (x2.getD (mulE x1.toNat 1) 0);
 self v0 x2 v1
 else Option.none
 else Option.none
else k1 (Decidable.decide (x1 < nI (rowLen 1 x2))) x1 x2 x3
noncomputable def f15_2_lp {R : Type} (N : Nat) (k1 : Bool → Int → List Int → List Int → Option R) : Nat → Int → List Int → List Int → Option R
 | 0, _, _, _ => none
 | n + 1, x1, x2, x3 => f15_2_st N (f15_2_lp N k1 n) k1 x1 x2 x3
noncomputable def f15_2_F (N : Nat) : (R : Type) → List Leaf → (X → AS → Option R) → Option R := fun _ ls K => match ls with
 | [.i x1, .l x2, .l x3] => f15_2_lp N (fun y1 y2 y3 y4 => K (X.normal) (fill f15_2_ex1 [.b y1, .i y2, .l y3, .l y4])) N x1 x2 x3
 | _ => none
noncomputable def f15_raw {R : Type} (N : Nat) (x : List Int) (k : List DV → Option R) : Option R :=
 let v0 : Int := IntKind.i64.wrap (nI (rowLen 1 x) + 3);
bif Decidable.decide (0 ≤ v0) && (Decidable.decide (v0 ≤ v0) && (Decidable.decide (v0 ≤ 281474976710656) && Decidable.decide (v0 * 1 ≤ 281474976710656))) then f15_0_lp N (fun w1_1 w1_2 w1_3 w1_4 => f15_2_lp N (fun w2_1 w2_2 w2_3 w2_4 => Option.none) N 0 w1_3 w1_4) N 0 x (zerosOf (mulE v0.toNat 1)) else Option.none


noncomputable def E15 (N : Nat) : Env := { Θ := Th2, Γ := QB0, K := K15, ν := N15, fuel := 0, lp := [(0, mkL N15_0 f15_0_sh (f15_0_F N)), (2, mkL N15_2 f15_2_sh (f15_2_F N))] }

theorem f15_0_st_eq {R : Type} (N : Nat) (K : X → AS → Option R) (n : Nat) (x1 : Int) (x2 : List Int) (x3 : List Int) : roundsOf (E15 N) N15_0 0 B15_0 K (n + 1) (fill f15_0_sh [.i x1, .l x2, .l x3]) = f15_0_st N (fun x1 x2 x3 => roundsOf (E15 N) N15_0 0 B15_0 K n (fill f15_0_sh [.i x1, .l x2, .l x3])) (fun y1 y2 y3 y4 => K (X.normal) (fill f15_0_ex1 [.b y1, .i y2, .l y3, .l y4])) x1 x2 x3 := by kernel_rfl
theorem f15_0_lp_eq {R : Type} (N : Nat) (K : X → AS → Option R) : ∀ (n : Nat) (x1 : Int) (x2 : List Int) (x3 : List Int), roundsOf (E15 N) N15_0 0 B15_0 K n (fill f15_0_sh [.i x1, .l x2, .l x3]) = f15_0_lp N (fun y1 y2 y3 y4 => K (X.normal) (fill f15_0_ex1 [.b y1, .i y2, .l y3, .l y4])) n x1 x2 x3
  | 0, _, _, _ => rfl
  | n + 1, x1, x2, x3 => by
    rw [f15_0_st_eq, f15_0_lp, show (fun x1 x2 x3 => roundsOf (E15 N) N15_0 0 B15_0 K n (fill f15_0_sh [.i x1, .l x2, .l x3])) = f15_0_lp N (fun y1 y2 y3 y4 => K (X.normal) (fill f15_0_ex1 [.b y1, .i y2, .l y3, .l y4])) n from by funext x1 x2 x3; exact f15_0_lp_eq N K n x1 x2 x3]
theorem f15_0_ok (N : Nat) (hlp : LoopsOk Try.prog (E15 N).lp B15_0) (hΓ : CtxOk Try.prog (E15 N).Γ) : LoopOk Try.prog (mkL N15_0 f15_0_sh (f15_0_F N)) 0 B15_0 := by
  refine loopOk_of (E := E15 N) thOk2 hΓ mixed hlp ?_
  intro R ls K r h
  unfold f15_0_F at h
  split at h
  · exact ⟨N, by rw [f15_0_lp_eq]; exact h⟩
  · cases h
theorem f15_2_st_eq {R : Type} (N : Nat) (K : X → AS → Option R) (n : Nat) (x1 : Int) (x2 : List Int) (x3 : List Int) : roundsOf (E15 N) N15_2 2 B15_2 K (n + 1) (fill f15_2_sh [.i x1, .l x2, .l x3]) = f15_2_st N (fun x1 x2 x3 => roundsOf (E15 N) N15_2 2 B15_2 K n (fill f15_2_sh [.i x1, .l x2, .l x3])) (fun y1 y2 y3 y4 => K (X.normal) (fill f15_2_ex1 [.b y1, .i y2, .l y3, .l y4])) x1 x2 x3 := by kernel_rfl
theorem f15_2_lp_eq {R : Type} (N : Nat) (K : X → AS → Option R) : ∀ (n : Nat) (x1 : Int) (x2 : List Int) (x3 : List Int), roundsOf (E15 N) N15_2 2 B15_2 K n (fill f15_2_sh [.i x1, .l x2, .l x3]) = f15_2_lp N (fun y1 y2 y3 y4 => K (X.normal) (fill f15_2_ex1 [.b y1, .i y2, .l y3, .l y4])) n x1 x2 x3
  | 0, _, _, _ => rfl
  | n + 1, x1, x2, x3 => by
    rw [f15_2_st_eq, f15_2_lp, show (fun x1 x2 x3 => roundsOf (E15 N) N15_2 2 B15_2 K n (fill f15_2_sh [.i x1, .l x2, .l x3])) = f15_2_lp N (fun y1 y2 y3 y4 => K (X.normal) (fill f15_2_ex1 [.b y1, .i y2, .l y3, .l y4])) n from by funext x1 x2 x3; exact f15_2_lp_eq N K n x1 x2 x3]
theorem f15_2_ok (N : Nat) (hlp : LoopsOk Try.prog (E15 N).lp B15_2) (hΓ : CtxOk Try.prog (E15 N).Γ) : LoopOk Try.prog (mkL N15_2 f15_2_sh (f15_2_F N)) 2 B15_2 := by
  refine loopOk_of (E := E15 N) thOk2 hΓ mixed hlp ?_
  intro R ls K r h
  unfold f15_2_F at h
  split at h
  · exact ⟨N, by rw [f15_2_lp_eq]; exact h⟩
  · cases h

theorem lok15_2 (N : Nat) (hΓ : CtxOk Try.prog QB0) : LoopOk Try.prog (mkL N15_2 f15_2_sh (f15_2_F N)) 2 B15_2 := f15_2_ok N (loopsOk_of (l := []) (by kernel_rfl) trivial) hΓ
theorem lok15_0 (N : Nat) (hΓ : CtxOk Try.prog QB0) : LoopOk Try.prog (mkL N15_0 f15_0_sh (f15_0_F N)) 0 B15_0 := f15_0_ok N (loopsOk_of (l := []) (by kernel_rfl) trivial) hΓ
theorem f15_loops (N : Nat) (hΓ : CtxOk Try.prog QB0) : LoopsOk Try.prog (E15 N).lp B15 := loopsOk_of (l := [(0, B15_0), (2, B15_2)]) (by kernel_rfl) (allOk_cons (L := mkL N15_0 f15_0_sh (f15_0_F N)) rfl (lok15_0 N hΓ) (allOk_cons (L := mkL N15_2 f15_2_sh (f15_2_F N)) rfl (lok15_2 N hΓ) trivial))
theorem f15_raw_eq {R : Type} (N : Nat) (x : List Int) (k : List DV → Option R) : exec (E15 N) B15 ({ n := 61, lo := 2, tmps := [(0, .s (.one (.ptr 0 0 .z 30))), (1, .s (.one (.own 1)))], items := [(1, .view .u8 1 x)] }) (retK Th2 { ps := [], rs := [.val] } [] R15 k) = f15_raw N x k := by kernel_rfl
end Go.Proofs.Ytiaddnmloonhgaa

/- Given: what is handed in is copied, with marks behind it; is it all as it was? -/
namespace Go.Proofs.Ytiaddnmloonhgaa
open Go Go.Eng
set_option maxRecDepth 100000


theorem given_marks {R : Type} {N : Nat} (k1 : Bool → Int → List Int → List Int → Option R) (y xs : List Int) (hb : xs.length ≤ limG) :
    ∀ (m i : Nat), i + m = xs.length → ∀ fuel, m < fuel → f15_0_lp N k1 fuel (i : Int) y (fillG (fun (j : Nat) => markI 987 (j : Int)) i xs) = k1 false (xs.length : Int) y (marksG xs.length) := by
  have hb' : xs.length ≤ 1099511627776 := hb
  intro m
  induction m with
  | zero =>
    intro i h fuel hf
    obtain ⟨f, rfl⟩ : ∃ f, fuel = f + 1 := ⟨fuel - 1, by omega⟩
    have : i = xs.length := by omega
    subst this
    show f15_0_st N (f15_0_lp N _ f) _ _ _ _ = _
    unfold f15_0_st
    rw [fillG_marks]
    rw [show decide (((xs.length : Nat) : Int) < nI (rowLen 1 (marksG xs.length))) = false by simp [by_rowLen, marksG_length], cond_false]
  | succ m ih =>
    intro i h fuel hf
    obtain ⟨f, rfl⟩ : ∃ f, fuel = f + 1 := ⟨fuel - 1, by omega⟩
    show f15_0_st N (f15_0_lp N _ f) _ _ _ _ = _
    unfold f15_0_st
    have h1 : decide ((i : Int) < nI (rowLen 1 (fillG (fun (j : Nat) => markI 987 (j : Int)) i xs))) = true := by simp [by_rowLen, fillG_length]; omega
    have h4 : IntKind.i64.wrap ((i : Int) + 1) = ((i + 1 : Nat) : Int) := by_wrap (n := i + 1) (by omega)
    simp only [h1, h4, by_mulE, Int.toNat_natCast]
    rw [show (decide ((0 : Int) ≤ (i : Int)) && true) = true by simp, cond_true, cond_true]
    rw [fillG_set (fun (j : Nat) => markI 987 (j : Int)), ih (i + 1) (by omega) f (by omega)]

theorem given_copy {R : Type} {N : Nat} (k1 : Bool → Int → List Int → List Int → Option R) (y xs : List Int) (hb : y.length ≤ limG) (hl : y.length ≤ xs.length) :
    ∀ (m i : Nat), i + m = y.length → ∀ fuel, m < fuel → f15_2_lp N k1 fuel (i : Int) y (fillG (fun (j : Nat) => y.getD j 0) i xs) = k1 false (y.length : Int) y (overG y xs) := by
  have hb' : y.length ≤ 1099511627776 := hb
  intro m
  induction m with
  | zero =>
    intro i h fuel hf
    obtain ⟨f, rfl⟩ : ∃ f, fuel = f + 1 := ⟨fuel - 1, by omega⟩
    have : i = y.length := by omega
    subst this
    show f15_2_st N (f15_2_lp N _ f) _ _ _ _ = _
    unfold f15_2_st
    rw [show decide (((y.length : Nat) : Int) < nI (rowLen 1 y)) = false by simp [by_rowLen], cond_false]
    rfl
  | succ m ih =>
    intro i h fuel hf
    obtain ⟨f, rfl⟩ : ∃ f, fuel = f + 1 := ⟨fuel - 1, by omega⟩
    show f15_2_st N (f15_2_lp N _ f) _ _ _ _ = _
    unfold f15_2_st
    have h1 : decide ((i : Int) < nI (rowLen 1 y)) = true := by simp [by_rowLen]; omega
    have h2 : decide ((i : Int) < nI (rowLen 1 (fillG (fun (j : Nat) => y.getD j 0) i xs))) = true := by simp [by_rowLen, fillG_length]; omega
    have h4 : IntKind.i64.wrap ((i : Int) + 1) = ((i + 1 : Nat) : Int) := by_wrap (n := i + 1) (by omega)
    simp only [h1, h2, h4, by_mulE, Int.toNat_natCast]
    rw [show (decide ((0 : Int) ≤ (i : Int)) && true) = true by simp, cond_true, cond_true, cond_true]
    rw [fillG_set (fun (j : Nat) => y.getD j 0), ih (i + 1) (by omega) f (by omega)]

noncomputable def L15_0 : LoopFn := mkLF N15_0 f15_0_sh fun _ ls K => match ls with
  | [.i x1, .l x2, .l x3] => bif decide (x1 = 0) && Nat.ble x3.length limG then K X.normal (fill f15_0_ex1 [.b false, .i (nI x3.length), .l x2, .l (marksG x3.length)]) else none
  | _ => none
noncomputable def L15_2 : LoopFn := mkLF N15_2 f15_2_sh fun _ ls K => match ls with
  | [.i x1, .l x2, .l x3] => bif decide (x1 = 0) && (Nat.ble x2.length limG && Nat.ble x2.length x3.length) then K X.normal (fill f15_2_ex1 [.b false, .i (nI x2.length), .l x2, .l (overG x2 x3)]) else none
  | _ => none
theorem L15_0_ok : LoopOk Try.prog L15_0 0 B15_0 := by
  refine loopOkF_of (E := E15 0) thOk2 QB0_ok mixed (loopsOk_of (l := []) (by kernel_rfl) trivial) ?_
  intro R ls K r h
  split at h
  · rename_i x1 x2 x3
    refine ⟨x3.length + 1, ?_⟩
    rw [f15_0_lp_eq]
    cases hc : decide (x1 = 0) && Nat.ble x3.length limG with
    | true =>
      rw [hc] at h
      rw [Bool.and_eq_true] at hc
      have := given_marks (N := 0) (fun y1 y2 y3 y4 => K X.normal (fill f15_0_ex1 [.b y1, .i y2, .l y3, .l y4])) x2 x3 (Nat.le_of_ble_eq_true hc.2) x3.length 0 (by omega) (x3.length + 1) (by omega)
      rw [fillG_zero] at this
      rw [of_decide_eq_true hc.1]
      exact this.trans h
    | false => rw [hc] at h; cases h
  · cases h
theorem L15_2_ok : LoopOk Try.prog L15_2 2 B15_2 := by
  refine loopOkF_of (E := E15 0) thOk2 QB0_ok mixed (loopsOk_of (l := []) (by kernel_rfl) trivial) ?_
  intro R ls K r h
  split at h
  · rename_i x1 x2 x3
    refine ⟨x2.length + 1, ?_⟩
    rw [f15_2_lp_eq]
    cases hc : decide (x1 = 0) && (Nat.ble x2.length limG && Nat.ble x2.length x3.length) with
    | true =>
      rw [hc] at h
      rw [Bool.and_eq_true, Bool.and_eq_true] at hc
      have := given_copy (N := 0) (fun y1 y2 y3 y4 => K X.normal (fill f15_2_ex1 [.b y1, .i y2, .l y3, .l y4])) x2 x3 (Nat.le_of_ble_eq_true hc.2.1) (Nat.le_of_ble_eq_true hc.2.2) x2.length 0 (by omega) (x2.length + 1) (by omega)
      rw [fillG_zero] at this
      rw [of_decide_eq_true hc.1]
      exact this.trans h
    | false => rw [hc] at h; cases h
  · cases h

noncomputable def EG15 : Env := { Θ := Th2, Γ := QB0, K := K15, ν := [], fuel := 0, lp := [(0, L15_0), (2, L15_2)] }
noncomputable def G15 : FI := { sig := { ps := [], rs := [] }, impl := fun _ ds k => callN EG15 2 61 B15 R15 ds k, kind := .inl 2 }
theorem cG15 : Contract Try.prog 15 G15 := inl_contract (E := EG15) thOk2 QB0_ok mixed ok15 (loopsOk_of (l := [(0, B15_0), (2, B15_2)]) (by kernel_rfl) (allOk_cons (L := L15_0) rfl L15_0_ok (allOk_cons (L := L15_2) rfl L15_2_ok trivial)))
noncomputable def EG22 : Env := { Θ := Th2, Γ := QB0, K := K22, ν := N22, fuel := 5, lp := [] }
noncomputable def G22 : FI := { sig := { ps := [], rs := [] }, impl := fun _ ds k => callN EG22 1 393 B22 R22 ds k, kind := .inl 1 }
theorem cG22 : Contract Try.prog 22 G22 := inl_contract (E := EG22) thOk2 QB0_ok mixed ok22 (loopsOk_of (l := [(0, B22_0), (2, B22_2), (4, B22_4), (6, B22_6), (8, B22_8), (10, B22_10), (12, B22_12), (14, B22_14), (16, B22_16), (18, B22_18), (20, B22_20), (22, B22_22), (24, B22_24), (26, B22_26), (28, B22_28)]) (by kernel_rfl) (allOk_skip rfl (allOk_skip rfl (allOk_skip rfl (allOk_skip rfl (allOk_skip rfl (allOk_skip rfl (allOk_skip rfl (allOk_skip rfl (allOk_skip rfl (allOk_skip rfl (allOk_skip rfl (allOk_skip rfl (allOk_skip rfl (allOk_skip rfl (allOk_skip rfl trivial))))))))))))))))
end Go.Proofs.Ytiaddnmloonhgaa

/- Contexts with Given and the document's streams. -/
namespace Go.Proofs.Ytiaddnmloonhgaa
open Go Go.Eng
set_option maxRecDepth 100000
/-- no function, but a word to the engine: an 'and' is followed where it says yes -/
def noFI : FI := { sig := { ps := [], rs := [] }, impl := fun _ _ _ => none }
theorem ctxOk_prune {Γ : Ctx} (h : CtxOk Try.prog Γ) : CtxOk Try.prog ((999999, noFI) :: Γ) := by
  intro g fi hg
  unfold findF at hg
  split at hg
  · injection hg with hg; subst hg
    refine ⟨fun R ds k r hr => ?_, rfl⟩
    cases (show (none : Option R) = some r from hr)
  · exact h g fi hg
noncomputable def QS0 : Ctx := (15, G15) :: (22, G22) :: (17, { sig := S17, impl := I17 }) :: (19, { sig := S19, impl := I19 }) :: (21, { sig := S21, impl := I21 }) :: G6
theorem QS0_ok : CtxOk Try.prog QS0 := ctxOk_cons ok15 rfl cG15 (ctxOk_cons ok22 rfl cG22 (ctxOk_cons ok17 rfl c17 (ctxOk_cons ok19 rfl c19 (ctxOk_cons ok21 rfl c21 G6_ok))))
noncomputable def QS : Ctx := (999999, noFI) :: QS0
theorem QS_ok : CtxOk Try.prog QS := ctxOk_prune QS0_ok
def start3s (n : Nat) (key : List Int) (ctr : Int) (nonce b : List Int) : AS :=
  { n := n, lo := 0, tmps := [(0, .s (.one (.ints .u8 32 key))), (1, .s (.one (.int .u32 ctr))), (2, .s (.one (.ints .u8 12 nonce))), (3, .s (.one (.own 3)))], items := [(3, .view .u8 1 b)] }
end Go.Proofs.Ytiaddnmloonhgaa

/- The document's tag: its contract; contexts. -/
namespace Go.Proofs.Ytiaddnmloonhgaa
open Go Go.Eng
set_option maxRecDepth 100000
def I25 : (R : Type) → List DV → (List DV → Option R) → Option R := fun _ ds k => match ds with
  | [.v (.one (.ints .u8 32 key)), .lst .u8 1 b] => cond (okN 32 key && okY lim b) (k [.v (.one (.ints .u8 16 (macL key b)))]) none
  | _ => none
theorem c25 : Contract Try.prog 25 { sig := S25, impl := I25 } := by
  refine Contract.refine fun R ds k r h => ?_
  unfold I25 at h
  split at h
  · rename_i key b
    refine ⟨_, f25_contract (b.length + 2) Q25_ok, ?_⟩
    cases hc : okN 32 key && okY lim b with
    | true =>
      rw [hc] at h
      rw [Bool.and_eq_true] at hc
      obtain ⟨l, rfl, hl, hb⟩ := okY_of hc.2
      obtain ⟨k1, k2⟩ := okN_of hc.1
      obtain ⟨kl, rfl⟩ := nats_of (xs := key) fun x hx => (k2 x hx).1
      have hkb : ∀ x ∈ kl, x < 256 := fun x hx => by
        have := (k2 (x : Int) (by unfold nats; exact List.mem_map.mpr ⟨x, hx, rfl⟩)).2
        omega
      rw [f25_raw_eq, nats_length, f25_spec hkb (by rw [← nats_length]; exact k1) hl hb]; exact h
    | false => rw [hc] at h; cases h
  · exact (Option.some_ne_none _ h.symm).elim
noncomputable def QM0 : Ctx := (25, { sig := S25, impl := I25 }) :: QS0
theorem QM0_ok : CtxOk Try.prog QM0 := ctxOk_cons ok25 rfl c25 QS0_ok
noncomputable def QM : Ctx := (999999, noFI) :: QM0
theorem QM_ok : CtxOk Try.prog QM := ctxOk_prune QM0_ok
def start4s (n : Nat) (key b : List Int) : AS :=
  { n := n, lo := 0, tmps := [(0, .s (.one (.ints .u8 32 key))), (1, .s (.one (.own 1)))], items := [(1, .view .u8 1 b)] }
end Go.Proofs.Ytiaddnmloonhgaa

/- The document's small helpers: eight bytes, nonces of numbers; how filled is handed its bytes. -/
namespace Go.Proofs.Ytiaddnmloonhgaa
open Go Go.Eng
set_option maxRecDepth 100000
theorem f98_spec {R : Type} (n : Int) (k : List DV → Option R) : f98_raw 0 n k = k [.lst .u8 1 (bytesL (IntKind.u64.wrap n) 8)] := by kernel_rfl
def I98 : (R : Type) → List DV → (List DV → Option R) → Option R := fun _ ds k => match ds with
  | [.v (.one (.int .i64 n))] => cond (decide (0 ≤ n) && decide (n ≤ 4611686018427387903)) (k [.lst .u8 1 (bytesL n 8)]) none
  | _ => none
theorem c98 : Contract Try.prog 98 { sig := S98, impl := I98 } := by
  refine Contract.refine fun R ds k r h => ⟨_, f98_contract 0 ctxOk_nil, ?_⟩
  unfold I98 at h
  split at h
  · rename_i n
    cases hc : decide (0 ≤ n) && decide (n ≤ 4611686018427387903) with
    | true =>
      rw [hc] at h
      rw [Bool.and_eq_true, decide_eq_true_eq, decide_eq_true_eq] at hc
      obtain ⟨m, rfl⟩ : ∃ m : Nat, n = m := ⟨n.toNat, by omega⟩
      rw [f98_raw_eq, f98_spec, w64 (n := m) (by omega)]; exact h
    | false => rw [hc] at h; cases h
  · cases h
theorem f70_spec {R : Type} (n : Int) (k : List DV → Option R) : f70_raw 0 n k = k [.v (.one (.ints .u8 12 ([0, 0, 0, 0] ++ bytesL n 8)))] := by kernel_rfl
def I70 : (R : Type) → List DV → (List DV → Option R) → Option R := fun _ ds k => match ds with
  | [.v (.one (.int .u64 n))] => k [.v (.one (.ints .u8 12 ([0, 0, 0, 0] ++ bytesL n 8)))]
  | _ => none
theorem c70 : Contract Try.prog 70 { sig := S70, impl := I70 } := by
  refine Contract.refine fun R ds k r h => ⟨_, f70_contract 0 ctxOk_nil, ?_⟩
  unfold I70 at h
  split at h
  · rw [f70_raw_eq, f70_spec]; exact h
  · cases h
def So97 : Sig := { ps := [.own .u8 1], rs := [.fresh .u8 1] }
end Go.Proofs.Ytiaddnmloonhgaa

