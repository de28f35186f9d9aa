/- SealGoes, for every case of bulk at most 1048576: the stream goes on with the counter where a whole number of blocks ends; a block is the stream of zeros. -/
import Derived.Test.YtiaddnmloonhgaaSealGoesUptoT2
import Derived.Test.YtiaddnmloonhgaaRows
import Derived.WalkKit
import Derived.ProofKit
import Derived.JoinedCond
set_option linter.unusedVariables false
set_option linter.unusedSimpArgs false

/- There and back. -/
namespace Go.Proofs.Ytiaddnmloonhgaa
open Go Go.Eng
set_option maxRecDepth 100000

def Bytes (l : List Int) : Prop := ∀ x ∈ l, 0 ≤ x ∧ x < 256

theorem wrapU8 {n : Int} (h0 : 0 ≤ n) (h : n < 256) : IntKind.u8.wrap n = n := by
  unfold IntKind.wrap
  simp only [IntKind.bits, IntKind.signed]
  have e : n % 2 ^ 8 = n := Int.emod_eq_of_lt h0 (by omega)
  simp only [e]
  simp

theorem xor8_eq (x y : Int) : xorI .u8 x y = ((BitVec.ofInt 8 x ^^^ BitVec.ofInt 8 y).toNat : Int) := by
  have h := (BitVec.ofInt 8 x ^^^ BitVec.ofInt 8 y).isLt
  exact wrapU8 (n := ((BitVec.ofInt 8 x ^^^ BitVec.ofInt 8 y).toNat : Int)) (by omega) (by omega)

theorem xor8_byte (x y : Int) : 0 ≤ xorI .u8 x y ∧ xorI .u8 x y < 256 := by
  rw [xor8_eq]
  have h := (BitVec.ofInt 8 x ^^^ BitVec.ofInt 8 y).isLt
  omega

theorem xor8_twice {x : Int} (h0 : 0 ≤ x) (h : x < 256) (y : Int) : xorI .u8 (xorI .u8 x y) y = x := by
  rw [xor8_eq (xorI .u8 x y) y, xor8_eq x y]
  rw [BitVec.ofInt_natCast, BitVec.ofNat_toNat]
  simp only [BitVec.setWidth_eq]
  rw [BitVec.xor_assoc, BitVec.xor_self, BitVec.xor_zero, BitVec.toNat_ofInt]
  omega

theorem stream_bytes (key : List Int) (c : Nat) (nonce b : List Int) : Bytes (streamL key c nonce b) := by
  intro x hx
  unfold streamL maskL at hx
  rw [List.mem_mapIdx] at hx
  obtain ⟨i, hi, rfl⟩ := hx
  exact xor8_byte _ _

theorem stream_twice (key : List Int) (c : Nat) (nonce : List Int) {b : List Int} (hb : Bytes b) : streamL key c nonce (streamL key c nonce b) = b := by
  apply List.ext_getElem?
  intro i
  unfold streamL maskL
  rw [List.getElem?_mapIdx, List.getElem?_mapIdx]
  cases h : b[i]? with
  | none => rfl
  | some x =>
    obtain ⟨h0, h1⟩ := hb x (List.mem_of_getElem? h)
    simp only [Option.map_some]
    rw [xor8_twice h0 h1]

theorem digL_length (key b' w : List Int) : (digL key b' w).length = 16 := by kernel_rfl

theorem macL_length (key b : List Int) : (macL key b).length = 16 := digL_length _ _ _

theorem tagL_length (key nonce a b : List Int) : (tagL key nonce a b).length = 16 := macL_length _ _

theorem sealL_eq (key nonce a b : List Int) : sealL key nonce a b = streamL key 1 nonce b ++ tagL key nonce a (streamL key 1 nonce b) := by
  unfold sealL
  rw [List.take_of_length_le (by rw [tagL_length]; omega)]

theorem sealL_length (key nonce a b : List Int) : (sealL key nonce a b).length = b.length + 16 := by
  rw [sealL_eq, List.length_append, streamL_length, tagL_length]

theorem open_seal (key nonce a : List Int) {b : List Int} (hb : Bytes b) : openL key nonce a (sealL key nonce a b) = (b, 0) := by
  unfold openL
  rw [sealL_length, if_neg (by omega)]
  have e1 : (sealL key nonce a b).take (b.length + 16 - 16) = streamL key 1 nonce b := by
    rw [sealL_eq, Nat.add_sub_cancel, List.take_append_of_le_length (by rw [streamL_length]; omega), List.take_of_length_le (by rw [streamL_length]; omega)]
  have e2 : ((sealL key nonce a b).drop (b.length + 16 - 16)).take 16 = tagL key nonce a (streamL key 1 nonce b) := by
    rw [sealL_eq, Nat.add_sub_cancel, List.drop_append_of_le_length (by rw [streamL_length]; omega), List.drop_of_length_le (by rw [streamL_length]; omega), List.nil_append, List.take_of_length_le (by rw [tagL_length]; omega)]
  rw [e1, e2, if_pos rfl, stream_twice key 1 nonce hb]

theorem seal_open (key nonce a : List Int) {b : List Int} (hb : Bytes b) (h : (openL key nonce a b).2 = 0) : sealL key nonce a (openL key nonce a b).1 = b := by
  unfold openL at h ⊢
  by_cases hl : b.length < 16
  · rw [if_pos hl] at h; cases h
  · rw [if_neg hl] at h ⊢
    by_cases ht : tagL key nonce a (b.take (b.length - 16)) = (b.drop (b.length - 16)).take 16
    · rw [if_pos ht]
      simp only
      rw [sealL_eq, stream_twice key 1 nonce (fun x hx => hb x (List.mem_of_mem_take hx)), ht]
      rw [show (b.drop (b.length - 16)).take 16 = b.drop (b.length - 16) from List.take_of_length_le (by rw [List.length_drop]; omega), List.take_append_drop]
    · rw [if_neg ht] at h; cases h

theorem open_cases (key nonce a b : List Int) : (openL key nonce a b).2 = 0 ∨ ((openL key nonce a b).1 = [] ∧ (((openL key nonce a b).2 = 3 ∧ b.length < 16) ∨ ((openL key nonce a b).2 = 121 ∧ ¬ b.length < 16))) := by
  unfold openL
  by_cases hl : b.length < 16
  · rw [if_pos hl]; exact .inr ⟨rfl, .inl ⟨rfl, hl⟩⟩
  · rw [if_neg hl]
    by_cases ht : tagL key nonce a (b.take (b.length - 16)) = (b.drop (b.length - 16)).take 16
    · rw [if_pos ht]; exact .inl rfl
    · rw [if_neg ht]; exact .inr ⟨rfl, .inr ⟨rfl, hl⟩⟩

theorem open_length (key nonce a b : List Int) : (openL key nonce a b).1.length ≤ b.length := by
  unfold openL
  by_cases hl : b.length < 16
  · rw [if_pos hl]; simp
  · rw [if_neg hl]
    by_cases ht : tagL key nonce a (b.take (b.length - 16)) = (b.drop (b.length - 16)).take 16
    · rw [if_pos ht]; simp only; rw [streamL_length, List.length_take]; omega
    · rw [if_neg ht]; simp

end Go.Proofs.Ytiaddnmloonhgaa

/- A case of sealing, opened. -/
namespace Go.Proofs.Ytiaddnmloonhgaa
open Go Go.Eng Go.ChangeShapes Go.WideShapes Go.RowKit
set_option maxRecDepth 100000

theorem own0 : ownKnob Try.prog.godebug = none := by kernel_rfl
theorem laidOut : laidOutB Try.prog = true := by kernel_rfl

theorem bulk_one {H : Type} (d : DataW H) : 1 ≤ Rows.uptoBulk d := by
  cases d with
  | lit l => cases l <;> simp [Rows.uptoBulk]
  | nil => simp [Rows.uptoBulk]
  | ptr d => simp [Rows.uptoBulk]
  | slice elems spare => simp [Rows.uptoBulk]
  | agg parts => simp [Rows.uptoBulk]
  | iface t d => simp [Rows.uptoBulk]
  | map entries => simp [Rows.uptoBulk]
  | held h => simp [Rows.uptoBulk]

theorem bulk_length {H : Type} (l : List (DataW H)) : l.length ≤ Rows.uptoBulkAll l := by
  induction l with
  | nil => simp [Rows.uptoBulkAll]
  | cons x r ih => have := bulk_one x; simp only [Rows.uptoBulkAll, List.length_cons]; omega

theorem bulk_slice {H : Type} {d : DataW H} {len : Nat} (h : (d = .nil ∧ len = 0) ∨ ∃ elems spare, d = .slice elems spare ∧ elems.length = len) : len ≤ Rows.uptoBulk d := by
  rcases h with ⟨rfl, rfl⟩ | ⟨elems, spare, rfl, rfl⟩
  · exact Nat.zero_le _
  · have := bulk_length elems
    simp only [Rows.uptoBulk]; omega

theorem bulk_bound {H : Type} {l : List (DataW H)} (hk : Rows.uptoSmall H l = true) : Rows.uptoBulkAll l ≤ 1048576 := of_decide_eq_true hk

theorem wf_u8 {y : Int} (h : (Lit.int .u8 y).wf = true) : 0 ≤ y ∧ y < 256 := by
  have := bounds_u8 h; omega

section
variable {H : Type} {enc : TypeId × Value → H}

theorem elB (H : Type) (enc : TypeId × Value → H) : IntEl H enc Try.prog 5 .u8 1 := intEl_int Try.underlying5 (by kernel_rfl)

theorem case_open {W : World} {base b0 : Nat} {sp : Nat → Bool} {hd : Bool} {r : Reach} {v : Value} {d : DataW H} {ps : List MemPlace} (hval : Value.okWide Try.prog W r b0 66 v) (h : DataW.Trod enc Try.prog W base sp hd 66 v d ps) (hk : Rows.uptoBulk d ≤ 1048576) :
    ∃ (key nonce op text other : List Int) (at_ by_ : Int) (ρ : Rho), ∀ n, key.length = 32 ∧ nonce.length = 12 ∧ op.length ≤ 1048576 ∧ text.length ≤ 1048576 ∧ other.length ≤ 1048576 ∧ Bytes key ∧ Bytes nonce ∧ Bytes op ∧ Bytes text ∧ Bytes other ∧
      (-9223372036854775808 ≤ at_ ∧ at_ ≤ 9223372036854775807) ∧ (0 ≤ by_ ∧ by_ < 256) ∧
      (1 ≤ n → Sim W ⟨fun _ => False, ρ.loc⟩ ρ (caseS n key nonce op text other at_ by_) { tmps := #[v] ++ Array.replicate (n - 1) undef, defers := [] } W) := by
  obtain ⟨cs, rfl, hcs⟩ := okWide_struct Try.underlying66 hval
  have hcs' : cs.size = 49 := by rw [hcs]; kernel_rfl
  obtain ⟨fuel, h⟩ := h
  obtain ⟨xs, m, rfl, hx, hl, hlen, hf⟩ := DataW.trod_struct Try.underlying66 h
  match xs, hlen with
  | [y0, y1, y2, y3, y4, y5, y6], _ =>
  have g0 : DataW.trod enc Try.prog W base sp hd m 23 ((cs.toList.drop 0).take (Try.prog.cellsOf 23)) = some y0 := hf 0 _ rfl
  have g1 : DataW.trod enc Try.prog W base sp hd m 26 ((cs.toList.drop 32).take (Try.prog.cellsOf 26)) = some y1 := hf 1 _ rfl
  have g2 : DataW.trod enc Try.prog W base sp hd m 27 ((cs.toList.drop 44).take (Try.prog.cellsOf 27)) = some y2 := hf 2 _ rfl
  have g3 : DataW.trod enc Try.prog W base sp hd m 27 ((cs.toList.drop 45).take (Try.prog.cellsOf 27)) = some y3 := hf 3 _ rfl
  have g4 : DataW.trod enc Try.prog W base sp hd m 27 ((cs.toList.drop 46).take (Try.prog.cellsOf 27)) = some y4 := hf 4 _ rfl
  have g5 : DataW.trod enc Try.prog W base sp hd m 3 ((cs.toList.drop 47).take (Try.prog.cellsOf 3)) = some y5 := hf 5 _ rfl
  have g6 : DataW.trod enc Try.prog W base sp hd m 5 ((cs.toList.drop 48).take (Try.prog.cellsOf 5)) = some y6 := hf 6 _ rfl
  rw [show Try.prog.cellsOf 23 = 32 by kernel_rfl] at g0
  rw [show Try.prog.cellsOf 26 = 12 by kernel_rfl] at g1
  rw [show Try.prog.cellsOf 27 = 1 by kernel_rfl] at g2 g3 g4
  rw [show Try.prog.cellsOf 3 = 1 by kernel_rfl] at g5
  rw [show Try.prog.cellsOf 5 = 1 by kernel_rfl] at g6
  obtain ⟨key, k1, k2, k3⟩ := (intEl_array (H := H) (enc := enc) Try.underlying23 (es := 1) (by kernel_rfl) (by omega) (elB H enc)).2 _ _ _ _ _ _ _ g0
  obtain ⟨nonce, n1, n2, n3⟩ := (intEl_array (H := H) (enc := enc) Try.underlying26 (es := 1) (by kernel_rfl) (by omega) (elB H enc)).2 _ _ _ _ _ _ _ g1
  obtain ⟨op, ol, oc, oA, oloc, o1, o2, o3, o4, o5, o6, o7, o8⟩ := open_view Try.underlying27 (by omega) (elB H enc) g2
  obtain ⟨tx, tl, tc, tA, tloc, t1, t2, t3, t4, t5, t6, t7, t8⟩ := open_view Try.underlying27 (by omega) (elB H enc) g3
  obtain ⟨oth, el, ec, eA, eloc, e1, e2, e3, e4, e5, e6, e7, e8⟩ := open_view Try.underlying27 (by omega) (elB H enc) g4
  obtain ⟨at_, a1, _, a2⟩ := DataW.trod_int Try.underlying3 g5
  obtain ⟨by_, b1, _, b2⟩ := DataW.trod_int Try.underlying5 g6
  have hd : d = .agg [y0.1, y1.1, y2.1, y3.1, y4.1, y5.1, y6.1] := by injection hx
  rw [hd] at hk
  simp only [Rows.uptoBulk, Rows.uptoBulkAll] at hk
  have q2 := bulk_slice o8
  have q3 := bulk_slice t8
  have q4 := bulk_slice e8
  have hby : ∀ {l : List Int}, (∀ y ∈ l, (Lit.int .u8 y).wf = true) → Bytes l := fun h x hx => wf_u8 (h x hx)
  refine ⟨key, nonce, op, tx, oth, at_, by_, ⟨locOf [(1000001, oloc), (1000002, tloc), (1000003, eloc)], fun _ => 0⟩, fun n => ⟨by simpa using k2, by simpa using n2, by omega, by omega, by omega, hby k3, hby n3, hby o7, hby t7, hby e7, bounds_i64 a2, wf_u8 b2, fun hn => ?_⟩⟩
  refine sim_start (avs := [.s (.agg [.ints .u8 32 key, .ints .u8 12 nonce, .own 1000001, .own 1000002, .own 1000003, .int .i64 at_, .int .u8 by_])]) rfl hn rfl ?_ ?_ ?_ ⟨?_, trivial⟩
  · simp [caseS, Nodup', putNames]
  · intro j it hi
    simp only [caseS, AS.I, findI_cons] at hi
    split at hi
    · rename_i hj; subst hj; injection hi with hi; subst hi
      exact ⟨_, _, _, rfl, by omega, ⟨ol, o3⟩, o4⟩
    · split at hi
      · rename_i hj; subst hj; injection hi with hi; subst hi
        exact ⟨_, _, _, rfl, by omega, ⟨tl, t3⟩, t4⟩
      · split at hi
        · rename_i hj; subst hj; injection hi with hi; subst hi
          exact ⟨_, _, _, rfl, by omega, ⟨el, e3⟩, e4⟩
        · simp [findI] at hi
  · intro j p hp
    simp only [locOf] at hp
    split at hp
    · exact o6 p hp
    · split at hp
      · exact t6 p hp
      · split at hp
        · exact e6 p hp
        · cases hp
  · refine ⟨cs.toList, by simp, ?_⟩
    have := relL_of (ρ := ⟨locOf [(1000001, oloc), (1000002, tloc), (1000003, eloc)], fun _ => 0⟩) (S := (caseS n key nonce op tx oth at_ by_).S) (off := 0) (cs := cs.toList)
      (l := [(.ints .u8 32 key, 32), (.ints .u8 12 nonce, 12), (.own 1000001, 1), (.own 1000002, 1), (.own 1000003, 1), (.int .i64 at_, 1), (.int .u8 by_, 1)])
      ⟨by simp [hcs'], ⟨k1, by simpa using k2⟩, by simp [hcs'], ⟨n1, by simpa using n2⟩, by simp [hcs'], rel_own rfl o1 o2 o3 o5 (by omega), by simp [hcs'], rel_own rfl t1 t2 t3 t5 (by omega), by simp [hcs'], rel_own rfl e1 e2 e3 e5 (by omega), by simp [hcs'], a1, by simp [hcs'], b1, (show cs.toList.length = 49 by simpa using hcs')⟩
    exact this
end
end Go.Proofs.Ytiaddnmloonhgaa

/- What rime/rimelaw12.works comes to. MADE BY PROGRAM (wip/tools/mkfn.py, EngGen.lean). -/
namespace Go.Proofs.Ytiaddnmloonhgaa
open Go Go.Eng
set_option maxRecDepth 100000
set_option linter.unusedVariables false

def f23_raw {R : Type} (N : Nat)  (k : List DV → Option R) : Option R :=
 let v0 : List Int := (Go.Eng.zerosOf (1 * 1)).set 0 97;
let v1 : List Int := (Go.Eng.zerosOf (4 * 1)).set 0 116;
let v2 : List Int := v1.set 1 101;
let v3 : List Int := v2.set 2 120;
let v4 : List Int := v3.set 3 116;
let v5 : Bool := bif Go.Eng.nI (Go.Eng.rowLen 1 (Go.Proofs.Ytiaddnmloonhgaa.sealL (List.replicate 32 0) (List.replicate 12 0) v0 v4)) == 20 then (Go.Proofs.Ytiaddnmloonhgaa.openL (List.replicate 32 0) (List.replicate 12 0) v0 (Go.Proofs.Ytiaddnmloonhgaa.sealL (List.replicate 32 0) (List.replicate 12 0) v0 v4)).snd == 0 else Bool.false;
let v6 : Bool := bif v5 then (Go.Eng.mkBytes (Go.Proofs.Ytiaddnmloonhgaa.openL (List.replicate 32 0) (List.replicate 12 0) v0 (Go.Proofs.Ytiaddnmloonhgaa.sealL (List.replicate 32 0) (List.replicate 12 0) v0 v4)).fst).toList == (ByteArray.mk #[116, 101, 120, 116]).toList else Bool.false;
let v7 : List Int := (Go.Eng.zerosOf (1 * 1)).set 0 98;
let v8 : Bool := bif v6 then (Go.Proofs.Ytiaddnmloonhgaa.openL (List.replicate 32 0) (List.replicate 12 0) v7 (Go.Proofs.Ytiaddnmloonhgaa.sealL (List.replicate 32 0) (List.replicate 12 0) v0 v4)).snd == 121 else Bool.false;
k [Go.Eng.DV.v (Go.Eng.SV.one (Go.Eng.At.bool v8))]


noncomputable def E23 (N : Nat) : Env := { Θ := Th, Γ := G23, K := K23, ν := N23, fuel := 0, lp := [] }


theorem f23_contract (N : Nat) (hΓ : CtxOk Try.prog G23) : Contract Try.prog 23 { sig := S23, impl := fun _ ds k => call (E23 N) S23 51 B23 R23 ds k } :=
  call_contract (E := E23 N) thOk hΓ mixed ok23.look ok23.body ok23.n ok23.rv rfl (by decide) (loopsOk_of (l := []) (by kernel_rfl) trivial)
theorem f23_raw_eq {R : Type} (N : Nat)  (k : List DV → Option R) : call (E23 N) S23 51 B23 R23 [] k = f23_raw N  k := by kernel_rfl
end Go.Proofs.Ytiaddnmloonhgaa

/- A text sealed is opened; with a bit turned it is not. -/
namespace Go.Proofs.Ytiaddnmloonhgaa
open Go Go.Eng
set_option maxRecDepth 100000

def z32 : List Int := List.replicate 32 0
def z12 : List Int := List.replicate 12 0
def textB : List Int := [116, 101, 120, 116]

theorem tag_unlike : (tagL z32 z12 [98] (streamL z32 1 z12 textB) == tagL z32 z12 [97] (streamL z32 1 z12 textB)) = false := by decide +kernel

theorem textB_bytes : Bytes textB := by
  intro x hx
  simp only [textB, List.mem_cons, List.not_mem_nil, or_false] at hx
  omega

theorem open_other : openL z32 z12 [98] (sealL z32 z12 [97] textB) = ([], 121) := by
  have hl : (streamL z32 1 z12 textB).length = 4 := streamL_length _ _ _ _
  unfold openL
  rw [sealL_length]
  rw [if_neg (show ¬ textB.length + 16 < 16 by decide)]
  rw [sealL_eq]
  rw [show textB.length + 16 - 16 = 4 from rfl, List.take_left' hl, List.drop_left' hl, List.take_of_length_le (by rw [tagL_length]; omega), if_neg]
  intro h
  have := tag_unlike
  rw [h] at this
  simp at this

theorem works_true {R : Type} (k : List DV → Option R) : f23_raw 0 k = k [.v (.one (.bool true))] := by
  have e1 := open_seal z32 z12 [97] textB_bytes
  have e2 := open_other
  have e3 := sealL_length z32 z12 [97] textB
  unfold f23_raw
  simp only []
  rw [show (zerosOf (1 * 1)).set 0 97 = [97] from rfl, show (zerosOf (1 * 1)).set 0 98 = [98] from rfl, show ((((zerosOf (4 * 1)).set 0 116).set 1 101).set 2 120).set 3 116 = textB from rfl]
  rw [show (List.replicate 32 0 : List Int) = z32 from rfl, show (List.replicate 12 0 : List Int) = z12 from rfl]
  rw [e1, e2, rowLen_one, e3]
  rw [show mkBytes (textB, (0 : Int)).fst = ByteArray.mk #[116, 101, 120, 116] from rfl]
  rw [show ((ByteArray.mk #[116, 101, 120, 116]).toList == (ByteArray.mk #[116, 101, 120, 116]).toList) = true from beq_self_eq_true _]
  rfl

theorem c23 : Contract Try.prog 23 { sig := S23, impl := I23 } := by
  refine Contract.refine fun R ds k r h => ⟨_, f23_contract 0 G23_ok, ?_⟩
  unfold I23 at h
  split at h
  · rw [f23_raw_eq, works_true]; exact h
  · cases h

theorem G6_ok : CtxOk Try.prog G6 := ctxOk_cons ok16 rfl c16 (ctxOk_cons ok20 rfl c20 (ctxOk_cons ok23 rfl c23 (ctxOk_cons ok24 rfl c24 (ctxOk_cons ok26 rfl c26 (ctxOk_cons ok28 rfl c28 (ctxOk_cons ok18 rfl c18 (ctxOk_cons ok30 rfl c30 ctxOk_nil)))))))
end Go.Proofs.Ytiaddnmloonhgaa

/- What rime/rimelaw12.SealGoes comes to. MADE BY PROGRAM (wip/tools/mkfn.py, EngGen.lean). -/
namespace Go.Proofs.Ytiaddnmloonhgaa
open Go Go.Eng
set_option maxRecDepth 100000
set_option linter.unusedVariables false

def f7_0_sh : Shp := { n := 115, lo := 0, slots := [(3, .one (.fix (At.ptr 3 0 Off.z 32))), (4, .one (.fix (At.ptr 4 0 Off.z 12))), (5, .one (.fix (At.own 1000002))), (6, .one (.int IntKind.i64)), (7, .one (.int IntKind.u32)), (8, .one (.fix (At.own 1000008))), (9, .one (.int IntKind.i64))], items := [(1000008, .row IntKind.u8 1), (1, .obj [.ints IntKind.u8 32, .ints IntKind.u8 12, .fix (At.own 1000001), .fix (At.own 1000002), .fix (At.own 1000003), .int IntKind.i64, .int IntKind.u8]), (3, .obj [.ints IntKind.u8 32]), (4, .obj [.ints IntKind.u8 12]), (1000001, .view IntKind.u8 1), (1000002, .view IntKind.u8 1), (1000003, .view IntKind.u8 1)] }
def f7_0_ex1 : Shp := { n := 115, lo := 0, slots := [(38, .one (.bool)), (3, .one (.fix (At.ptr 3 0 Off.z 32))), (4, .one (.fix (At.ptr 4 0 Off.z 12))), (5, .one (.fix (At.own 1000002))), (6, .one (.int IntKind.i64)), (7, .one (.int IntKind.u32)), (8, .one (.fix (At.own 1000008))), (9, .one (.int IntKind.i64))], items := [(1000008, .row IntKind.u8 1), (1, .obj [.ints IntKind.u8 32, .ints IntKind.u8 12, .fix (At.own 1000001), .fix (At.own 1000002), .fix (At.own 1000003), .int IntKind.i64, .int IntKind.u8]), (3, .obj [.ints IntKind.u8 32]), (4, .obj [.ints IntKind.u8 12]), (1000001, .view IntKind.u8 1), (1000002, .view IntKind.u8 1), (1000003, .view IntKind.u8 1)] }
def f7_0_st {R : Type} (N : Nat) (self : Int → Int → Int → List Int → List Int → List Int → Int → Int → List Int → List Int → List Int → List Int → List Int → Option R) (k1 : Bool → Int → Int → Int → List Int → List Int → List Int → Int → Int → List Int → List Int → List Int → List Int → List Int → Option R) (x1 : Int) (x2 : Int) (x3 : Int) (x4 : List Int) (x5 : List Int) (x6 : List Int) (x7 : Int) (x8 : Int) (x9 : List Int) (x10 : List Int) (x11 : List Int) (x12 : List Int) (x13 : List Int) : Option R :=
 let v0 : Int := IntKind.i64.wrap (64 * x1);
bif Decidable.decide (x3 < v0) then
 let v1 : Int := IntKind.i64.wrap (x3 * 7);
 let v2 : Int := IntKind.u8.wrap v1;
 let v3 : List Int := (zerosOf (1 * 1)).set 0 v2;
 bif ((2 * (rowLen 1 x4 + rowLen 1 v3) + 192) * 1).ble big48 && (rowLen 1 x4 + rowLen 1 v3).ble big48 then
 let v4 : Int := IntKind.i64.wrap (x3 + 1);
 let v5 : List Int := x4 ++ v3;
 self x1 x2 v4 v5 x5 x6 x7 x8 x9 x10 x11 x12 x13
 else Option.none
else k1 (Decidable.decide (x3 < v0)) x1 x2 x3 x4 x5 x6 x7 x8 x9 x10 x11 x12 x13
def f7_0_lp {R : Type} (N : Nat) (k1 : Bool → Int → Int → Int → List Int → List Int → List Int → Int → Int → List Int → List Int → List Int → List Int → List Int → Option R) : Nat → Int → Int → Int → List Int → List Int → List Int → Int → Int → List Int → List Int → List Int → List Int → List Int → Option R
 | 0, _, _, _, _, _, _, _, _, _, _, _, _, _ => none
 | n + 1, x1, x2, x3, x4, x5, x6, x7, x8, x9, x10, x11, x12, x13 => f7_0_st N (f7_0_lp N k1 n) k1 x1 x2 x3 x4 x5 x6 x7 x8 x9 x10 x11 x12 x13
def f7_0_F (N : Nat) : (R : Type) → List Leaf → (X → AS → Option R) → Option R := fun _ ls K => match ls with
 | [.i x1, .i x2, .i x3, .l x4, .l x5, .l x6, .i x7, .i x8, .l x9, .l x10, .l x11, .l x12, .l x13] => f7_0_lp N (fun y1 y2 y3 y4 y5 y6 y7 y8 y9 y10 y11 y12 y13 y14 => K (X.normal) (fill f7_0_ex1 [.b y1, .i y2, .i y3, .i y4, .l y5, .l y6, .l y7, .i y8, .i y9, .l y10, .l y11, .l y12, .l y13, .l y14])) N x1 x2 x3 x4 x5 x6 x7 x8 x9 x10 x11 x12 x13
 | _ => none
def f7_raw {R : Type} (N : Nat) (key : List Int) (nonce : List Int) (op : List Int) (text : List Int) (other : List Int) (at_ : Int) (by_ : Int) (k : List DV → Option R) : Option R :=
 let v0 : Int := andI IntKind.i64 at_ 3;
let v1 : Int := IntKind.u32.wrap at_;
let v2 : Int := IntKind.u32.wrap (v1 * 97);
let v3 : Int := andI IntKind.u32 v2 2147483647;
f7_0_lp N
 (fun w4_1 w4_2 w4_3 w4_4 w4_5 w4_6 w4_7 w4_8 w4_9 w4_10 w4_11 w4_12 w4_13 w4_14 =>
 bif w4_5.length.ble lim then
 bif ((2 * (rowLen 1 w4_5 + rowLen 1 w4_13) + 192) * 1).ble big48 && (rowLen 1 w4_5 + rowLen 1 w4_13).ble big48 then
 let v5 : List Int := w4_5 ++ w4_13;
 bif Decidable.decide (0 ≤ w4_3) && (Decidable.decide (w4_3 < 4294967296) && v5.length.ble lim) then
 bif tooFar w4_3.toNat v5.length then
 bif Decidable.decide (0 ≤ w4_3) && (Decidable.decide (w4_3 < 4294967296) && w4_5.length.ble lim) then
 bif tooFar w4_3.toNat w4_5.length then
 let v6 : Int := IntKind.u32.wrap w4_2;
 let v7 : Int := IntKind.u32.wrap (w4_3 + v6);
 bif Decidable.decide (0 ≤ v7) && (Decidable.decide (v7 < 4294967296) && w4_13.length.ble lim) then bif tooFar v7.toNat w4_13.length then bif Decidable.decide (0 ≤ w4_3) && (Decidable.decide (w4_3 < 4294967296) && (zerosOf (mulE (Int.toNat 64) 1)).length.ble lim) then bif tooFar w4_3.toNat (zerosOf (mulE (Int.toNat 64) 1)).length then k [DV.v (SV.one (At.bool Bool.false))] else k [DV.v (SV.one (At.bool Bool.false))] else Option.none else bif Decidable.decide (0 ≤ w4_3) && (Decidable.decide (w4_3 < 4294967296) && (zerosOf (mulE (Int.toNat 64) 1)).length.ble lim) then bif tooFar w4_3.toNat (zerosOf (mulE (Int.toNat 64) 1)).length then k [DV.v (SV.one (At.bool Bool.false))] else k [DV.v (SV.one (At.bool Bool.false))] else Option.none else Option.none
 else
 let v8 : Int := IntKind.u32.wrap w4_2;
 let v9 : Int := IntKind.u32.wrap (w4_3 + v8);
 bif Decidable.decide (0 ≤ v9) && (Decidable.decide (v9 < 4294967296) && w4_13.length.ble lim) then bif tooFar v9.toNat w4_13.length then bif Decidable.decide (0 ≤ w4_3) && (Decidable.decide (w4_3 < 4294967296) && (zerosOf (mulE (Int.toNat 64) 1)).length.ble lim) then bif tooFar w4_3.toNat (zerosOf (mulE (Int.toNat 64) 1)).length then k [DV.v (SV.one (At.bool Bool.false))] else k [DV.v (SV.one (At.bool Bool.false))] else Option.none else bif Decidable.decide (0 ≤ w4_3) && (Decidable.decide (w4_3 < 4294967296) && (zerosOf (mulE (Int.toNat 64) 1)).length.ble lim) then bif tooFar w4_3.toNat (zerosOf (mulE (Int.toNat 64) 1)).length then k [DV.v (SV.one (At.bool Bool.false))] else k [DV.v (SV.one (At.bool Bool.false))] else Option.none else Option.none
 else Option.none
 else
 bif Decidable.decide (0 ≤ w4_3) && (Decidable.decide (w4_3 < 4294967296) && w4_5.length.ble lim) then
 bif tooFar w4_3.toNat w4_5.length then
 let v10 : Int := IntKind.u32.wrap w4_2;
 let v11 : Int := IntKind.u32.wrap (w4_3 + v10);
 bif Decidable.decide (0 ≤ v11) && (Decidable.decide (v11 < 4294967296) && w4_13.length.ble lim) then bif tooFar v11.toNat w4_13.length then bif Decidable.decide (0 ≤ w4_3) && (Decidable.decide (w4_3 < 4294967296) && (zerosOf (mulE (Int.toNat 64) 1)).length.ble lim) then bif tooFar w4_3.toNat (zerosOf (mulE (Int.toNat 64) 1)).length then k [DV.v (SV.one (At.bool Bool.false))] else k [DV.v (SV.one (At.bool Bool.false))] else Option.none else bif Decidable.decide (0 ≤ w4_3) && (Decidable.decide (w4_3 < 4294967296) && (zerosOf (mulE (Int.toNat 64) 1)).length.ble lim) then bif tooFar w4_3.toNat (zerosOf (mulE (Int.toNat 64) 1)).length then k [DV.v (SV.one (At.bool Bool.false))] else k [DV.v (SV.one (At.bool Bool.false))] else Option.none else Option.none
 else
 let v12 : Int := IntKind.u32.wrap w4_2;
 let v13 : Int := IntKind.u32.wrap (w4_3 + v12);
 bif Decidable.decide (0 ≤ v13) && (Decidable.decide (v13 < 4294967296) && w4_13.length.ble lim) then
 bif tooFar v13.toNat w4_13.length then bif Decidable.decide (0 ≤ w4_3) && (Decidable.decide (w4_3 < 4294967296) && (zerosOf (mulE (Int.toNat 64) 1)).length.ble lim) then bif tooFar w4_3.toNat (zerosOf (mulE (Int.toNat 64) 1)).length then k [DV.v (SV.one (At.bool Bool.false))] else k [DV.v (SV.one (At.bool Bool.false))] else Option.none
 else
 bif Decidable.decide (0 ≤ w4_3) && (Decidable.decide (w4_3 < 4294967296) && (zerosOf (mulE (Int.toNat 64) 1)).length.ble lim) then
 bif tooFar w4_3.toNat (zerosOf (mulE (Int.toNat 64) 1)).length then k [DV.v (SV.one (At.bool Bool.false))]
 else
 bif ((2 * (rowLen 1 (streamL w4_10 w4_3.toNat w4_11 w4_5) + rowLen 1 (streamL w4_10 v13.toNat w4_11 w4_13)) + 192) * 1).ble big48 && (rowLen 1 (streamL w4_10 w4_3.toNat w4_11 w4_5) + rowLen 1 (streamL w4_10 v13.toNat w4_11 w4_13)).ble big48 then
 bif (streamL w4_10 w4_3.toNat w4_11 v5).length.ble lim then
 let v14 : List Int := streamL w4_10 w4_3.toNat w4_11 w4_5 ++ streamL w4_10 v13.toNat w4_11 w4_13;
 let v15 : Bool := bif Bool.true then Decidable.decide (streamL w4_10 w4_3.toNat w4_11 v5 = v14) else Bool.false;
 bif v15 then
 let v16 : List Int := Go.Eng.sub (blockL w4_10 w4_3 w4_11) (plusO Off.z 1 Option.none) (mulE (subN (hiNat Option.none 64) Option.none) 1);
 let v17 : Bool := bif Bool.true then Decidable.decide (streamL w4_10 w4_3.toNat w4_11 (zerosOf (mulE (Int.toNat 64) 1)) = v16) else Bool.false;
 k [DV.v (SV.one (At.bool v17))]
 else k [DV.v (SV.one (At.bool Bool.false))]
 else Option.none
 else Option.none
 else Option.none
 else Option.none
 else Option.none
 else Option.none
 else Option.none
 else Option.none)
 N v0 v3 0 [] key nonce at_ by_ key nonce op text other


noncomputable def E7 (N : Nat) : Env := { Θ := Th, Γ := G6, K := K7, ν := N7, fuel := 0, lp := [(0, mkL N7_0 f7_0_sh (f7_0_F N))] }

theorem f7_0_st_eq {R : Type} (N : Nat) (K : X → AS → Option R) (n : Nat) (x1 : Int) (x2 : Int) (x3 : Int) (x4 : List Int) (x5 : List Int) (x6 : List Int) (x7 : Int) (x8 : Int) (x9 : List Int) (x10 : List Int) (x11 : List Int) (x12 : List Int) (x13 : List Int) : roundsOf (E7 N) N7_0 0 B7_0 K (n + 1) (fill f7_0_sh [.i x1, .i x2, .i x3, .l x4, .l x5, .l x6, .i x7, .i x8, .l x9, .l x10, .l x11, .l x12, .l x13]) = f7_0_st N (fun x1 x2 x3 x4 x5 x6 x7 x8 x9 x10 x11 x12 x13 => roundsOf (E7 N) N7_0 0 B7_0 K n (fill f7_0_sh [.i x1, .i x2, .i x3, .l x4, .l x5, .l x6, .i x7, .i x8, .l x9, .l x10, .l x11, .l x12, .l x13])) (fun y1 y2 y3 y4 y5 y6 y7 y8 y9 y10 y11 y12 y13 y14 => K (X.normal) (fill f7_0_ex1 [.b y1, .i y2, .i y3, .i y4, .l y5, .l y6, .l y7, .i y8, .i y9, .l y10, .l y11, .l y12, .l y13, .l y14])) x1 x2 x3 x4 x5 x6 x7 x8 x9 x10 x11 x12 x13 := by kernel_rfl
theorem f7_0_lp_eq {R : Type} (N : Nat) (K : X → AS → Option R) : ∀ (n : Nat) (x1 : Int) (x2 : Int) (x3 : Int) (x4 : List Int) (x5 : List Int) (x6 : List Int) (x7 : Int) (x8 : Int) (x9 : List Int) (x10 : List Int) (x11 : List Int) (x12 : List Int) (x13 : List Int), roundsOf (E7 N) N7_0 0 B7_0 K n (fill f7_0_sh [.i x1, .i x2, .i x3, .l x4, .l x5, .l x6, .i x7, .i x8, .l x9, .l x10, .l x11, .l x12, .l x13]) = f7_0_lp N (fun y1 y2 y3 y4 y5 y6 y7 y8 y9 y10 y11 y12 y13 y14 => K (X.normal) (fill f7_0_ex1 [.b y1, .i y2, .i y3, .i y4, .l y5, .l y6, .l y7, .i y8, .i y9, .l y10, .l y11, .l y12, .l y13, .l y14])) n x1 x2 x3 x4 x5 x6 x7 x8 x9 x10 x11 x12 x13
  | 0, _, _, _, _, _, _, _, _, _, _, _, _, _ => rfl
  | n + 1, x1, x2, x3, x4, x5, x6, x7, x8, x9, x10, x11, x12, x13 => by
    rw [f7_0_st_eq, f7_0_lp, show (fun x1 x2 x3 x4 x5 x6 x7 x8 x9 x10 x11 x12 x13 => roundsOf (E7 N) N7_0 0 B7_0 K n (fill f7_0_sh [.i x1, .i x2, .i x3, .l x4, .l x5, .l x6, .i x7, .i x8, .l x9, .l x10, .l x11, .l x12, .l x13])) = f7_0_lp N (fun y1 y2 y3 y4 y5 y6 y7 y8 y9 y10 y11 y12 y13 y14 => K (X.normal) (fill f7_0_ex1 [.b y1, .i y2, .i y3, .i y4, .l y5, .l y6, .l y7, .i y8, .i y9, .l y10, .l y11, .l y12, .l y13, .l y14])) n from by funext x1 x2 x3 x4 x5 x6 x7 x8 x9 x10 x11 x12 x13; exact f7_0_lp_eq N K n x1 x2 x3 x4 x5 x6 x7 x8 x9 x10 x11 x12 x13]
theorem f7_0_ok (N : Nat) (hlp : LoopsOk Try.prog (E7 N).lp B7_0) (hΓ : CtxOk Try.prog (E7 N).Γ) : LoopOk Try.prog (mkL N7_0 f7_0_sh (f7_0_F N)) 0 B7_0 := by
  refine loopOk_of (E := E7 N) thOk hΓ mixed hlp ?_
  intro R ls K r h
  unfold f7_0_F at h
  split at h
  · exact ⟨N, by rw [f7_0_lp_eq]; exact h⟩
  · cases h

theorem lok7_0 (N : Nat) (hΓ : CtxOk Try.prog G6) : LoopOk Try.prog (mkL N7_0 f7_0_sh (f7_0_F N)) 0 B7_0 := f7_0_ok N (loopsOk_of (l := []) (by kernel_rfl) trivial) hΓ
theorem f7_loops (N : Nat) (hΓ : CtxOk Try.prog G6) : LoopsOk Try.prog (E7 N).lp B7 := loopsOk_of (l := [(0, B7_0)]) (by kernel_rfl) (allOk_cons (L := mkL N7_0 f7_0_sh (f7_0_F N)) rfl (lok7_0 N hΓ) trivial)
theorem f7_raw_eq {R : Type} (N : Nat) (key : List Int) (nonce : List Int) (op : List Int) (text : List Int) (other : List Int) (at_ : Int) (by_ : Int) (k : List DV → Option R) : exec (E7 N) B7 (caseS 115 key nonce op text other at_ by_) (retK Th { ps := [], rs := [.val] } [] R7 k) = f7_raw N key nonce op text other at_ by_ k := by kernel_rfl
end Go.Proofs.Ytiaddnmloonhgaa

/- Blocks and streams: lengths, bytes, how streams go on. -/
namespace Go.Proofs.Ytiaddnmloonhgaa
open Go Go.Eng
set_option maxRecDepth 100000

theorem wrapU8_byte (n : Int) : 0 ≤ IntKind.u8.wrap n ∧ IntKind.u8.wrap n < 256 := by
  unfold IntKind.wrap
  simp only [IntKind.bits, IntKind.signed]
  have h1 := Int.emod_nonneg n (show (2 : Int) ^ 8 ≠ 0 by decide)
  have h2 := Int.emod_lt_of_pos n (show (0 : Int) < 2 ^ 8 by decide)
  simp only [Bool.false_and, Bool.false_eq_true, if_false]
  omega

theorem wrapU32_range (n : Int) : 0 ≤ IntKind.u32.wrap n ∧ IntKind.u32.wrap n < 4294967296 := by
  unfold IntKind.wrap
  simp only [IntKind.bits, IntKind.signed]
  have h1 := Int.emod_nonneg n (show (2 : Int) ^ 32 ≠ 0 by decide)
  have h2 := Int.emod_lt_of_pos n (show (0 : Int) < 2 ^ 32 by decide)
  simp only [Bool.false_and, Bool.false_eq_true, if_false]
  omega

def outF (t s : List Int) : List Int := ((List.range 16).map fun i => bytesL (IntKind.u64.wrap (IntKind.u32.wrap (t.getD i 0 + s.getD i 0))) 4).flatten

theorem outL_eq (t s : List Int) : outL t s = outF t s := by kernel_rfl

theorem bytesGo_bytes (n : Int) : ∀ (m i : Nat), Bytes (bytesGo n m i)
  | 0, _ => by intro x hx; cases hx
  | m + 1, i => by
    intro x hx
    rcases List.mem_cons.1 hx with e | hx
    · subst e; exact wrapU8_byte _
    · exact bytesGo_bytes n m (i + 1) x hx

theorem blockL_length (key : List Int) (c : Int) (nonce : List Int) : (blockL key c nonce).length = 64 := by
  unfold blockL; rw [outL_eq]; kernel_rfl

theorem block_bytes (key : List Int) (c : Int) (nonce : List Int) : Bytes (blockL key c nonce) := by
  unfold blockL; rw [outL_eq]
  intro x hx
  simp only [outF, List.mem_flatten, List.mem_map] at hx
  obtain ⟨l, ⟨i, _, rfl⟩, hx⟩ := hx
  exact bytesGo_bytes _ _ _ x hx

theorem bytes_getD {l : List Int} (h : Bytes l) (i : Nat) : 0 ≤ l.getD i 0 ∧ l.getD i 0 < 256 := by
  rw [List.getD_eq_getElem?_getD]
  cases hx : l[i]? with
  | none => simp
  | some x => exact h x (List.mem_of_getElem? hx)

theorem maskAt_byte (key : List Int) (c : Nat) (nonce : List Int) (i : Nat) : 0 ≤ maskAt key c nonce i ∧ maskAt key c nonce i < 256 := bytes_getD (block_bytes _ _ _) _

theorem maskL_append (f : Nat → Int) (a b : List Int) : maskL f (a ++ b) = maskL f a ++ maskL (fun i => f (a.length + i)) b := by
  unfold maskL
  rw [List.mapIdx_append]
  congr 1
  apply List.ext_getElem?
  intro i
  simp [Nat.add_comm]

theorem maskAt_add (key : List Int) (c q : Nat) (nonce : List Int) (i : Nat) : maskAt key c nonce (64 * q + i) = maskAt key (c + q) nonce i := by
  unfold maskAt
  rw [show c + (64 * q + i) / 64 = c + q + i / 64 by omega, show (64 * q + i) % 64 = i % 64 by omega]

theorem stream_append (key : List Int) (c q : Nat) (nonce a b : List Int) (h : a.length = 64 * q) : streamL key c nonce (a ++ b) = streamL key c nonce a ++ streamL key (c + q) nonce b := by
  unfold streamL
  have e : (fun i => maskAt key c nonce (a.length + i)) = maskAt key (c + q) nonce := funext fun i => by rw [h, maskAt_add]
  rw [maskL_append, e]

theorem xor8_zero {y : Int} (h0 : 0 ≤ y) (h : y < 256) : xorI .u8 0 y = y := by
  rw [xor8_eq]
  rw [show BitVec.ofInt 8 0 = 0#8 from rfl, BitVec.zero_xor, BitVec.toNat_ofInt]
  omega

theorem mask_of {f : Nat → Int} {l : List Int} (hl : l.length = 64) (hb : Bytes l) (h : ∀ i, i < 64 → f i = l.getD i 0) : maskL f (List.replicate 64 0) = l := by
  apply List.ext_getElem?
  intro i
  unfold maskL
  rw [List.getElem?_mapIdx, List.getElem?_replicate]
  by_cases hi : i < 64
  · rw [if_pos hi, List.getElem?_eq_getElem (by omega)]
    simp only [Option.map_some]
    obtain ⟨m1, m2⟩ := bytes_getD hb i
    rw [h i hi, xor8_zero m1 m2, List.getD_eq_getElem?_getD, List.getElem?_eq_getElem (by omega), Option.getD_some]
  · rw [if_neg hi, List.getElem?_eq_none (by omega), Option.map_none]

theorem stream_zeros (key : List Int) (c : Nat) (nonce : List Int) : streamL key c nonce (List.replicate 64 0) = blockL key c nonce := by
  unfold streamL
  refine mask_of (blockL_length _ _ _) (block_bytes _ _ _) fun i hi => ?_
  unfold maskAt
  rw [show c + i / 64 = c by omega, show i % 64 = i by omega]

/-- a mask lets by no more than itself -/
theorem andI_le {k : IntKind} {m : Nat} (hm : (m : Int) < 2 ^ (k.bits - 1)) (x : Int) : ∃ n : Nat, andI k x m = (n : Int) ∧ n ≤ m := by
  refine ⟨(BitVec.ofInt k.bits x &&& BitVec.ofInt k.bits (m : Int)).toNat, ?_, ?_⟩
  · have h1 : (BitVec.ofInt k.bits x &&& BitVec.ofInt k.bits (m : Int)).toNat ≤ (BitVec.ofInt k.bits (m : Int)).toNat := by rw [BitVec.toNat_and]; exact Nat.and_le_right
    have h2 : (BitVec.ofInt k.bits (m : Int)).toNat ≤ m := by
      rw [BitVec.ofInt_natCast, BitVec.toNat_ofNat]; exact Nat.mod_le _ _
    unfold andI
    generalize (BitVec.ofInt k.bits x &&& BitVec.ofInt k.bits (m : Int)).toNat = z at h1 ⊢
    have hz : (z : Int) < 2 ^ (k.bits - 1) := by omega
    cases k <;> simp [IntKind.wrap, IntKind.bits, IntKind.signed] at hz ⊢ <;> omega
  · rw [BitVec.toNat_and]
    refine Nat.le_trans Nat.and_le_right ?_
    rw [BitVec.ofInt_natCast, BitVec.toNat_ofNat]; exact Nat.mod_le _ _
end Go.Proofs.Ytiaddnmloonhgaa

/- SealGoes comes to true. -/
namespace Go.Proofs.Ytiaddnmloonhgaa
open Go Go.Eng
set_option maxRecDepth 100000
set_option maxHeartbeats 4000000

theorem goes_loop {R : Type} {N : Nat} (k1 : Bool → Int → Int → Int → List Int → List Int → List Int → Int → Int → List Int → List Int → List Int → List Int → List Int → Option R) (q : Nat) (hq : q ≤ 3) (x2 x7 x8 : Int) (x5 x6 x9 x10 x11 x12 x13 : List Int) :
    ∀ (m i : Nat) (acc : List Int), i + m = 64 * q → acc.length = i → ∀ fuel, m < fuel → ∃ a : List Int, a.length = 64 * q ∧
      f7_0_lp N k1 fuel (q : Int) x2 (i : Int) acc x5 x6 x7 x8 x9 x10 x11 x12 x13 = k1 false (q : Int) x2 ((64 * q : Nat) : Int) a x5 x6 x7 x8 x9 x10 x11 x12 x13 := by
  intro m
  induction m with
  | zero =>
    intro i acc h hl fuel hf
    obtain ⟨g, rfl⟩ : ∃ g, fuel = g + 1 := ⟨fuel - 1, by omega⟩
    refine ⟨acc, by omega, ?_⟩
    show f7_0_st N (f7_0_lp N k1 g) k1 _ _ _ _ _ _ _ _ _ _ _ _ _ = _
    unfold f7_0_st
    dsimp only
    rw [wrapI (x := 64 * (q : Int)) (n := 64 * q) (by omega) (by omega)]
    rw [show decide ((i : Int) < ((64 * q : Nat) : Int)) = false from decide_eq_false (by omega)]
    rw [show i = 64 * q by omega]
    rfl
  | succ m ih =>
    intro i acc h hl fuel hf
    obtain ⟨g, rfl⟩ : ∃ g, fuel = g + 1 := ⟨fuel - 1, by omega⟩
    obtain ⟨a, h1, h2⟩ := ih (i + 1) (acc ++ (zerosOf (1 * 1)).set 0 (IntKind.u8.wrap (IntKind.i64.wrap ((i : Int) * 7)))) (by omega) (by simp [hl, zerosOf]) g (by omega)
    refine ⟨a, h1, ?_⟩
    show f7_0_st N (f7_0_lp N k1 g) k1 _ _ _ _ _ _ _ _ _ _ _ _ _ = _
    unfold f7_0_st
    dsimp only
    rw [wrapI (x := 64 * (q : Int)) (n := 64 * q) (by omega) (by omega)]
    rw [show decide ((i : Int) < ((64 * q : Nat) : Int)) = true from decide_eq_true (by omega)]
    rw [wrapI (x := (i : Int) + 1) (n := i + 1) (by omega) (by omega)]
    simp only [cond_true]
    rw [show (((2 * (rowLen 1 acc + rowLen 1 ((zerosOf (1 * 1)).set 0 (IntKind.u8.wrap (IntKind.i64.wrap ((i : Int) * 7))))) + 192) * 1).ble big48 && (rowLen 1 acc + rowLen 1 ((zerosOf (1 * 1)).set 0 (IntKind.u8.wrap (IntKind.i64.wrap ((i : Int) * 7))))).ble big48) = true by
      simp only [rowLen_one, hl, List.length_set, zerosOf, List.length_replicate, big48, Bool.and_eq_true, Nat.ble_eq]; omega]
    exact h2

theorem f7_true {key nonce op text other : List Int} {at_ by_ : Int} (h2 : text.length ≤ 1048576) :
    f7_raw 300 key nonce op text other at_ by_ some = some [.v (.one (.bool true))] := by
  obtain ⟨q, hq, hq3⟩ := andI_le (k := .i64) (m := 3) (by decide) at_
  obtain ⟨c, hc, hc3⟩ := andI_le (k := .u32) (m := 2147483647) (by decide) (IntKind.u32.wrap (IntKind.u32.wrap at_ * 97))
  unfold f7_raw
  simp only [show ((3 : Nat) : Int) = 3 from rfl, show ((2147483647 : Nat) : Int) = 2147483647 from rfl] at hq hc
  simp only [hq, hc]
  obtain ⟨a, ha, he⟩ := goes_loop (N := 300) (fun w4_1 w4_2 w4_3 w4_4 w4_5 w4_6 w4_7 w4_8 w4_9 w4_10 w4_11 w4_12 w4_13 w4_14 => _) q hq3 (c : Int) at_ by_ key nonce key nonce op text other (64 * q) 0 [] (by omega) rfl 300 (by omega)
  refine he.trans ?_
  clear he
  have l1 : a.length.ble lim = true := by rw [Nat.ble_eq, ha]; show _ ≤ 1099511627776; omega
  have l2 : (((2 * (rowLen 1 a + rowLen 1 text) + 192) * 1).ble big48 && (rowLen 1 a + rowLen 1 text).ble big48) = true := by
    simp only [rowLen_one, ha, big48, Bool.and_eq_true, Nat.ble_eq]; omega
  have l3 : (a ++ text).length.ble lim = true := by rw [Nat.ble_eq, List.length_append, ha]; show _ ≤ 1099511627776; omega
  have c1 : decide ((0 : Int) ≤ (c : Int)) = true := decide_eq_true (by omega)
  have c2 : decide ((c : Int) < 4294967296) = true := decide_eq_true (by omega)
  have t1 : tooFar c (a ++ text).length = false := by simp only [tooFar, List.length_append, ha]; exact decide_eq_false (by omega)
  have t2 : tooFar c a.length = false := by simp only [tooFar, ha]; exact decide_eq_false (by omega)
  have w1 : IntKind.u32.wrap (q : Int) = (q : Int) := wrapU32 (by omega)
  have w2 : IntKind.u32.wrap ((c : Int) + (q : Int)) = ((c + q : Nat) : Int) := by rw [show (c : Int) + (q : Int) = ((c + q : Nat) : Int) by omega]; exact wrapU32 (by omega)
  have c3 : decide ((0 : Int) ≤ ((c + q : Nat) : Int)) = true := decide_eq_true (by omega)
  have c4 : decide (((c + q : Nat) : Int) < 4294967296) = true := decide_eq_true (by omega)
  have l4 : text.length.ble lim = true := by rw [Nat.ble_eq]; show _ ≤ 1099511627776; omega
  have t3 : tooFar (c + q) text.length = false := by simp only [tooFar]; exact decide_eq_false (by omega)
  have z : zerosOf (mulE (Int.toNat 64) 1) = List.replicate 64 0 := rfl
  have l5 : (List.replicate 64 (0 : Int)).length.ble lim = true := by decide
  have t4 : tooFar c (List.replicate 64 (0 : Int)).length = false := by simp only [tooFar, List.length_replicate]; exact decide_eq_false (by omega)
  have l6 : (((2 * (rowLen 1 (streamL key c nonce a) + rowLen 1 (streamL key (c + q) nonce text)) + 192) * 1).ble big48 && (rowLen 1 (streamL key c nonce a) + rowLen 1 (streamL key (c + q) nonce text)).ble big48) = true := by
    simp only [rowLen_one, streamL_length, ha, big48, Bool.and_eq_true, Nat.ble_eq]; omega
  have l7 : (streamL key c nonce (a ++ text)).length.ble lim = true := by rw [streamL_length]; exact l3
  have s1 := stream_append key c q nonce a text ha
  have l8 : (streamL key c nonce a ++ streamL key (c + q) nonce text).length.ble lim = true := by rw [← s1]; exact l7
  have s2 := stream_zeros key c nonce
  have s3 : Go.Eng.sub (blockL key (c : Int) nonce) (plusO Off.z 1 none) (mulE (subN (hiNat none 64) none) 1) = blockL key (c : Int) nonce := by
    show (blockL key (c : Int) nonce).take 64 = _
    exact List.take_of_length_le (by rw [blockL_length]; omega)
  simp only [Int.toNat_natCast, z, l1, l2, l3, c1, c2, t1, t2, w1, w2, c3, c4, l4, t3, l5, t4, l6, l7, l8, s1, s2, s3, Bool.and_self, cond_true, cond_false, decide_true]

end Go.Proofs.Ytiaddnmloonhgaa

/- SealGoes, for every case of bulk at most 1048576: the stream goes on with the counter where a whole number of blocks ends; a block is the stream of zeros. -/
namespace Go.Proofs.Ytiaddnmloonhgaa
open Go Go.Eng Go.ChangeShapes Go.WideShapes Go.RowKit Go.ChangeAt
set_option maxRecDepth 100000

theorem contract7 (H : Type) (enc : TypeId × Value → H) (W : World) (base : Nat) (args : Array Value) (ds gs : List (DataW H)) (before : List MemPlace)
    (hval : ∀ (j : Nat) t v, Try.f7.params[j]? = some t → args[j]? = some v → Value.okWide Try.prog W .any base t v)
    (hW : DataW.Whole enc Try.prog Try.f7.params.toList Rows.sealGoesSpec.vars false W args.toList ds gs before) (hk : Rows.uptoSmall H (ds ++ gs) = true) :
    Calls Try.prog 7 args W fun e W' => ∃ v, e = .returned v ∧ Rows.sealGoesSpec.post enc Try.prog Try.f7 false true false false W args v W' := by
  have hW' := hW
  obtain ⟨p, q, hA, hV, rfl, hfz, hnd⟩ := hW
  obtain ⟨rfl, rfl⟩ := trodVars_none hV
  rw [Try.params7] at hA hval
  obtain ⟨v0, vs0, d0, ds0, p0, q0, hargs, rfl, rfl, h0, r0⟩ := trodAll_cons hA
  obtain ⟨rfl, rfl, rfl⟩ := trodAll_nil r0
  obtain rfl : args = #[v0] := by cases args; simp_all
  have hb := bulk_bound hk
  simp only [List.append_nil, Rows.uptoBulkAll, Nat.add_zero] at hb
  obtain ⟨key, nonce, op, text, other, at_, by_, ρ, hc⟩ := case_open (hval 0 66 v0 rfl rfl) h0 hb
  obtain ⟨hlk, hln, b1, b2, b3, hbk, hbn, hbp, hbt, hbo, hat, hby, hs⟩ := hc 115
  have he := f7_true (key := key) (nonce := nonce) (op := op) (text := text) (other := other) (at_ := at_) (by_ := by_) b2
  rw [← f7_raw_eq] at he
  refine (law_calls thOk G6_ok mixed ok7 (f7_loops 300 G6_ok) (fun _ => id) (hs (by omega)) he).mono fun e W' ⟨h1, h2, h3, h4⟩ => ?_
  exact ⟨_, h1, post_of_law laidOut (by kernel_rfl) Try.underlying4 rfl (by rw [Try.params7]; intro t ht; simp at ht; subst ht; exact ⟨by kernel_rfl, by decide +kernel⟩) ⟨rfl, rfl, rfl⟩ hW' h2 h3 h4⟩

def wCase : Value := .agg (Array.mk ((List.replicate 44 (Value.int .u8 0)) ++ [Value.slice none 0 0, Value.slice none 0 0, Value.slice none 0 0, Value.int .i64 0, Value.int .u8 0]))
def wCaseD (H : Type) : DataW H := .agg [.agg (List.replicate 32 (.lit (.int .u8 0))), .agg (List.replicate 12 (.lit (.int .u8 0))), .nil, .nil, .nil, .lit (.int .i64 0), .lit (.int .u8 0)]

theorem lifted7 (os : Os) (started : os.Started) (H : Type) (enc : TypeId × Value → H) (F : Stop.Interp) :
    ReturnsInHanded {} Try.checked os 7 .any ((Rows.OpenSpec.upto Rows.sealGoesSpec).pre6 enc Try.prog Try.f7 Rows.sealGoesUptoRow.domain false) (((Rows.OpenSpec.upto Rows.sealGoesSpec).at F).post enc Try.prog Try.f7 false true false false) := by
  refine returnsInHanded_of_cond (C := Try.checked) (s := Rows.OpenSpec.upto Rows.sealGoesSpec) (k := Rows.uptoSmall) rfl own0 started (by kernel_rfl) Try.func7
    (OpenSpec.witness (enc := enc) (C := Try.checked) (s := Rows.OpenSpec.upto Rows.sealGoesSpec) (k := Rows.uptoSmall) rfl false ⟨#[], #[wCase], []⟩ 8 (by kernel_rfl) (by kernel_rfl) (by kernel_rfl)
      (x := ([wCaseD H], [], [])) (by kernel_rfl) rfl (by kernel_rfl)) ?_
  intro W base args ds gs before hval hW _ hk _
  exact contract7 H enc W base args ds gs before hval hW hk

theorem over7 : Rows.sealGoesUptoRow.holds Try.pinned (Rows.OpenSpec.upto Rows.sealGoesSpec) :=
  OpenClaim.holds_of_cond 7 Try.f7 rfl rfl rfl rfl rfl rfl rfl ⟨rfl, rfl, rfl, rfl, rfl⟩ rfl rfl rfl rfl rfl (by kernel_rfl) Try.func7 (by kernel_rfl)
    (of_decide_eq_true (by kernel_rfl)) (by unfold Func.isWrapper; first | (rw [if_pos (by decide +kernel)]; kernel_rfl) | (rw [if_neg (by decide +kernel)]; exact ⟨rfl, rfl⟩))
    (fun os started H enc _ F => lifted7 os started H enc F)

theorem sealGoes_holds : Rows.SealGoesUptoSaid := over7
end Go.Proofs.Ytiaddnmloonhgaa

#print axioms Go.Proofs.Ytiaddnmloonhgaa.sealGoes_holds
