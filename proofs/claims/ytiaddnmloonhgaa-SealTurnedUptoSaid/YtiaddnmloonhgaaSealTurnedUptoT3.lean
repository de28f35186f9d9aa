/- SealTurned, for every case of bulk at most 1048576: what is turned is told: it opens just if the tag of what is there is the one that stands there. -/
import Derived.Test.YtiaddnmloonhgaaSealTurnedUptoT2
import Derived.Test.YtiaddnmloonhgaaRows
import Derived.WalkKit
import Derived.ProofKit
import Derived.JoinedCond
set_option linter.unusedVariables false
set_option linter.unusedSimpArgs false

/- There and back. -/
namespace Go.Proofs.Ytiaddnmloonhgaa
open Go Go.Eng
set_option maxRecDepth 100000

def Bytes (l : List Int) : Prop := ∀ x ∈ l, 0 ≤ x ∧ x < 256

theorem wrapU8 {n : Int} (h0 : 0 ≤ n) (h : n < 256) : IntKind.u8.wrap n = n := by
  unfold IntKind.wrap
  simp only [IntKind.bits, IntKind.signed]
  have e : n % 2 ^ 8 = n := Int.emod_eq_of_lt h0 (by omega)
  simp only [e]
  simp

theorem xor8_eq (x y : Int) : xorI .u8 x y = ((BitVec.ofInt 8 x ^^^ BitVec.ofInt 8 y).toNat : Int) := by
  have h := (BitVec.ofInt 8 x ^^^ BitVec.ofInt 8 y).isLt
  exact wrapU8 (n := ((BitVec.ofInt 8 x ^^^ BitVec.ofInt 8 y).toNat : Int)) (by omega) (by omega)

theorem xor8_byte (x y : Int) : 0 ≤ xorI .u8 x y ∧ xorI .u8 x y < 256 := by
  rw [xor8_eq]
  have h := (BitVec.ofInt 8 x ^^^ BitVec.ofInt 8 y).isLt
  omega

theorem xor8_twice {x : Int} (h0 : 0 ≤ x) (h : x < 256) (y : Int) : xorI .u8 (xorI .u8 x y) y = x := by
  rw [xor8_eq (xorI .u8 x y) y, xor8_eq x y]
  rw [BitVec.ofInt_natCast, BitVec.ofNat_toNat]
  simp only [BitVec.setWidth_eq]
  rw [BitVec.xor_assoc, BitVec.xor_self, BitVec.xor_zero, BitVec.toNat_ofInt]
  omega

theorem stream_bytes (key : List Int) (c : Nat) (nonce b : List Int) : Bytes (streamL key c nonce b) := by
  intro x hx
  unfold streamL maskL at hx
  rw [List.mem_mapIdx] at hx
  obtain ⟨i, hi, rfl⟩ := hx
  exact xor8_byte _ _

theorem stream_twice (key : List Int) (c : Nat) (nonce : List Int) {b : List Int} (hb : Bytes b) : streamL key c nonce (streamL key c nonce b) = b := by
  apply List.ext_getElem?
  intro i
  unfold streamL maskL
  rw [List.getElem?_mapIdx, List.getElem?_mapIdx]
  cases h : b[i]? with
  | none => rfl
  | some x =>
    obtain ⟨h0, h1⟩ := hb x (List.mem_of_getElem? h)
    simp only [Option.map_some]
    rw [xor8_twice h0 h1]

theorem digL_length (key b' w : List Int) : (digL key b' w).length = 16 := by kernel_rfl

theorem macL_length (key b : List Int) : (macL key b).length = 16 := digL_length _ _ _

theorem tagL_length (key nonce a b : List Int) : (tagL key nonce a b).length = 16 := macL_length _ _

theorem sealL_eq (key nonce a b : List Int) : sealL key nonce a b = streamL key 1 nonce b ++ tagL key nonce a (streamL key 1 nonce b) := by
  unfold sealL
  rw [List.take_of_length_le (by rw [tagL_length]; omega)]

theorem sealL_length (key nonce a b : List Int) : (sealL key nonce a b).length = b.length + 16 := by
  rw [sealL_eq, List.length_append, streamL_length, tagL_length]

theorem open_seal (key nonce a : List Int) {b : List Int} (hb : Bytes b) : openL key nonce a (sealL key nonce a b) = (b, 0) := by
  unfold openL
  rw [sealL_length, if_neg (by omega)]
  have e1 : (sealL key nonce a b).take (b.length + 16 - 16) = streamL key 1 nonce b := by
    rw [sealL_eq, Nat.add_sub_cancel, List.take_append_of_le_length (by rw [streamL_length]; omega), List.take_of_length_le (by rw [streamL_length]; omega)]
  have e2 : ((sealL key nonce a b).drop (b.length + 16 - 16)).take 16 = tagL key nonce a (streamL key 1 nonce b) := by
    rw [sealL_eq, Nat.add_sub_cancel, List.drop_append_of_le_length (by rw [streamL_length]; omega), List.drop_of_length_le (by rw [streamL_length]; omega), List.nil_append, List.take_of_length_le (by rw [tagL_length]; omega)]
  rw [e1, e2, if_pos rfl, stream_twice key 1 nonce hb]

theorem seal_open (key nonce a : List Int) {b : List Int} (hb : Bytes b) (h : (openL key nonce a b).2 = 0) : sealL key nonce a (openL key nonce a b).1 = b := by
  unfold openL at h ⊢
  by_cases hl : b.length < 16
  · rw [if_pos hl] at h; cases h
  · rw [if_neg hl] at h ⊢
    by_cases ht : tagL key nonce a (b.take (b.length - 16)) = (b.drop (b.length - 16)).take 16
    · rw [if_pos ht]
      simp only
      rw [sealL_eq, stream_twice key 1 nonce (fun x hx => hb x (List.mem_of_mem_take hx)), ht]
      rw [show (b.drop (b.length - 16)).take 16 = b.drop (b.length - 16) from List.take_of_length_le (by rw [List.length_drop]; omega), List.take_append_drop]
    · rw [if_neg ht] at h; cases h

theorem open_cases (key nonce a b : List Int) : (openL key nonce a b).2 = 0 ∨ ((openL key nonce a b).1 = [] ∧ (((openL key nonce a b).2 = 3 ∧ b.length < 16) ∨ ((openL key nonce a b).2 = 121 ∧ ¬ b.length < 16))) := by
  unfold openL
  by_cases hl : b.length < 16
  · rw [if_pos hl]; exact .inr ⟨rfl, .inl ⟨rfl, hl⟩⟩
  · rw [if_neg hl]
    by_cases ht : tagL key nonce a (b.take (b.length - 16)) = (b.drop (b.length - 16)).take 16
    · rw [if_pos ht]; exact .inl rfl
    · rw [if_neg ht]; exact .inr ⟨rfl, .inr ⟨rfl, hl⟩⟩

theorem open_length (key nonce a b : List Int) : (openL key nonce a b).1.length ≤ b.length := by
  unfold openL
  by_cases hl : b.length < 16
  · rw [if_pos hl]; simp
  · rw [if_neg hl]
    by_cases ht : tagL key nonce a (b.take (b.length - 16)) = (b.drop (b.length - 16)).take 16
    · rw [if_pos ht]; simp only; rw [streamL_length, List.length_take]; omega
    · rw [if_neg ht]; simp

end Go.Proofs.Ytiaddnmloonhgaa

/- A case of sealing, opened. -/
namespace Go.Proofs.Ytiaddnmloonhgaa
open Go Go.Eng Go.ChangeShapes Go.WideShapes Go.RowKit
set_option maxRecDepth 100000

theorem own0 : ownKnob Try.prog.godebug = none := by kernel_rfl
theorem laidOut : laidOutB Try.prog = true := by kernel_rfl

theorem bulk_one {H : Type} (d : DataW H) : 1 ≤ Rows.uptoBulk d := by
  cases d with
  | lit l => cases l <;> simp [Rows.uptoBulk]
  | nil => simp [Rows.uptoBulk]
  | ptr d => simp [Rows.uptoBulk]
  | slice elems spare => simp [Rows.uptoBulk]
  | agg parts => simp [Rows.uptoBulk]
  | iface t d => simp [Rows.uptoBulk]
  | map entries => simp [Rows.uptoBulk]
  | held h => simp [Rows.uptoBulk]

theorem bulk_length {H : Type} (l : List (DataW H)) : l.length ≤ Rows.uptoBulkAll l := by
  induction l with
  | nil => simp [Rows.uptoBulkAll]
  | cons x r ih => have := bulk_one x; simp only [Rows.uptoBulkAll, List.length_cons]; omega

theorem bulk_slice {H : Type} {d : DataW H} {len : Nat} (h : (d = .nil ∧ len = 0) ∨ ∃ elems spare, d = .slice elems spare ∧ elems.length = len) : len ≤ Rows.uptoBulk d := by
  rcases h with ⟨rfl, rfl⟩ | ⟨elems, spare, rfl, rfl⟩
  · exact Nat.zero_le _
  · have := bulk_length elems
    simp only [Rows.uptoBulk]; omega

theorem bulk_bound {H : Type} {l : List (DataW H)} (hk : Rows.uptoSmall H l = true) : Rows.uptoBulkAll l ≤ 1048576 := of_decide_eq_true hk

theorem wf_u8 {y : Int} (h : (Lit.int .u8 y).wf = true) : 0 ≤ y ∧ y < 256 := by
  have := bounds_u8 h; omega

section
variable {H : Type} {enc : TypeId × Value → H}

theorem elB (H : Type) (enc : TypeId × Value → H) : IntEl H enc Try.prog 5 .u8 1 := intEl_int Try.underlying5 (by kernel_rfl)

theorem case_open {W : World} {base b0 : Nat} {sp : Nat → Bool} {hd : Bool} {r : Reach} {v : Value} {d : DataW H} {ps : List MemPlace} (hval : Value.okWide Try.prog W r b0 66 v) (h : DataW.Trod enc Try.prog W base sp hd 66 v d ps) (hk : Rows.uptoBulk d ≤ 1048576) :
    ∃ (key nonce op text other : List Int) (at_ by_ : Int) (ρ : Rho), ∀ n, key.length = 32 ∧ nonce.length = 12 ∧ op.length ≤ 1048576 ∧ text.length ≤ 1048576 ∧ other.length ≤ 1048576 ∧ Bytes key ∧ Bytes nonce ∧ Bytes op ∧ Bytes text ∧ Bytes other ∧
      (-9223372036854775808 ≤ at_ ∧ at_ ≤ 9223372036854775807) ∧ (0 ≤ by_ ∧ by_ < 256) ∧
      (1 ≤ n → Sim W ⟨fun _ => False, ρ.loc⟩ ρ (caseS n key nonce op text other at_ by_) { tmps := #[v] ++ Array.replicate (n - 1) undef, defers := [] } W) := by
  obtain ⟨cs, rfl, hcs⟩ := okWide_struct Try.underlying66 hval
  have hcs' : cs.size = 49 := by rw [hcs]; kernel_rfl
  obtain ⟨fuel, h⟩ := h
  obtain ⟨xs, m, rfl, hx, hl, hlen, hf⟩ := DataW.trod_struct Try.underlying66 h
  match xs, hlen with
  | [y0, y1, y2, y3, y4, y5, y6], _ =>
  have g0 : DataW.trod enc Try.prog W base sp hd m 23 ((cs.toList.drop 0).take (Try.prog.cellsOf 23)) = some y0 := hf 0 _ rfl
  have g1 : DataW.trod enc Try.prog W base sp hd m 26 ((cs.toList.drop 32).take (Try.prog.cellsOf 26)) = some y1 := hf 1 _ rfl
  have g2 : DataW.trod enc Try.prog W base sp hd m 27 ((cs.toList.drop 44).take (Try.prog.cellsOf 27)) = some y2 := hf 2 _ rfl
  have g3 : DataW.trod enc Try.prog W base sp hd m 27 ((cs.toList.drop 45).take (Try.prog.cellsOf 27)) = some y3 := hf 3 _ rfl
  have g4 : DataW.trod enc Try.prog W base sp hd m 27 ((cs.toList.drop 46).take (Try.prog.cellsOf 27)) = some y4 := hf 4 _ rfl
  have g5 : DataW.trod enc Try.prog W base sp hd m 3 ((cs.toList.drop 47).take (Try.prog.cellsOf 3)) = some y5 := hf 5 _ rfl
  have g6 : DataW.trod enc Try.prog W base sp hd m 5 ((cs.toList.drop 48).take (Try.prog.cellsOf 5)) = some y6 := hf 6 _ rfl
  rw [show Try.prog.cellsOf 23 = 32 by kernel_rfl] at g0
  rw [show Try.prog.cellsOf 26 = 12 by kernel_rfl] at g1
  rw [show Try.prog.cellsOf 27 = 1 by kernel_rfl] at g2 g3 g4
  rw [show Try.prog.cellsOf 3 = 1 by kernel_rfl] at g5
  rw [show Try.prog.cellsOf 5 = 1 by kernel_rfl] at g6
  obtain ⟨key, k1, k2, k3⟩ := (intEl_array (H := H) (enc := enc) Try.underlying23 (es := 1) (by kernel_rfl) (by omega) (elB H enc)).2 _ _ _ _ _ _ _ g0
  obtain ⟨nonce, n1, n2, n3⟩ := (intEl_array (H := H) (enc := enc) Try.underlying26 (es := 1) (by kernel_rfl) (by omega) (elB H enc)).2 _ _ _ _ _ _ _ g1
  obtain ⟨op, ol, oc, oA, oloc, o1, o2, o3, o4, o5, o6, o7, o8⟩ := open_view Try.underlying27 (by omega) (elB H enc) g2
  obtain ⟨tx, tl, tc, tA, tloc, t1, t2, t3, t4, t5, t6, t7, t8⟩ := open_view Try.underlying27 (by omega) (elB H enc) g3
  obtain ⟨oth, el, ec, eA, eloc, e1, e2, e3, e4, e5, e6, e7, e8⟩ := open_view Try.underlying27 (by omega) (elB H enc) g4
  obtain ⟨at_, a1, _, a2⟩ := DataW.trod_int Try.underlying3 g5
  obtain ⟨by_, b1, _, b2⟩ := DataW.trod_int Try.underlying5 g6
  have hd : d = .agg [y0.1, y1.1, y2.1, y3.1, y4.1, y5.1, y6.1] := by injection hx
  rw [hd] at hk
  simp only [Rows.uptoBulk, Rows.uptoBulkAll] at hk
  have q2 := bulk_slice o8
  have q3 := bulk_slice t8
  have q4 := bulk_slice e8
  have hby : ∀ {l : List Int}, (∀ y ∈ l, (Lit.int .u8 y).wf = true) → Bytes l := fun h x hx => wf_u8 (h x hx)
  refine ⟨key, nonce, op, tx, oth, at_, by_, ⟨locOf [(1000001, oloc), (1000002, tloc), (1000003, eloc)], fun _ => 0⟩, fun n => ⟨by simpa using k2, by simpa using n2, by omega, by omega, by omega, hby k3, hby n3, hby o7, hby t7, hby e7, bounds_i64 a2, wf_u8 b2, fun hn => ?_⟩⟩
  refine sim_start (avs := [.s (.agg [.ints .u8 32 key, .ints .u8 12 nonce, .own 1000001, .own 1000002, .own 1000003, .int .i64 at_, .int .u8 by_])]) rfl hn rfl ?_ ?_ ?_ ⟨?_, trivial⟩
  · simp [caseS, Nodup', putNames]
  · intro j it hi
    simp only [caseS, AS.I, findI_cons] at hi
    split at hi
    · rename_i hj; subst hj; injection hi with hi; subst hi
      exact ⟨_, _, _, rfl, by omega, ⟨ol, o3⟩, o4⟩
    · split at hi
      · rename_i hj; subst hj; injection hi with hi; subst hi
        exact ⟨_, _, _, rfl, by omega, ⟨tl, t3⟩, t4⟩
      · split at hi
        · rename_i hj; subst hj; injection hi with hi; subst hi
          exact ⟨_, _, _, rfl, by omega, ⟨el, e3⟩, e4⟩
        · simp [findI] at hi
  · intro j p hp
    simp only [locOf] at hp
    split at hp
    · exact o6 p hp
    · split at hp
      · exact t6 p hp
      · split at hp
        · exact e6 p hp
        · cases hp
  · refine ⟨cs.toList, by simp, ?_⟩
    have := relL_of (ρ := ⟨locOf [(1000001, oloc), (1000002, tloc), (1000003, eloc)], fun _ => 0⟩) (S := (caseS n key nonce op tx oth at_ by_).S) (off := 0) (cs := cs.toList)
      (l := [(.ints .u8 32 key, 32), (.ints .u8 12 nonce, 12), (.own 1000001, 1), (.own 1000002, 1), (.own 1000003, 1), (.int .i64 at_, 1), (.int .u8 by_, 1)])
      ⟨by simp [hcs'], ⟨k1, by simpa using k2⟩, by simp [hcs'], ⟨n1, by simpa using n2⟩, by simp [hcs'], rel_own rfl o1 o2 o3 o5 (by omega), by simp [hcs'], rel_own rfl t1 t2 t3 t5 (by omega), by simp [hcs'], rel_own rfl e1 e2 e3 e5 (by omega), by simp [hcs'], a1, by simp [hcs'], b1, (show cs.toList.length = 49 by simpa using hcs')⟩
    exact this
end
end Go.Proofs.Ytiaddnmloonhgaa

/- What rime/rimelaw12.works comes to. MADE BY PROGRAM (wip/tools/mkfn.py, EngGen.lean). -/
namespace Go.Proofs.Ytiaddnmloonhgaa
open Go Go.Eng
set_option maxRecDepth 100000
set_option linter.unusedVariables false

def f23_raw {R : Type} (N : Nat)  (k : List DV → Option R) : Option R :=
 let v0 : List Int := (Go.Eng.zerosOf (1 * 1)).set 0 97;
let v1 : List Int := (Go.Eng.zerosOf (4 * 1)).set 0 116;
let v2 : List Int := v1.set 1 101;
let v3 : List Int := v2.set 2 120;
let v4 : List Int := v3.set 3 116;
let v5 : Bool := bif Go.Eng.nI (Go.Eng.rowLen 1 (Go.Proofs.Ytiaddnmloonhgaa.sealL (List.replicate 32 0) (List.replicate 12 0) v0 v4)) == 20 then (Go.Proofs.Ytiaddnmloonhgaa.openL (List.replicate 32 0) (List.replicate 12 0) v0 (Go.Proofs.Ytiaddnmloonhgaa.sealL (List.replicate 32 0) (List.replicate 12 0) v0 v4)).snd == 0 else Bool.false;
let v6 : Bool := bif v5 then (Go.Eng.mkBytes (Go.Proofs.Ytiaddnmloonhgaa.openL (List.replicate 32 0) (List.replicate 12 0) v0 (Go.Proofs.Ytiaddnmloonhgaa.sealL (List.replicate 32 0) (List.replicate 12 0) v0 v4)).fst).toList == (ByteArray.mk #[116, 101, 120, 116]).toList else Bool.false;
let v7 : List Int := (Go.Eng.zerosOf (1 * 1)).set 0 98;
let v8 : Bool := bif v6 then (Go.Proofs.Ytiaddnmloonhgaa.openL (List.replicate 32 0) (List.replicate 12 0) v7 (Go.Proofs.Ytiaddnmloonhgaa.sealL (List.replicate 32 0) (List.replicate 12 0) v0 v4)).snd == 121 else Bool.false;
k [Go.Eng.DV.v (Go.Eng.SV.one (Go.Eng.At.bool v8))]


noncomputable def E23 (N : Nat) : Env := { Θ := Th, Γ := G23, K := K23, ν := N23, fuel := 0, lp := [] }


theorem f23_contract (N : Nat) (hΓ : CtxOk Try.prog G23) : Contract Try.prog 23 { sig := S23, impl := fun _ ds k => call (E23 N) S23 51 B23 R23 ds k } :=
  call_contract (E := E23 N) thOk hΓ mixed ok23.look ok23.body ok23.n ok23.rv rfl (by decide) (loopsOk_of (l := []) (by kernel_rfl) trivial)
theorem f23_raw_eq {R : Type} (N : Nat)  (k : List DV → Option R) : call (E23 N) S23 51 B23 R23 [] k = f23_raw N  k := by kernel_rfl
end Go.Proofs.Ytiaddnmloonhgaa

/- A text sealed is opened; with a bit turned it is not. -/
namespace Go.Proofs.Ytiaddnmloonhgaa
open Go Go.Eng
set_option maxRecDepth 100000

def z32 : List Int := List.replicate 32 0
def z12 : List Int := List.replicate 12 0
def textB : List Int := [116, 101, 120, 116]

theorem tag_unlike : (tagL z32 z12 [98] (streamL z32 1 z12 textB) == tagL z32 z12 [97] (streamL z32 1 z12 textB)) = false := by decide +kernel

theorem textB_bytes : Bytes textB := by
  intro x hx
  simp only [textB, List.mem_cons, List.not_mem_nil, or_false] at hx
  omega

theorem open_other : openL z32 z12 [98] (sealL z32 z12 [97] textB) = ([], 121) := by
  have hl : (streamL z32 1 z12 textB).length = 4 := streamL_length _ _ _ _
  unfold openL
  rw [sealL_length]
  rw [if_neg (show ¬ textB.length + 16 < 16 by decide)]
  rw [sealL_eq]
  rw [show textB.length + 16 - 16 = 4 from rfl, List.take_left' hl, List.drop_left' hl, List.take_of_length_le (by rw [tagL_length]; omega), if_neg]
  intro h
  have := tag_unlike
  rw [h] at this
  simp at this

theorem works_true {R : Type} (k : List DV → Option R) : f23_raw 0 k = k [.v (.one (.bool true))] := by
  have e1 := open_seal z32 z12 [97] textB_bytes
  have e2 := open_other
  have e3 := sealL_length z32 z12 [97] textB
  unfold f23_raw
  simp only []
  rw [show (zerosOf (1 * 1)).set 0 97 = [97] from rfl, show (zerosOf (1 * 1)).set 0 98 = [98] from rfl, show ((((zerosOf (4 * 1)).set 0 116).set 1 101).set 2 120).set 3 116 = textB from rfl]
  rw [show (List.replicate 32 0 : List Int) = z32 from rfl, show (List.replicate 12 0 : List Int) = z12 from rfl]
  rw [e1, e2, rowLen_one, e3]
  rw [show mkBytes (textB, (0 : Int)).fst = ByteArray.mk #[116, 101, 120, 116] from rfl]
  rw [show ((ByteArray.mk #[116, 101, 120, 116]).toList == (ByteArray.mk #[116, 101, 120, 116]).toList) = true from beq_self_eq_true _]
  rfl

theorem c23 : Contract Try.prog 23 { sig := S23, impl := I23 } := by
  refine Contract.refine fun R ds k r h => ⟨_, f23_contract 0 G23_ok, ?_⟩
  unfold I23 at h
  split at h
  · rw [f23_raw_eq, works_true]; exact h
  · cases h

theorem G6_ok : CtxOk Try.prog G6 := ctxOk_cons ok16 rfl c16 (ctxOk_cons ok20 rfl c20 (ctxOk_cons ok23 rfl c23 (ctxOk_cons ok24 rfl c24 (ctxOk_cons ok26 rfl c26 (ctxOk_cons ok28 rfl c28 (ctxOk_cons ok18 rfl c18 (ctxOk_cons ok30 rfl c30 ctxOk_nil)))))))
end Go.Proofs.Ytiaddnmloonhgaa

/- Blocks and streams: lengths, bytes, how streams go on. -/
namespace Go.Proofs.Ytiaddnmloonhgaa
open Go Go.Eng
set_option maxRecDepth 100000

theorem wrapU8_byte (n : Int) : 0 ≤ IntKind.u8.wrap n ∧ IntKind.u8.wrap n < 256 := by
  unfold IntKind.wrap
  simp only [IntKind.bits, IntKind.signed]
  have h1 := Int.emod_nonneg n (show (2 : Int) ^ 8 ≠ 0 by decide)
  have h2 := Int.emod_lt_of_pos n (show (0 : Int) < 2 ^ 8 by decide)
  simp only [Bool.false_and, Bool.false_eq_true, if_false]
  omega

theorem wrapU32_range (n : Int) : 0 ≤ IntKind.u32.wrap n ∧ IntKind.u32.wrap n < 4294967296 := by
  unfold IntKind.wrap
  simp only [IntKind.bits, IntKind.signed]
  have h1 := Int.emod_nonneg n (show (2 : Int) ^ 32 ≠ 0 by decide)
  have h2 := Int.emod_lt_of_pos n (show (0 : Int) < 2 ^ 32 by decide)
  simp only [Bool.false_and, Bool.false_eq_true, if_false]
  omega

def outF (t s : List Int) : List Int := ((List.range 16).map fun i => bytesL (IntKind.u64.wrap (IntKind.u32.wrap (t.getD i 0 + s.getD i 0))) 4).flatten

theorem outL_eq (t s : List Int) : outL t s = outF t s := by kernel_rfl

theorem bytesGo_bytes (n : Int) : ∀ (m i : Nat), Bytes (bytesGo n m i)
  | 0, _ => by intro x hx; cases hx
  | m + 1, i => by
    intro x hx
    rcases List.mem_cons.1 hx with e | hx
    · subst e; exact wrapU8_byte _
    · exact bytesGo_bytes n m (i + 1) x hx

theorem blockL_length (key : List Int) (c : Int) (nonce : List Int) : (blockL key c nonce).length = 64 := by
  unfold blockL; rw [outL_eq]; kernel_rfl

theorem block_bytes (key : List Int) (c : Int) (nonce : List Int) : Bytes (blockL key c nonce) := by
  unfold blockL; rw [outL_eq]
  intro x hx
  simp only [outF, List.mem_flatten, List.mem_map] at hx
  obtain ⟨l, ⟨i, _, rfl⟩, hx⟩ := hx
  exact bytesGo_bytes _ _ _ x hx

theorem bytes_getD {l : List Int} (h : Bytes l) (i : Nat) : 0 ≤ l.getD i 0 ∧ l.getD i 0 < 256 := by
  rw [List.getD_eq_getElem?_getD]
  cases hx : l[i]? with
  | none => simp
  | some x => exact h x (List.mem_of_getElem? hx)

theorem maskAt_byte (key : List Int) (c : Nat) (nonce : List Int) (i : Nat) : 0 ≤ maskAt key c nonce i ∧ maskAt key c nonce i < 256 := bytes_getD (block_bytes _ _ _) _

theorem maskL_append (f : Nat → Int) (a b : List Int) : maskL f (a ++ b) = maskL f a ++ maskL (fun i => f (a.length + i)) b := by
  unfold maskL
  rw [List.mapIdx_append]
  congr 1
  apply List.ext_getElem?
  intro i
  simp [Nat.add_comm]

theorem maskAt_add (key : List Int) (c q : Nat) (nonce : List Int) (i : Nat) : maskAt key c nonce (64 * q + i) = maskAt key (c + q) nonce i := by
  unfold maskAt
  rw [show c + (64 * q + i) / 64 = c + q + i / 64 by omega, show (64 * q + i) % 64 = i % 64 by omega]

theorem stream_append (key : List Int) (c q : Nat) (nonce a b : List Int) (h : a.length = 64 * q) : streamL key c nonce (a ++ b) = streamL key c nonce a ++ streamL key (c + q) nonce b := by
  unfold streamL
  have e : (fun i => maskAt key c nonce (a.length + i)) = maskAt key (c + q) nonce := funext fun i => by rw [h, maskAt_add]
  rw [maskL_append, e]

theorem xor8_zero {y : Int} (h0 : 0 ≤ y) (h : y < 256) : xorI .u8 0 y = y := by
  rw [xor8_eq]
  rw [show BitVec.ofInt 8 0 = 0#8 from rfl, BitVec.zero_xor, BitVec.toNat_ofInt]
  omega

theorem mask_of {f : Nat → Int} {l : List Int} (hl : l.length = 64) (hb : Bytes l) (h : ∀ i, i < 64 → f i = l.getD i 0) : maskL f (List.replicate 64 0) = l := by
  apply List.ext_getElem?
  intro i
  unfold maskL
  rw [List.getElem?_mapIdx, List.getElem?_replicate]
  by_cases hi : i < 64
  · rw [if_pos hi, List.getElem?_eq_getElem (by omega)]
    simp only [Option.map_some]
    obtain ⟨m1, m2⟩ := bytes_getD hb i
    rw [h i hi, xor8_zero m1 m2, List.getD_eq_getElem?_getD, List.getElem?_eq_getElem (by omega), Option.getD_some]
  · rw [if_neg hi, List.getElem?_eq_none (by omega), Option.map_none]

theorem stream_zeros (key : List Int) (c : Nat) (nonce : List Int) : streamL key c nonce (List.replicate 64 0) = blockL key c nonce := by
  unfold streamL
  refine mask_of (blockL_length _ _ _) (block_bytes _ _ _) fun i hi => ?_
  unfold maskAt
  rw [show c + i / 64 = c by omega, show i % 64 = i by omega]

/-- a mask lets by no more than itself -/
theorem andI_le {k : IntKind} {m : Nat} (hm : (m : Int) < 2 ^ (k.bits - 1)) (x : Int) : ∃ n : Nat, andI k x m = (n : Int) ∧ n ≤ m := by
  refine ⟨(BitVec.ofInt k.bits x &&& BitVec.ofInt k.bits (m : Int)).toNat, ?_, ?_⟩
  · have h1 : (BitVec.ofInt k.bits x &&& BitVec.ofInt k.bits (m : Int)).toNat ≤ (BitVec.ofInt k.bits (m : Int)).toNat := by rw [BitVec.toNat_and]; exact Nat.and_le_right
    have h2 : (BitVec.ofInt k.bits (m : Int)).toNat ≤ m := by
      rw [BitVec.ofInt_natCast, BitVec.toNat_ofNat]; exact Nat.mod_le _ _
    unfold andI
    generalize (BitVec.ofInt k.bits x &&& BitVec.ofInt k.bits (m : Int)).toNat = z at h1 ⊢
    have hz : (z : Int) < 2 ^ (k.bits - 1) := by omega
    cases k <;> simp [IntKind.wrap, IntKind.bits, IntKind.signed] at hz ⊢ <;> omega
  · rw [BitVec.toNat_and]
    refine Nat.le_trans Nat.and_le_right ?_
    rw [BitVec.ofInt_natCast, BitVec.toNat_ofNat]; exact Nat.mod_le _ _
end Go.Proofs.Ytiaddnmloonhgaa

/- What rime/rimelaw12.eight comes to. MADE BY PROGRAM (wip/tools/mkfn.py, EngGen.lean). -/
namespace Go.Proofs.Ytiaddnmloonhgaa
open Go Go.Eng
set_option maxRecDepth 100000
set_option linter.unusedVariables false

def f31_0_sh : Shp := { n := 19, lo := 1, slots := [(0, .one (.int IntKind.i64)), (3, .one (.fix (At.own 1000003))), (4, .one (.int IntKind.i64))], items := [(1000003, .row IntKind.u8 1)] }
def f31_0_ex1 : Shp := { n := 19, lo := 1, slots := [(6, .one (.bool)), (0, .one (.int IntKind.i64)), (3, .one (.fix (At.own 1000003))), (4, .one (.int IntKind.i64))], items := [(1000003, .row IntKind.u8 1)] }
def f31_0_st {R : Type} (N : Nat) (self : Int → Int → List Int → Option R) (k1 : Bool → Int → Int → List Int → Option R) (x1 : Int) (x2 : Int) (x3 : List Int) : Option R :=
 bif Decidable.decide (x2 < 8) then
 let v0 : Int := IntKind.i64.wrap (8 * x2);
 let v1 : Int := IntKind.u64.wrap v0;
 bif Decidable.decide (0 ≤ v1) then
 let v2 : Int := shrI IntKind.i64 x1 v1;
 let v3 : Int := IntKind.u8.wrap v2;
 let v4 : List Int := (zerosOf (1 * 1)).set 0 v3;
 bif ((2 * (rowLen 1 x3 + rowLen 1 v4) + 192) * 1).ble big48 && (rowLen 1 x3 + rowLen 1 v4).ble big48 then
 let v5 : Int := IntKind.i64.wrap (x2 + 1);
 let v6 : List Int := x3 ++ v4;
 self x1 v5 v6
 else Option.none
 else Option.none
else k1 (Decidable.decide (x2 < 8)) x1 x2 x3
def f31_0_lp {R : Type} (N : Nat) (k1 : Bool → Int → Int → List Int → Option R) : Nat → Int → Int → List Int → Option R
 | 0, _, _, _ => none
 | n + 1, x1, x2, x3 => f31_0_st N (f31_0_lp N k1 n) k1 x1 x2 x3
def f31_0_F (N : Nat) : (R : Type) → List Leaf → (X → AS → Option R) → Option R := fun _ ls K => match ls with
 | [.i x1, .i x2, .l x3] => f31_0_lp N (fun y1 y2 y3 y4 => K (X.normal) (fill f31_0_ex1 [.b y1, .i y2, .i y3, .l y4])) N x1 x2 x3
 | _ => none
def f31_raw {R : Type} (N : Nat) (n : Int) (k : List DV → Option R) : Option R :=
 f31_0_lp N (fun w0_1 w0_2 w0_3 w0_4 => k [DV.lst IntKind.u8 1 w0_4]) N n 0 []


noncomputable def E31 (N : Nat) : Env := { Θ := Th, Γ := [], K := K31, ν := N31, fuel := 0, lp := [(0, mkL N31_0 f31_0_sh (f31_0_F N))] }

theorem f31_0_st_eq {R : Type} (N : Nat) (K : X → AS → Option R) (n : Nat) (x1 : Int) (x2 : Int) (x3 : List Int) : roundsOf (E31 N) N31_0 0 B31_0 K (n + 1) (fill f31_0_sh [.i x1, .i x2, .l x3]) = f31_0_st N (fun x1 x2 x3 => roundsOf (E31 N) N31_0 0 B31_0 K n (fill f31_0_sh [.i x1, .i x2, .l x3])) (fun y1 y2 y3 y4 => K (X.normal) (fill f31_0_ex1 [.b y1, .i y2, .i y3, .l y4])) x1 x2 x3 := by kernel_rfl
theorem f31_0_lp_eq {R : Type} (N : Nat) (K : X → AS → Option R) : ∀ (n : Nat) (x1 : Int) (x2 : Int) (x3 : List Int), roundsOf (E31 N) N31_0 0 B31_0 K n (fill f31_0_sh [.i x1, .i x2, .l x3]) = f31_0_lp N (fun y1 y2 y3 y4 => K (X.normal) (fill f31_0_ex1 [.b y1, .i y2, .i y3, .l y4])) n x1 x2 x3
  | 0, _, _, _ => rfl
  | n + 1, x1, x2, x3 => by
    rw [f31_0_st_eq, f31_0_lp, show (fun x1 x2 x3 => roundsOf (E31 N) N31_0 0 B31_0 K n (fill f31_0_sh [.i x1, .i x2, .l x3])) = f31_0_lp N (fun y1 y2 y3 y4 => K (X.normal) (fill f31_0_ex1 [.b y1, .i y2, .i y3, .l y4])) n from by funext x1 x2 x3; exact f31_0_lp_eq N K n x1 x2 x3]
theorem f31_0_ok (N : Nat) (hlp : LoopsOk Try.prog (E31 N).lp B31_0) (hΓ : CtxOk Try.prog (E31 N).Γ) : LoopOk Try.prog (mkL N31_0 f31_0_sh (f31_0_F N)) 0 B31_0 := by
  refine loopOk_of (E := E31 N) thOk hΓ mixed hlp ?_
  intro R ls K r h
  unfold f31_0_F at h
  split at h
  · exact ⟨N, by rw [f31_0_lp_eq]; exact h⟩
  · cases h

theorem lok31_0 (N : Nat) (hΓ : CtxOk Try.prog []) : LoopOk Try.prog (mkL N31_0 f31_0_sh (f31_0_F N)) 0 B31_0 := f31_0_ok N (loopsOk_of (l := []) (by kernel_rfl) trivial) hΓ
theorem f31_contract (N : Nat) (hΓ : CtxOk Try.prog []) : Contract Try.prog 31 { sig := S31, impl := fun _ ds k => call (E31 N) S31 19 B31 R31 ds k } :=
  call_contract (E := E31 N) thOk hΓ mixed ok31.look ok31.body ok31.n ok31.rv rfl (by decide) (loopsOk_of (l := [(0, B31_0)]) (by kernel_rfl) (allOk_cons (L := mkL N31_0 f31_0_sh (f31_0_F N)) rfl (lok31_0 N hΓ) trivial))
theorem f31_raw_eq {R : Type} (N : Nat) (n : Int) (k : List DV → Option R) : call (E31 N) S31 19 B31 R31 [.v (.one (.int .i64 n))] k = f31_raw N n k := by kernel_rfl
end Go.Proofs.Ytiaddnmloonhgaa

/- A number in eight bytes. -/
namespace Go.Proofs.Ytiaddnmloonhgaa
open Go Go.Eng
set_option maxRecDepth 100000

theorem f31_spec {R : Type} (n : Int) (k : List DV → Option R) : f31_raw 9 n k = k [.lst .u8 1 (bytesL n 8)] := by kernel_rfl

def I31 : (R : Type) → List DV → (List DV → Option R) → Option R := fun _ ds k => match ds with
  | [.v (.one (.int .i64 n))] => k [.lst .u8 1 (bytesL n 8)]
  | _ => none

theorem c31 : Contract Try.prog 31 { sig := S31, impl := I31 } := by
  refine Contract.refine fun R ds k r h => ⟨_, f31_contract 9 ctxOk_nil, ?_⟩
  unfold I31 at h
  split at h
  · rw [f31_raw_eq, f31_spec]; exact h
  · cases h

def G8 : Ctx := (31, { sig := S31, impl := I31 }) :: G6
theorem G8_ok : CtxOk Try.prog G8 := ctxOk_cons ok31 rfl c31 G6_ok
end Go.Proofs.Ytiaddnmloonhgaa

/- What rime/rimelaw12.SealTurned comes to. MADE BY PROGRAM (wip/tools/mkfn.py, EngGen.lean). -/
namespace Go.Proofs.Ytiaddnmloonhgaa
open Go Go.Eng
set_option maxRecDepth 100000
set_option linter.unusedVariables false

def f8_raw {R : Type} (N : Nat) (key : List Int) (nonce : List Int) (op : List Int) (text : List Int) (other : List Int) (at_ : Int) (by_ : Int) (k : List DV → Option R) : Option R :=
 bif op.length.ble lim5 && text.length.ble lim5 then
 bif op.length.ble lim then
 let v0 : Int := IntKind.i64.wrap (nI (rowLen 1 (sealL key nonce op text)) + nI (rowLen 1 op));
 let v1 : Int := IntKind.i64.wrap (v0 + 44);
 bif !Decidable.decide (v1 = 0) then
 bif Decidable.decide (at_.tmod v1 < 0) then
 let v2 : Int := IntKind.i64.wrap (at_.tmod v1 + v1);
 bif Decidable.decide (v2 < nI (rowLen 1 (sealL key nonce op text))) then
 bif Decidable.decide (0 ≤ v2) && Decidable.decide (v2 < nI (rowLen 1 (sealL key nonce op text))) then
 bif Decidable.decide (0 ≤ v2) && Decidable.decide (v2 < nI (rowLen 1 (sealL key nonce op text))) then
 let v3 : Int := xorI IntKind.u8 ((sealL key nonce op text).getD (mulE v2.toNat 1) 0) by_;
 let v4 : List Int := (sealL key nonce op text).set (mulE v2.toNat 1) v3;
 bif op.length.ble lim5 && v4.length.ble lim5 then
 bif by_ == 0 then
 bif (openL key nonce op v4).snd == 0 then
 bif (openL key nonce op v4).fst.length.ble lim then
 let v5 : Bool := bif Bool.true then Decidable.decide ((openL key nonce op v4).fst = text) else Bool.false;
 k [DV.v (SV.one (At.bool v5))]
 else Option.none
 else k [DV.v (SV.one (At.bool Bool.false))]
 else
 bif Decidable.decide (nI (rowLen 1 v4) < 16) then k [DV.v (SV.one (At.bool Bool.false))]
 else
 bif (rowLen 1 op * 1).ble big48 && (rowLen 1 op).ble big48 then
 let v6 : Int := IntKind.i64.wrap (16 - (nI (rowLen 1 op)).tmod 16);
 bif okCnt 1 (Option.some (v6.tmod 16)) then
 bif ((2 * (rowLen 1 op + rowLen 1 (zerosOf (mulE (v6.tmod 16).toNat 1))) + 192) * 1).ble big48 && (rowLen 1 op + rowLen 1 (zerosOf (mulE (v6.tmod 16).toNat 1))).ble big48 then
 let v7 : Int := IntKind.i64.wrap (nI (rowLen 1 v4) - 16);
 bif hiOk (Option.some v7) (rowLen 1 v4) then
 let v8 : List Int := op ++ zerosOf (mulE (v6.tmod 16).toNat 1);
 let v9 : List Int := Go.Eng.sub v4 (plusO Off.z 1 Option.none) (mulE (subN (hiNat (Option.some v7) (rowLen 1 v4)) Option.none) 1);
 bif ((2 * (rowLen 1 v8 + rowLen 1 v9) + 192) * 1).ble big48 && (rowLen 1 v8 + rowLen 1 v9).ble big48 then
 let v10 : Int := IntKind.i64.wrap (16 - v7.tmod 16);
 bif okCnt 1 (Option.some (v10.tmod 16)) then
 let v11 : List Int := v8 ++ v9;
 bif ((2 * (rowLen 1 v11 + rowLen 1 (zerosOf (mulE (v10.tmod 16).toNat 1))) + 192) * 1).ble big48 && (rowLen 1 v11 + rowLen 1 (zerosOf (mulE (v10.tmod 16).toNat 1))).ble big48 then
 let v12 : List Int := v11 ++ zerosOf (mulE (v10.tmod 16).toNat 1);
 bif ((2 * (rowLen 1 v12 + rowLen 1 (bytesL (nI (rowLen 1 op)) 8)) + 192) * 1).ble big48 && (rowLen 1 v12 + rowLen 1 (bytesL (nI (rowLen 1 op)) 8)).ble big48 then
 let v13 : List Int := v12 ++ bytesL (nI (rowLen 1 op)) 8;
 bif ((2 * (rowLen 1 v13 + rowLen 1 (bytesL v7 8)) + 192) * 1).ble big48 && (rowLen 1 v13 + rowLen 1 (bytesL v7 8)).ble big48 then
 let v14 : List Int := v13 ++ bytesL v7 8;
 bif v14.length.ble lim then
 bif loOk (Option.some v7) (hiInt Option.none (rowLen 1 v4)) then
 let v15 : List Int := Go.Eng.sub (blockL key 0 nonce) (plusO Off.z 1 Option.none) (mulE (subN (hiNat (Option.some 32) 64) Option.none) 1);
 let v16 : Nat := Min.min (rowLen 1 v15) (subN (hiNat Option.none 32) Option.none);
 let v17 : List Int := splice (List.replicate 32 0) (plusO Off.z 1 Option.none) (List.take (mulE v16 1) v15);
 let v18 : List Int := Go.Eng.sub (macL v17 v14) (plusO Off.z 1 Option.none) (mulE (subN (hiNat Option.none 16) Option.none) 1);
 let v19 : List Int := Go.Eng.sub v4 (plusO Off.z 1 (Option.some v7)) (mulE (subN (hiNat Option.none (rowLen 1 v4)) (Option.some v7)) 1);
 bif ((openL key nonce op v4).snd == 0) == Decidable.decide (v18 = v19) then
 bif (openL key nonce op v4).snd == 0 then
 let v20 : Bool := bif Bool.true then Bool.true else Bool.false;
 k [DV.v (SV.one (At.bool v20))]
 else
 bif (openL key nonce op v4).snd == 121 then
 let v21 : Bool := bif Bool.true then nI (rowLen 1 (openL key nonce op v4).fst) == 0 else Bool.false;
 let v22 : Bool := bif Bool.false then Bool.true else v21;
 let v23 : Bool := bif Bool.true then v22 else Bool.false;
 k [DV.v (SV.one (At.bool v23))]
 else
 let v24 : Bool := bif Bool.false then Bool.true else Bool.false;
 let v25 : Bool := bif Bool.true then v24 else Bool.false;
 k [DV.v (SV.one (At.bool v25))]
 else k [DV.v (SV.one (At.bool Bool.false))]
 else Option.none
 else Option.none
 else Option.none
 else Option.none
 else Option.none
 else Option.none
 else Option.none
 else Option.none
 else Option.none
 else Option.none
 else Option.none
 else Option.none
 else Option.none
 else Option.none
 else
 bif Decidable.decide (v2 < v0) then
 let v26 : Int := IntKind.i64.wrap (v2 - nI (rowLen 1 (sealL key nonce op text)));
 bif Decidable.decide (0 ≤ v26) && Decidable.decide (v26 < nI (rowLen 1 op)) then
 bif Decidable.decide (0 ≤ v26) && Decidable.decide (v26 < nI (rowLen 1 op)) then
 let v27 : Int := xorI IntKind.u8 (op.getD (mulE v26.toNat 1) 0) by_;
 let v28 : List Int := op.set (mulE v26.toNat 1) v27;
 bif v28.length.ble lim5 && (sealL key nonce op text).length.ble lim5 then
 bif by_ == 0 then
 bif (openL key nonce v28 (sealL key nonce op text)).snd == 0 then
 bif (openL key nonce v28 (sealL key nonce op text)).fst.length.ble lim then
 let v29 : Bool := bif Bool.true then Decidable.decide ((openL key nonce v28 (sealL key nonce op text)).fst = text) else Bool.false;
 k [DV.v (SV.one (At.bool v29))]
 else Option.none
 else k [DV.v (SV.one (At.bool Bool.false))]
 else
 bif Decidable.decide (nI (rowLen 1 (sealL key nonce op text)) < 16) then k [DV.v (SV.one (At.bool Bool.false))]
 else
 bif (rowLen 1 v28 * 1).ble big48 && (rowLen 1 v28).ble big48 then
 let v30 : Int := IntKind.i64.wrap (16 - (nI (rowLen 1 v28)).tmod 16);
 bif okCnt 1 (Option.some (v30.tmod 16)) then
 bif ((2 * (rowLen 1 v28 + rowLen 1 (zerosOf (mulE (v30.tmod 16).toNat 1))) + 192) * 1).ble big48 && (rowLen 1 v28 + rowLen 1 (zerosOf (mulE (v30.tmod 16).toNat 1))).ble big48 then
 let v31 : Int := IntKind.i64.wrap (nI (rowLen 1 (sealL key nonce op text)) - 16);
 bif hiOk (Option.some v31) (rowLen 1 (sealL key nonce op text)) then
 let v32 : List Int := v28 ++ zerosOf (mulE (v30.tmod 16).toNat 1);
 let v33 : List Int := Go.Eng.sub (sealL key nonce op text) (plusO Off.z 1 Option.none) (mulE (subN (hiNat (Option.some v31) (rowLen 1 (sealL key nonce op text))) Option.none) 1);
 bif ((2 * (rowLen 1 v32 + rowLen 1 v33) + 192) * 1).ble big48 && (rowLen 1 v32 + rowLen 1 v33).ble big48 then
 let v34 : Int := IntKind.i64.wrap (16 - v31.tmod 16);
 bif okCnt 1 (Option.some (v34.tmod 16)) then
 let v35 : List Int := v32 ++ v33;
 bif ((2 * (rowLen 1 v35 + rowLen 1 (zerosOf (mulE (v34.tmod 16).toNat 1))) + 192) * 1).ble big48 && (rowLen 1 v35 + rowLen 1 (zerosOf (mulE (v34.tmod 16).toNat 1))).ble big48 then
 let v36 : List Int := v35 ++ zerosOf (mulE (v34.tmod 16).toNat 1);
 bif ((2 * (rowLen 1 v36 + rowLen 1 (bytesL (nI (rowLen 1 v28)) 8)) + 192) * 1).ble big48 && (rowLen 1 v36 + rowLen 1 (bytesL (nI (rowLen 1 v28)) 8)).ble big48 then
 let v37 : List Int := v36 ++ bytesL (nI (rowLen 1 v28)) 8;
 bif ((2 * (rowLen 1 v37 + rowLen 1 (bytesL v31 8)) + 192) * 1).ble big48 && (rowLen 1 v37 + rowLen 1 (bytesL v31 8)).ble big48 then
 let v38 : List Int := v37 ++ bytesL v31 8;
 bif v38.length.ble lim then
 bif loOk (Option.some v31) (hiInt Option.none (rowLen 1 (sealL key nonce op text))) then
 let v39 : List Int := Go.Eng.sub (blockL key 0 nonce) (plusO Off.z 1 Option.none) (mulE (subN (hiNat (Option.some 32) 64) Option.none) 1);
 let v40 : Nat := Min.min (rowLen 1 v39) (subN (hiNat Option.none 32) Option.none);
 let v41 : List Int := splice (List.replicate 32 0) (plusO Off.z 1 Option.none) (List.take (mulE v40 1) v39);
 let v42 : List Int := Go.Eng.sub (macL v41 v38) (plusO Off.z 1 Option.none) (mulE (subN (hiNat Option.none 16) Option.none) 1);
 let v43 : List Int := Go.Eng.sub (sealL key nonce op text) (plusO Off.z 1 (Option.some v31)) (mulE (subN (hiNat Option.none (rowLen 1 (sealL key nonce op text))) (Option.some v31)) 1);
 bif ((openL key nonce v28 (sealL key nonce op text)).snd == 0) == Decidable.decide (v42 = v43) then
 bif (openL key nonce v28 (sealL key nonce op text)).snd == 0 then
 let v44 : Bool := bif Bool.true then Bool.true else Bool.false;
 k [DV.v (SV.one (At.bool v44))]
 else
 bif (openL key nonce v28 (sealL key nonce op text)).snd == 121 then
 let v45 : Bool := bif Bool.true then nI (rowLen 1 (openL key nonce v28 (sealL key nonce op text)).fst) == 0 else Bool.false;
 let v46 : Bool := bif Bool.false then Bool.true else v45;
 let v47 : Bool := bif Bool.true then v46 else Bool.false;
 k [DV.v (SV.one (At.bool v47))]
 else
 let v48 : Bool := bif Bool.false then Bool.true else Bool.false;
 let v49 : Bool := bif Bool.true then v48 else Bool.false;
 k [DV.v (SV.one (At.bool v49))]
 else k [DV.v (SV.one (At.bool Bool.false))]
 else Option.none
 else Option.none
 else Option.none
 else Option.none
 else Option.none
 else Option.none
 else Option.none
 else Option.none
 else Option.none
 else Option.none
 else Option.none
 else Option.none
 else Option.none
 else Option.none
 else
 let v50 : Int := IntKind.i64.wrap (v0 + 32);
 bif Decidable.decide (v2 < v50) then
 let v51 : Int := IntKind.i64.wrap (v2 - nI (rowLen 1 (sealL key nonce op text)));
 let v52 : Int := IntKind.i64.wrap (v51 - nI (rowLen 1 op));
 bif Decidable.decide (0 ≤ v52) && Decidable.decide (v52 < 32) then
 bif Decidable.decide (0 ≤ v52) && Decidable.decide (v52 < 32) then
 bif op.length.ble lim5 && (sealL key nonce op text).length.ble lim5 then
 bif by_ == 0 then
 let v53 : Int := xorI IntKind.u8 (key.getD (mulE v52.toNat 1) 0) by_;
 let v54 : List Int := key.set (mulE v52.toNat 1) v53;
 bif (openL v54 nonce op (sealL key nonce op text)).snd == 0 then
 bif (openL v54 nonce op (sealL key nonce op text)).fst.length.ble lim then
 let v55 : Bool := bif Bool.true then Decidable.decide ((openL v54 nonce op (sealL key nonce op text)).fst = text) else Bool.false;
 k [DV.v (SV.one (At.bool v55))]
 else Option.none
 else k [DV.v (SV.one (At.bool Bool.false))]
 else
 bif Decidable.decide (nI (rowLen 1 (sealL key nonce op text)) < 16) then k [DV.v (SV.one (At.bool Bool.false))]
 else
 bif (rowLen 1 op * 1).ble big48 && (rowLen 1 op).ble big48 then
 let v56 : Int := IntKind.i64.wrap (16 - (nI (rowLen 1 op)).tmod 16);
 bif okCnt 1 (Option.some (v56.tmod 16)) then
 bif ((2 * (rowLen 1 op + rowLen 1 (zerosOf (mulE (v56.tmod 16).toNat 1))) + 192) * 1).ble big48 && (rowLen 1 op + rowLen 1 (zerosOf (mulE (v56.tmod 16).toNat 1))).ble big48 then
 let v57 : Int := IntKind.i64.wrap (nI (rowLen 1 (sealL key nonce op text)) - 16);
 bif hiOk (Option.some v57) (rowLen 1 (sealL key nonce op text)) then
 let v58 : List Int := op ++ zerosOf (mulE (v56.tmod 16).toNat 1);
 let v59 : List Int := Go.Eng.sub (sealL key nonce op text) (plusO Off.z 1 Option.none) (mulE (subN (hiNat (Option.some v57) (rowLen 1 (sealL key nonce op text))) Option.none) 1);
 bif ((2 * (rowLen 1 v58 + rowLen 1 v59) + 192) * 1).ble big48 && (rowLen 1 v58 + rowLen 1 v59).ble big48 then
 let v60 : Int := IntKind.i64.wrap (16 - v57.tmod 16);
 bif okCnt 1 (Option.some (v60.tmod 16)) then
 let v61 : List Int := v58 ++ v59;
 bif ((2 * (rowLen 1 v61 + rowLen 1 (zerosOf (mulE (v60.tmod 16).toNat 1))) + 192) * 1).ble big48 && (rowLen 1 v61 + rowLen 1 (zerosOf (mulE (v60.tmod 16).toNat 1))).ble big48 then
 let v62 : List Int := v61 ++ zerosOf (mulE (v60.tmod 16).toNat 1);
 bif ((2 * (rowLen 1 v62 + rowLen 1 (bytesL (nI (rowLen 1 op)) 8)) + 192) * 1).ble big48 && (rowLen 1 v62 + rowLen 1 (bytesL (nI (rowLen 1 op)) 8)).ble big48 then
 let v63 : List Int := v62 ++ bytesL (nI (rowLen 1 op)) 8;
 bif ((2 * (rowLen 1 v63 + rowLen 1 (bytesL v57 8)) + 192) * 1).ble big48 && (rowLen 1 v63 + rowLen 1 (bytesL v57 8)).ble big48 then
 let v64 : List Int := v63 ++ bytesL v57 8;
 bif v64.length.ble lim then
 bif loOk (Option.some v57) (hiInt Option.none (rowLen 1 (sealL key nonce op text))) then
 let v65 : Int := xorI IntKind.u8 (key.getD (mulE v52.toNat 1) 0) by_;
 let v66 : List Int := key.set (mulE v52.toNat 1) v65;
 let v67 : List Int := Go.Eng.sub (blockL v66 0 nonce) (plusO Off.z 1 Option.none) (mulE (subN (hiNat (Option.some 32) 64) Option.none) 1);
 let v68 : Nat := Min.min (rowLen 1 v67) (subN (hiNat Option.none 32) Option.none);
 let v69 : List Int := splice (List.replicate 32 0) (plusO Off.z 1 Option.none) (List.take (mulE v68 1) v67);
 let v70 : List Int := Go.Eng.sub (macL v69 v64) (plusO Off.z 1 Option.none) (mulE (subN (hiNat Option.none 16) Option.none) 1);
 let v71 : List Int := Go.Eng.sub (sealL key nonce op text) (plusO Off.z 1 (Option.some v57)) (mulE (subN (hiNat Option.none (rowLen 1 (sealL key nonce op text))) (Option.some v57)) 1);
 bif ((openL v66 nonce op (sealL key nonce op text)).snd == 0) == Decidable.decide (v70 = v71) then
 bif (openL v66 nonce op (sealL key nonce op text)).snd == 0 then
 let v72 : Bool := bif Bool.true then Bool.true else Bool.false;
 k [DV.v (SV.one (At.bool v72))]
 else
 bif (openL v66 nonce op (sealL key nonce op text)).snd == 121 then
 let v73 : Bool := bif Bool.true then nI (rowLen 1 (openL v66 nonce op (sealL key nonce op text)).fst) == 0 else Bool.false;
 let v74 : Bool := bif Bool.false then Bool.true else v73;
 let v75 : Bool := bif Bool.true then v74 else Bool.false;
 k [DV.v (SV.one (At.bool v75))]
 else
 let v76 : Bool := bif Bool.false then Bool.true else Bool.false;
 let v77 : Bool := bif Bool.true then v76 else Bool.false;
 k [DV.v (SV.one (At.bool v77))]
 else k [DV.v (SV.one (At.bool Bool.false))]
 else Option.none
 else Option.none
 else Option.none
 else Option.none
 else Option.none
 else Option.none
 else Option.none
 else Option.none
 else Option.none
 else Option.none
 else Option.none
 else Option.none
 else Option.none
 else Option.none
 else
 let v78 : Int := IntKind.i64.wrap (v2 - nI (rowLen 1 (sealL key nonce op text)));
 let v79 : Int := IntKind.i64.wrap (v78 - nI (rowLen 1 op));
 let v80 : Int := IntKind.i64.wrap (v79 - 32);
 bif Decidable.decide (0 ≤ v80) && Decidable.decide (v80 < 12) then
 bif Decidable.decide (0 ≤ v80) && Decidable.decide (v80 < 12) then
 bif op.length.ble lim5 && (sealL key nonce op text).length.ble lim5 then
 bif by_ == 0 then
 let v81 : Int := xorI IntKind.u8 (nonce.getD (mulE v80.toNat 1) 0) by_;
 let v82 : List Int := nonce.set (mulE v80.toNat 1) v81;
 bif (openL key v82 op (sealL key nonce op text)).snd == 0 then
 bif (openL key v82 op (sealL key nonce op text)).fst.length.ble lim then
 let v83 : Bool := bif Bool.true then Decidable.decide ((openL key v82 op (sealL key nonce op text)).fst = text) else Bool.false;
 k [DV.v (SV.one (At.bool v83))]
 else Option.none
 else k [DV.v (SV.one (At.bool Bool.false))]
 else
 bif Decidable.decide (nI (rowLen 1 (sealL key nonce op text)) < 16) then k [DV.v (SV.one (At.bool Bool.false))]
 else
 bif (rowLen 1 op * 1).ble big48 && (rowLen 1 op).ble big48 then
 let v84 : Int := IntKind.i64.wrap (16 - (nI (rowLen 1 op)).tmod 16);
 bif okCnt 1 (Option.some (v84.tmod 16)) then
 bif ((2 * (rowLen 1 op + rowLen 1 (zerosOf (mulE (v84.tmod 16).toNat 1))) + 192) * 1).ble big48 && (rowLen 1 op + rowLen 1 (zerosOf (mulE (v84.tmod 16).toNat 1))).ble big48 then
 let v85 : Int := IntKind.i64.wrap (nI (rowLen 1 (sealL key nonce op text)) - 16);
 bif hiOk (Option.some v85) (rowLen 1 (sealL key nonce op text)) then
 let v86 : List Int := op ++ zerosOf (mulE (v84.tmod 16).toNat 1);
 let v87 : List Int := Go.Eng.sub (sealL key nonce op text) (plusO Off.z 1 Option.none) (mulE (subN (hiNat (Option.some v85) (rowLen 1 (sealL key nonce op text))) Option.none) 1);
 bif ((2 * (rowLen 1 v86 + rowLen 1 v87) + 192) * 1).ble big48 && (rowLen 1 v86 + rowLen 1 v87).ble big48 then
 let v88 : Int := IntKind.i64.wrap (16 - v85.tmod 16);
 bif okCnt 1 (Option.some (v88.tmod 16)) then
 let v89 : List Int := v86 ++ v87;
 bif ((2 * (rowLen 1 v89 + rowLen 1 (zerosOf (mulE (v88.tmod 16).toNat 1))) + 192) * 1).ble big48 && (rowLen 1 v89 + rowLen 1 (zerosOf (mulE (v88.tmod 16).toNat 1))).ble big48 then
 let v90 : List Int := v89 ++ zerosOf (mulE (v88.tmod 16).toNat 1);
 bif ((2 * (rowLen 1 v90 + rowLen 1 (bytesL (nI (rowLen 1 op)) 8)) + 192) * 1).ble big48 && (rowLen 1 v90 + rowLen 1 (bytesL (nI (rowLen 1 op)) 8)).ble big48 then
 let v91 : List Int := v90 ++ bytesL (nI (rowLen 1 op)) 8;
 bif ((2 * (rowLen 1 v91 + rowLen 1 (bytesL v85 8)) + 192) * 1).ble big48 && (rowLen 1 v91 + rowLen 1 (bytesL v85 8)).ble big48 then
 let v92 : List Int := v91 ++ bytesL v85 8;
 bif v92.length.ble lim then
 bif loOk (Option.some v85) (hiInt Option.none (rowLen 1 (sealL key nonce op text))) then
 let v93 : Int := xorI IntKind.u8 (nonce.getD (mulE v80.toNat 1) 0) by_;
 let v94 : List Int := nonce.set (mulE v80.toNat 1) v93;
 let v95 : List Int := Go.Eng.sub (blockL key 0 v94) (plusO Off.z 1 Option.none) (mulE (subN (hiNat (Option.some 32) 64) Option.none) 1);
 let v96 : Nat := Min.min (rowLen 1 v95) (subN (hiNat Option.none 32) Option.none);
 let v97 : List Int := splice (List.replicate 32 0) (plusO Off.z 1 Option.none) (List.take (mulE v96 1) v95);
 let v98 : List Int := Go.Eng.sub (macL v97 v92) (plusO Off.z 1 Option.none) (mulE (subN (hiNat Option.none 16) Option.none) 1);
 let v99 : List Int := Go.Eng.sub (sealL key nonce op text) (plusO Off.z 1 (Option.some v85)) (mulE (subN (hiNat Option.none (rowLen 1 (sealL key nonce op text))) (Option.some v85)) 1);
 bif ((openL key v94 op (sealL key nonce op text)).snd == 0) == Decidable.decide (v98 = v99) then
 bif (openL key v94 op (sealL key nonce op text)).snd == 0 then
 let v100 : Bool := bif Bool.true then Bool.true else Bool.false;
 k [DV.v (SV.one (At.bool v100))]
 else
 bif (openL key v94 op (sealL key nonce op text)).snd == 121 then
 let v101 : Bool := bif Bool.true then nI (rowLen 1 (openL key v94 op (sealL key nonce op text)).fst) == 0 else Bool.false;
 let v102 : Bool := bif Bool.false then Bool.true else v101;
 let v103 : Bool := bif Bool.true then v102 else Bool.false;
 k [DV.v (SV.one (At.bool v103))]
 else
 let v104 : Bool := bif Bool.false then Bool.true else Bool.false;
 let v105 : Bool := bif Bool.true then v104 else Bool.false;
 k [DV.v (SV.one (At.bool v105))]
 else k [DV.v (SV.one (At.bool Bool.false))]
 else Option.none
 else Option.none
 else Option.none
 else Option.none
 else Option.none
 else Option.none
 else Option.none
 else Option.none
 else Option.none
 else Option.none
 else Option.none
 else Option.none
 else Option.none
 else Option.none
 else
 bif Decidable.decide (at_.tmod v1 < nI (rowLen 1 (sealL key nonce op text))) then
 bif Decidable.decide (0 ≤ at_.tmod v1) && Decidable.decide (at_.tmod v1 < nI (rowLen 1 (sealL key nonce op text))) then
 bif Decidable.decide (0 ≤ at_.tmod v1) && Decidable.decide (at_.tmod v1 < nI (rowLen 1 (sealL key nonce op text))) then
 let v106 : Int := xorI IntKind.u8 ((sealL key nonce op text).getD (mulE (at_.tmod v1).toNat 1) 0) by_;
 let v107 : List Int := (sealL key nonce op text).set (mulE (at_.tmod v1).toNat 1) v106;
 bif op.length.ble lim5 && v107.length.ble lim5 then
 bif by_ == 0 then
 bif (openL key nonce op v107).snd == 0 then
 bif (openL key nonce op v107).fst.length.ble lim then
 let v108 : Bool := bif Bool.true then Decidable.decide ((openL key nonce op v107).fst = text) else Bool.false;
 k [DV.v (SV.one (At.bool v108))]
 else Option.none
 else k [DV.v (SV.one (At.bool Bool.false))]
 else
 bif Decidable.decide (nI (rowLen 1 v107) < 16) then k [DV.v (SV.one (At.bool Bool.false))]
 else
 bif (rowLen 1 op * 1).ble big48 && (rowLen 1 op).ble big48 then
 let v109 : Int := IntKind.i64.wrap (16 - (nI (rowLen 1 op)).tmod 16);
 bif okCnt 1 (Option.some (v109.tmod 16)) then
 bif ((2 * (rowLen 1 op + rowLen 1 (zerosOf (mulE (v109.tmod 16).toNat 1))) + 192) * 1).ble big48 && (rowLen 1 op + rowLen 1 (zerosOf (mulE (v109.tmod 16).toNat 1))).ble big48 then
 let v110 : Int := IntKind.i64.wrap (nI (rowLen 1 v107) - 16);
 bif hiOk (Option.some v110) (rowLen 1 v107) then
 let v111 : List Int := op ++ zerosOf (mulE (v109.tmod 16).toNat 1);
 let v112 : List Int := Go.Eng.sub v107 (plusO Off.z 1 Option.none) (mulE (subN (hiNat (Option.some v110) (rowLen 1 v107)) Option.none) 1);
 bif ((2 * (rowLen 1 v111 + rowLen 1 v112) + 192) * 1).ble big48 && (rowLen 1 v111 + rowLen 1 v112).ble big48 then
 let v113 : Int := IntKind.i64.wrap (16 - v110.tmod 16);
 bif okCnt 1 (Option.some (v113.tmod 16)) then
 let v114 : List Int := v111 ++ v112;
 bif ((2 * (rowLen 1 v114 + rowLen 1 (zerosOf (mulE (v113.tmod 16).toNat 1))) + 192) * 1).ble big48 && (rowLen 1 v114 + rowLen 1 (zerosOf (mulE (v113.tmod 16).toNat 1))).ble big48 then
 let v115 : List Int := v114 ++ zerosOf (mulE (v113.tmod 16).toNat 1);
 bif ((2 * (rowLen 1 v115 + rowLen 1 (bytesL (nI (rowLen 1 op)) 8)) + 192) * 1).ble big48 && (rowLen 1 v115 + rowLen 1 (bytesL (nI (rowLen 1 op)) 8)).ble big48 then
 let v116 : List Int := v115 ++ bytesL (nI (rowLen 1 op)) 8;
 bif ((2 * (rowLen 1 v116 + rowLen 1 (bytesL v110 8)) + 192) * 1).ble big48 && (rowLen 1 v116 + rowLen 1 (bytesL v110 8)).ble big48 then
 let v117 : List Int := v116 ++ bytesL v110 8;
 bif v117.length.ble lim then
 bif loOk (Option.some v110) (hiInt Option.none (rowLen 1 v107)) then
 let v118 : List Int := Go.Eng.sub (blockL key 0 nonce) (plusO Off.z 1 Option.none) (mulE (subN (hiNat (Option.some 32) 64) Option.none) 1);
 let v119 : Nat := Min.min (rowLen 1 v118) (subN (hiNat Option.none 32) Option.none);
 let v120 : List Int := splice (List.replicate 32 0) (plusO Off.z 1 Option.none) (List.take (mulE v119 1) v118);
 let v121 : List Int := Go.Eng.sub (macL v120 v117) (plusO Off.z 1 Option.none) (mulE (subN (hiNat Option.none 16) Option.none) 1);
 let v122 : List Int := Go.Eng.sub v107 (plusO Off.z 1 (Option.some v110)) (mulE (subN (hiNat Option.none (rowLen 1 v107)) (Option.some v110)) 1);
 bif ((openL key nonce op v107).snd == 0) == Decidable.decide (v121 = v122) then
 bif (openL key nonce op v107).snd == 0 then
 let v123 : Bool := bif Bool.true then Bool.true else Bool.false;
 k [DV.v (SV.one (At.bool v123))]
 else
 bif (openL key nonce op v107).snd == 121 then
 let v124 : Bool := bif Bool.true then nI (rowLen 1 (openL key nonce op v107).fst) == 0 else Bool.false;
 let v125 : Bool := bif Bool.false then Bool.true else v124;
 let v126 : Bool := bif Bool.true then v125 else Bool.false;
 k [DV.v (SV.one (At.bool v126))]
 else
 let v127 : Bool := bif Bool.false then Bool.true else Bool.false;
 let v128 : Bool := bif Bool.true then v127 else Bool.false;
 k [DV.v (SV.one (At.bool v128))]
 else k [DV.v (SV.one (At.bool Bool.false))]
 else Option.none
 else Option.none
 else Option.none
 else Option.none
 else Option.none
 else Option.none
 else Option.none
 else Option.none
 else Option.none
 else Option.none
 else Option.none
 else Option.none
 else Option.none
 else Option.none
 else
 bif Decidable.decide (at_.tmod v1 < v0) then
 let v129 : Int := IntKind.i64.wrap (at_.tmod v1 - nI (rowLen 1 (sealL key nonce op text)));
 bif Decidable.decide (0 ≤ v129) && Decidable.decide (v129 < nI (rowLen 1 op)) then
 bif Decidable.decide (0 ≤ v129) && Decidable.decide (v129 < nI (rowLen 1 op)) then
 let v130 : Int := xorI IntKind.u8 (op.getD (mulE v129.toNat 1) 0) by_;
 let v131 : List Int := op.set (mulE v129.toNat 1) v130;
 bif v131.length.ble lim5 && (sealL key nonce op text).length.ble lim5 then
 bif by_ == 0 then
 bif (openL key nonce v131 (sealL key nonce op text)).snd == 0 then
 bif (openL key nonce v131 (sealL key nonce op text)).fst.length.ble lim then
 let v132 : Bool := bif Bool.true then Decidable.decide ((openL key nonce v131 (sealL key nonce op text)).fst = text) else Bool.false;
 k [DV.v (SV.one (At.bool v132))]
 else Option.none
 else k [DV.v (SV.one (At.bool Bool.false))]
 else
 bif Decidable.decide (nI (rowLen 1 (sealL key nonce op text)) < 16) then k [DV.v (SV.one (At.bool Bool.false))]
 else
 bif (rowLen 1 v131 * 1).ble big48 && (rowLen 1 v131).ble big48 then
 let v133 : Int := IntKind.i64.wrap (16 - (nI (rowLen 1 v131)).tmod 16);
 bif okCnt 1 (Option.some (v133.tmod 16)) then
 bif ((2 * (rowLen 1 v131 + rowLen 1 (zerosOf (mulE (v133.tmod 16).toNat 1))) + 192) * 1).ble big48 && (rowLen 1 v131 + rowLen 1 (zerosOf (mulE (v133.tmod 16).toNat 1))).ble big48 then
 let v134 : Int := IntKind.i64.wrap (nI (rowLen 1 (sealL key nonce op text)) - 16);
 bif hiOk (Option.some v134) (rowLen 1 (sealL key nonce op text)) then
 let v135 : List Int := v131 ++ zerosOf (mulE (v133.tmod 16).toNat 1);
 let v136 : List Int := Go.Eng.sub (sealL key nonce op text) (plusO Off.z 1 Option.none) (mulE (subN (hiNat (Option.some v134) (rowLen 1 (sealL key nonce op text))) Option.none) 1);
 bif ((2 * (rowLen 1 v135 + rowLen 1 v136) + 192) * 1).ble big48 && (rowLen 1 v135 + rowLen 1 v136).ble big48 then
 let v137 : Int := IntKind.i64.wrap (16 - v134.tmod 16);
 bif okCnt 1 (Option.some (v137.tmod 16)) then
 let v138 : List Int := v135 ++ v136;
 bif ((2 * (rowLen 1 v138 + rowLen 1 (zerosOf (mulE (v137.tmod 16).toNat 1))) + 192) * 1).ble big48 && (rowLen 1 v138 + rowLen 1 (zerosOf (mulE (v137.tmod 16).toNat 1))).ble big48 then
 let v139 : List Int := v138 ++ zerosOf (mulE (v137.tmod 16).toNat 1);
 bif ((2 * (rowLen 1 v139 + rowLen 1 (bytesL (nI (rowLen 1 v131)) 8)) + 192) * 1).ble big48 && (rowLen 1 v139 + rowLen 1 (bytesL (nI (rowLen 1 v131)) 8)).ble big48 then
 let v140 : List Int := v139 ++ bytesL (nI (rowLen 1 v131)) 8;
 bif ((2 * (rowLen 1 v140 + rowLen 1 (bytesL v134 8)) + 192) * 1).ble big48 && (rowLen 1 v140 + rowLen 1 (bytesL v134 8)).ble big48 then
 let v141 : List Int := v140 ++ bytesL v134 8;
 bif v141.length.ble lim then
 bif loOk (Option.some v134) (hiInt Option.none (rowLen 1 (sealL key nonce op text))) then
 let v142 : List Int := Go.Eng.sub (blockL key 0 nonce) (plusO Off.z 1 Option.none) (mulE (subN (hiNat (Option.some 32) 64) Option.none) 1);
 let v143 : Nat := Min.min (rowLen 1 v142) (subN (hiNat Option.none 32) Option.none);
 let v144 : List Int := splice (List.replicate 32 0) (plusO Off.z 1 Option.none) (List.take (mulE v143 1) v142);
 let v145 : List Int := Go.Eng.sub (macL v144 v141) (plusO Off.z 1 Option.none) (mulE (subN (hiNat Option.none 16) Option.none) 1);
 let v146 : List Int := Go.Eng.sub (sealL key nonce op text) (plusO Off.z 1 (Option.some v134)) (mulE (subN (hiNat Option.none (rowLen 1 (sealL key nonce op text))) (Option.some v134)) 1);
 bif ((openL key nonce v131 (sealL key nonce op text)).snd == 0) == Decidable.decide (v145 = v146) then
 bif (openL key nonce v131 (sealL key nonce op text)).snd == 0 then
 let v147 : Bool := bif Bool.true then Bool.true else Bool.false;
 k [DV.v (SV.one (At.bool v147))]
 else
 bif (openL key nonce v131 (sealL key nonce op text)).snd == 121 then
 let v148 : Bool := bif Bool.true then nI (rowLen 1 (openL key nonce v131 (sealL key nonce op text)).fst) == 0 else Bool.false;
 let v149 : Bool := bif Bool.false then Bool.true else v148;
 let v150 : Bool := bif Bool.true then v149 else Bool.false;
 k [DV.v (SV.one (At.bool v150))]
 else
 let v151 : Bool := bif Bool.false then Bool.true else Bool.false;
 let v152 : Bool := bif Bool.true then v151 else Bool.false;
 k [DV.v (SV.one (At.bool v152))]
 else k [DV.v (SV.one (At.bool Bool.false))]
 else Option.none
 else Option.none
 else Option.none
 else Option.none
 else Option.none
 else Option.none
 else Option.none
 else Option.none
 else Option.none
 else Option.none
 else Option.none
 else Option.none
 else Option.none
 else Option.none
 else
 let v153 : Int := IntKind.i64.wrap (v0 + 32);
 bif Decidable.decide (at_.tmod v1 < v153) then
 let v154 : Int := IntKind.i64.wrap (at_.tmod v1 - nI (rowLen 1 (sealL key nonce op text)));
 let v155 : Int := IntKind.i64.wrap (v154 - nI (rowLen 1 op));
 bif Decidable.decide (0 ≤ v155) && Decidable.decide (v155 < 32) then
 bif Decidable.decide (0 ≤ v155) && Decidable.decide (v155 < 32) then
 bif op.length.ble lim5 && (sealL key nonce op text).length.ble lim5 then
 bif by_ == 0 then
 let v156 : Int := xorI IntKind.u8 (key.getD (mulE v155.toNat 1) 0) by_;
 let v157 : List Int := key.set (mulE v155.toNat 1) v156;
 bif (openL v157 nonce op (sealL key nonce op text)).snd == 0 then
 bif (openL v157 nonce op (sealL key nonce op text)).fst.length.ble lim then
 let v158 : Bool := bif Bool.true then Decidable.decide ((openL v157 nonce op (sealL key nonce op text)).fst = text) else Bool.false;
 k [DV.v (SV.one (At.bool v158))]
 else Option.none
 else k [DV.v (SV.one (At.bool Bool.false))]
 else
 bif Decidable.decide (nI (rowLen 1 (sealL key nonce op text)) < 16) then k [DV.v (SV.one (At.bool Bool.false))]
 else
 bif (rowLen 1 op * 1).ble big48 && (rowLen 1 op).ble big48 then
 let v159 : Int := IntKind.i64.wrap (16 - (nI (rowLen 1 op)).tmod 16);
 bif okCnt 1 (Option.some (v159.tmod 16)) then
 bif ((2 * (rowLen 1 op + rowLen 1 (zerosOf (mulE (v159.tmod 16).toNat 1))) + 192) * 1).ble big48 && (rowLen 1 op + rowLen 1 (zerosOf (mulE (v159.tmod 16).toNat 1))).ble big48 then
 let v160 : Int := IntKind.i64.wrap (nI (rowLen 1 (sealL key nonce op text)) - 16);
 bif hiOk (Option.some v160) (rowLen 1 (sealL key nonce op text)) then
 let v161 : List Int := op ++ zerosOf (mulE (v159.tmod 16).toNat 1);
 let v162 : List Int := Go.Eng.sub (sealL key nonce op text) (plusO Off.z 1 Option.none) (mulE (subN (hiNat (Option.some v160) (rowLen 1 (sealL key nonce op text))) Option.none) 1);
 bif ((2 * (rowLen 1 v161 + rowLen 1 v162) + 192) * 1).ble big48 && (rowLen 1 v161 + rowLen 1 v162).ble big48 then
 let v163 : Int := IntKind.i64.wrap (16 - v160.tmod 16);
 bif okCnt 1 (Option.some (v163.tmod 16)) then
 let v164 : List Int := v161 ++ v162;
 bif ((2 * (rowLen 1 v164 + rowLen 1 (zerosOf (mulE (v163.tmod 16).toNat 1))) + 192) * 1).ble big48 && (rowLen 1 v164 + rowLen 1 (zerosOf (mulE (v163.tmod 16).toNat 1))).ble big48 then
 let v165 : List Int := v164 ++ zerosOf (mulE (v163.tmod 16).toNat 1);
 bif ((2 * (rowLen 1 v165 + rowLen 1 (bytesL (nI (rowLen 1 op)) 8)) + 192) * 1).ble big48 && (rowLen 1 v165 + rowLen 1 (bytesL (nI (rowLen 1 op)) 8)).ble big48 then
 let v166 : List Int := v165 ++ bytesL (nI (rowLen 1 op)) 8;
 bif ((2 * (rowLen 1 v166 + rowLen 1 (bytesL v160 8)) + 192) * 1).ble big48 && (rowLen 1 v166 + rowLen 1 (bytesL v160 8)).ble big48 then
 let v167 : List Int := v166 ++ bytesL v160 8;
 bif v167.length.ble lim then
 bif loOk (Option.some v160) (hiInt Option.none (rowLen 1 (sealL key nonce op text))) then
 let v168 : Int := xorI IntKind.u8 (key.getD (mulE v155.toNat 1) 0) by_;
 let v169 : List Int := key.set (mulE v155.toNat 1) v168;
 let v170 : List Int := Go.Eng.sub (blockL v169 0 nonce) (plusO Off.z 1 Option.none) (mulE (subN (hiNat (Option.some 32) 64) Option.none) 1);
 let v171 : Nat := Min.min (rowLen 1 v170) (subN (hiNat Option.none 32) Option.none);
 let v172 : List Int := splice (List.replicate 32 0) (plusO Off.z 1 Option.none) (List.take (mulE v171 1) v170);
 let v173 : List Int := Go.Eng.sub (macL v172 v167) (plusO Off.z 1 Option.none) (mulE (subN (hiNat Option.none 16) Option.none) 1);
 let v174 : List Int := Go.Eng.sub (sealL key nonce op text) (plusO Off.z 1 (Option.some v160)) (mulE (subN (hiNat Option.none (rowLen 1 (sealL key nonce op text))) (Option.some v160)) 1);
 bif ((openL v169 nonce op (sealL key nonce op text)).snd == 0) == Decidable.decide (v173 = v174) then
 bif (openL v169 nonce op (sealL key nonce op text)).snd == 0 then
 let v175 : Bool := bif Bool.true then Bool.true else Bool.false;
 k [DV.v (SV.one (At.bool v175))]
 else
 bif (openL v169 nonce op (sealL key nonce op text)).snd == 121 then
 let v176 : Bool := bif Bool.true then nI (rowLen 1 (openL v169 nonce op (sealL key nonce op text)).fst) == 0 else Bool.false;
 let v177 : Bool := bif Bool.false then Bool.true else v176;
 let v178 : Bool := bif Bool.true then v177 else Bool.false;
 k [DV.v (SV.one (At.bool v178))]
 else
 let v179 : Bool := bif Bool.false then Bool.true else Bool.false;
 let v180 : Bool := bif Bool.true then v179 else Bool.false;
 k [DV.v (SV.one (At.bool v180))]
 else k [DV.v (SV.one (At.bool Bool.false))]
 else Option.none
 else Option.none
 else Option.none
 else Option.none
 else Option.none
 else Option.none
 else Option.none
 else Option.none
 else Option.none
 else Option.none
 else Option.none
 else Option.none
 else Option.none
 else Option.none
 else
 let v181 : Int := IntKind.i64.wrap (at_.tmod v1 - nI (rowLen 1 (sealL key nonce op text)));
 let v182 : Int := IntKind.i64.wrap (v181 - nI (rowLen 1 op));
 let v183 : Int := IntKind.i64.wrap (v182 - 32);
 bif Decidable.decide (0 ≤ v183) && Decidable.decide (v183 < 12) then
 bif Decidable.decide (0 ≤ v183) && Decidable.decide (v183 < 12) then
 bif op.length.ble lim5 && (sealL key nonce op text).length.ble lim5 then
 bif by_ == 0 then
 let v184 : Int := xorI IntKind.u8 (nonce.getD (mulE v183.toNat 1) 0) by_;
 let v185 : List Int := nonce.set (mulE v183.toNat 1) v184;
 bif (openL key v185 op (sealL key nonce op text)).snd == 0 then
 bif (openL key v185 op (sealL key nonce op text)).fst.length.ble lim then
 let v186 : Bool := bif Bool.true then Decidable.decide ((openL key v185 op (sealL key nonce op text)).fst = text) else Bool.false;
 k [DV.v (SV.one (At.bool v186))]
 else Option.none
 else k [DV.v (SV.one (At.bool Bool.false))]
 else
 bif Decidable.decide (nI (rowLen 1 (sealL key nonce op text)) < 16) then k [DV.v (SV.one (At.bool Bool.false))]
 else
 bif (rowLen 1 op * 1).ble big48 && (rowLen 1 op).ble big48 then
 let v187 : Int := IntKind.i64.wrap (16 - (nI (rowLen 1 op)).tmod 16);
 bif okCnt 1 (Option.some (v187.tmod 16)) then
 bif ((2 * (rowLen 1 op + rowLen 1 (zerosOf (mulE (v187.tmod 16).toNat 1))) + 192) * 1).ble big48 && (rowLen 1 op + rowLen 1 (zerosOf (mulE (v187.tmod 16).toNat 1))).ble big48 then
 let v188 : Int := IntKind.i64.wrap (nI (rowLen 1 (sealL key nonce op text)) - 16);
 bif hiOk (Option.some v188) (rowLen 1 (sealL key nonce op text)) then
 let v189 : List Int := op ++ zerosOf (mulE (v187.tmod 16).toNat 1);
 let v190 : List Int := Go.Eng.sub (sealL key nonce op text) (plusO Off.z 1 Option.none) (mulE (subN (hiNat (Option.some v188) (rowLen 1 (sealL key nonce op text))) Option.none) 1);
 bif ((2 * (rowLen 1 v189 + rowLen 1 v190) + 192) * 1).ble big48 && (rowLen 1 v189 + rowLen 1 v190).ble big48 then
 let v191 : Int := IntKind.i64.wrap (16 - v188.tmod 16);
 bif okCnt 1 (Option.some (v191.tmod 16)) then
 let v192 : List Int := v189 ++ v190;
 bif ((2 * (rowLen 1 v192 + rowLen 1 (zerosOf (mulE (v191.tmod 16).toNat 1))) + 192) * 1).ble big48 && (rowLen 1 v192 + rowLen 1 (zerosOf (mulE (v191.tmod 16).toNat 1))).ble big48 then
 let v193 : List Int := v192 ++ zerosOf (mulE (v191.tmod 16).toNat 1);
 bif ((2 * (rowLen 1 v193 + rowLen 1 (bytesL (nI (rowLen 1 op)) 8)) + 192) * 1).ble big48 && (rowLen 1 v193 + rowLen 1 (bytesL (nI (rowLen 1 op)) 8)).ble big48 then
 let v194 : List Int := v193 ++ bytesL (nI (rowLen 1 op)) 8;
 bif ((2 * (rowLen 1 v194 + rowLen 1 (bytesL v188 8)) + 192) * 1).ble big48 && (rowLen 1 v194 + rowLen 1 (bytesL v188 8)).ble big48 then
 let v195 : List Int := v194 ++ bytesL v188 8;
 bif v195.length.ble lim then
 bif loOk (Option.some v188) (hiInt Option.none (rowLen 1 (sealL key nonce op text))) then
 let v196 : Int := xorI IntKind.u8 (nonce.getD (mulE v183.toNat 1) 0) by_;
 let v197 : List Int := nonce.set (mulE v183.toNat 1) v196;
 let v198 : List Int := Go.Eng.sub (blockL key 0 v197) (plusO Off.z 1 Option.none) (mulE (subN (hiNat (Option.some 32) 64) Option.none) 1);
 let v199 : Nat := Min.min (rowLen 1 v198) (subN (hiNat Option.none 32) Option.none);
 let v200 : List Int := splice (List.replicate 32 0) (plusO Off.z 1 Option.none) (List.take (mulE v199 1) v198);
 let v201 : List Int := Go.Eng.sub (macL v200 v195) (plusO Off.z 1 Option.none) (mulE (subN (hiNat Option.none 16) Option.none) 1);
 let v202 : List Int := Go.Eng.sub (sealL key nonce op text) (plusO Off.z 1 (Option.some v188)) (mulE (subN (hiNat Option.none (rowLen 1 (sealL key nonce op text))) (Option.some v188)) 1);
 bif ((openL key v197 op (sealL key nonce op text)).snd == 0) == Decidable.decide (v201 = v202) then
 bif (openL key v197 op (sealL key nonce op text)).snd == 0 then
 let v203 : Bool := bif Bool.true then Bool.true else Bool.false;
 k [DV.v (SV.one (At.bool v203))]
 else
 bif (openL key v197 op (sealL key nonce op text)).snd == 121 then
 let v204 : Bool := bif Bool.true then nI (rowLen 1 (openL key v197 op (sealL key nonce op text)).fst) == 0 else Bool.false;
 let v205 : Bool := bif Bool.false then Bool.true else v204;
 let v206 : Bool := bif Bool.true then v205 else Bool.false;
 k [DV.v (SV.one (At.bool v206))]
 else
 let v207 : Bool := bif Bool.false then Bool.true else Bool.false;
 let v208 : Bool := bif Bool.true then v207 else Bool.false;
 k [DV.v (SV.one (At.bool v208))]
 else k [DV.v (SV.one (At.bool Bool.false))]
 else Option.none
 else Option.none
 else Option.none
 else Option.none
 else Option.none
 else Option.none
 else Option.none
 else Option.none
 else Option.none
 else Option.none
 else Option.none
 else Option.none
 else Option.none
 else Option.none
 else Option.none
 else Option.none
else Option.none


noncomputable def E8 (N : Nat) : Env := { Θ := Th, Γ := G8, K := K8, ν := N8, fuel := 0, lp := [] }


theorem f8_loops (N : Nat) (hΓ : CtxOk Try.prog G8) : LoopsOk Try.prog (E8 N).lp B8 := loopsOk_of (l := []) (by kernel_rfl) trivial
theorem f8_raw_eq {R : Type} (N : Nat) (key : List Int) (nonce : List Int) (op : List Int) (text : List Int) (other : List Int) (at_ : Int) (by_ : Int) (k : List DV → Option R) : exec (E8 N) B8 (caseS 228 key nonce op text other at_ by_) (retK Th { ps := [], rs := [.val] } [] R8 k) = f8_raw N key nonce op text other at_ by_ k := by kernel_rfl
end Go.Proofs.Ytiaddnmloonhgaa

/- The digits of a tag. -/
namespace Go.Proofs.Ytiaddnmloonhgaa
open Go Go.Eng
set_option maxRecDepth 100000

def bitsGo (w : List Int) (base : Nat) : Nat → Nat → Int → Int
  | 0, _, x => x
  | m + 1, j, x => bitsGo w base m (j + 1) (orI .u64 x (shlI .u64 (andI .u64 (shrI .u64 (w.getD ((base + j) / 26) 0) (((base + j) % 26 : Nat) : Int)) 1) (j : Int)))

def digGo (key w : List Int) : Nat → Nat → Int → List Int
  | 0, _, _ => []
  | m + 1, i, c =>
    let v := IntKind.u64.wrap (c + IntKind.u64.wrap (bitsGo w (8 * i) 8 0 0 + IntKind.u64.wrap (key.getD (16 + i) 0)))
    IntKind.u8.wrap v :: digGo key w m (i + 1) (shrI .u64 v 8)

theorem digL_eq (key b' w : List Int) : digL key b' w = digGo key w 16 0 0 := by kernel_rfl

theorem digGo_bytes (key w : List Int) : ∀ (m i : Nat) (c : Int), Bytes (digGo key w m i c)
  | 0, _, _ => by intro x hx; cases hx
  | m + 1, i, c => by
    intro x hx
    rcases List.mem_cons.1 hx with e | hx
    · subst e; exact wrapU8_byte _
    · exact digGo_bytes key w m (i + 1) _ x hx

theorem mac_bytes (key b : List Int) : Bytes (macL key b) := by
  unfold macL; rw [digL_eq]; exact digGo_bytes _ _ _ _ _

theorem tag_bytes (key nonce a b : List Int) : Bytes (tagL key nonce a b) := mac_bytes _ _
end Go.Proofs.Ytiaddnmloonhgaa

/- SealTurned comes to true. -/
namespace Go.Proofs.Ytiaddnmloonhgaa
open Go Go.Eng
set_option maxRecDepth 100000
set_option maxHeartbeats 4000000

/-- what stands behind the turning -/
def tail8 {R : Type} (key nonce op b text : List Int) (by_ : Int) (k : List DV → Option R) : Option R :=
 bif op.length.ble lim5 && b.length.ble lim5 then
 bif by_ == 0 then
 bif (openL key nonce op b).snd == 0 then
 bif (openL key nonce op b).fst.length.ble lim then
 let u5 : Bool := bif Bool.true then Decidable.decide ((openL key nonce op b).fst = text) else Bool.false;
 k [DV.v (SV.one (At.bool u5))]
 else Option.none
 else k [DV.v (SV.one (At.bool Bool.false))]
 else
 bif Decidable.decide (nI (rowLen 1 b) < 16) then k [DV.v (SV.one (At.bool Bool.false))]
 else
 bif (rowLen 1 op * 1).ble big48 && (rowLen 1 op).ble big48 then
 let u6 : Int := IntKind.i64.wrap (16 - (nI (rowLen 1 op)).tmod 16);
 bif okCnt 1 (Option.some (u6.tmod 16)) then
 bif ((2 * (rowLen 1 op + rowLen 1 (zerosOf (mulE (u6.tmod 16).toNat 1))) + 192) * 1).ble big48 && (rowLen 1 op + rowLen 1 (zerosOf (mulE (u6.tmod 16).toNat 1))).ble big48 then
 let u7 : Int := IntKind.i64.wrap (nI (rowLen 1 b) - 16);
 bif hiOk (Option.some u7) (rowLen 1 b) then
 let u8 : List Int := op ++ zerosOf (mulE (u6.tmod 16).toNat 1);
 let u9 : List Int := Go.Eng.sub b (plusO Off.z 1 Option.none) (mulE (subN (hiNat (Option.some u7) (rowLen 1 b)) Option.none) 1);
 bif ((2 * (rowLen 1 u8 + rowLen 1 u9) + 192) * 1).ble big48 && (rowLen 1 u8 + rowLen 1 u9).ble big48 then
 let u10 : Int := IntKind.i64.wrap (16 - u7.tmod 16);
 bif okCnt 1 (Option.some (u10.tmod 16)) then
 let u11 : List Int := u8 ++ u9;
 bif ((2 * (rowLen 1 u11 + rowLen 1 (zerosOf (mulE (u10.tmod 16).toNat 1))) + 192) * 1).ble big48 && (rowLen 1 u11 + rowLen 1 (zerosOf (mulE (u10.tmod 16).toNat 1))).ble big48 then
 let u12 : List Int := u11 ++ zerosOf (mulE (u10.tmod 16).toNat 1);
 bif ((2 * (rowLen 1 u12 + rowLen 1 (bytesL (nI (rowLen 1 op)) 8)) + 192) * 1).ble big48 && (rowLen 1 u12 + rowLen 1 (bytesL (nI (rowLen 1 op)) 8)).ble big48 then
 let u13 : List Int := u12 ++ bytesL (nI (rowLen 1 op)) 8;
 bif ((2 * (rowLen 1 u13 + rowLen 1 (bytesL u7 8)) + 192) * 1).ble big48 && (rowLen 1 u13 + rowLen 1 (bytesL u7 8)).ble big48 then
 let u14 : List Int := u13 ++ bytesL u7 8;
 bif u14.length.ble lim then
 bif loOk (Option.some u7) (hiInt Option.none (rowLen 1 b)) then
 let u15 : List Int := Go.Eng.sub (blockL key 0 nonce) (plusO Off.z 1 Option.none) (mulE (subN (hiNat (Option.some 32) 64) Option.none) 1);
 let u16 : Nat := Min.min (rowLen 1 u15) (subN (hiNat Option.none 32) Option.none);
 let u17 : List Int := splice (List.replicate 32 0) (plusO Off.z 1 Option.none) (List.take (mulE u16 1) u15);
 let u18 : List Int := Go.Eng.sub (macL u17 u14) (plusO Off.z 1 Option.none) (mulE (subN (hiNat Option.none 16) Option.none) 1);
 let u19 : List Int := Go.Eng.sub b (plusO Off.z 1 (Option.some u7)) (mulE (subN (hiNat Option.none (rowLen 1 b)) (Option.some u7)) 1);
 bif ((openL key nonce op b).snd == 0) == Decidable.decide (u18 = u19) then
 bif (openL key nonce op b).snd == 0 then
 let u20 : Bool := bif Bool.true then Bool.true else Bool.false;
 k [DV.v (SV.one (At.bool u20))]
 else
 bif (openL key nonce op b).snd == 121 then
 let u21 : Bool := bif Bool.true then nI (rowLen 1 (openL key nonce op b).fst) == 0 else Bool.false;
 let u22 : Bool := bif Bool.false then Bool.true else u21;
 let u23 : Bool := bif Bool.true then u22 else Bool.false;
 k [DV.v (SV.one (At.bool u23))]
 else
 let u24 : Bool := bif Bool.false then Bool.true else Bool.false;
 let u25 : Bool := bif Bool.true then u24 else Bool.false;
 k [DV.v (SV.one (At.bool u25))]
 else k [DV.v (SV.one (At.bool Bool.false))]
 else Option.none
 else Option.none
 else Option.none
 else Option.none
 else Option.none
 else Option.none
 else Option.none
 else Option.none
 else Option.none
 else Option.none
 else Option.none
 else Option.none

def pick8 {R : Type} (key nonce op text : List Int) (by_ i : Int) (k : List DV → Option R) : Option R :=
  let b := sealL key nonce op text
  bif decide (i < nI (rowLen 1 b)) then
    bif decide (0 ≤ i) && decide (i < nI (rowLen 1 b)) then
    bif decide (0 ≤ i) && decide (i < nI (rowLen 1 b)) then
    tail8 key nonce op (b.set (mulE i.toNat 1) (xorI .u8 (b.getD (mulE i.toNat 1) 0) by_)) text by_ k
    else none else none
  else
  let j := IntKind.i64.wrap (i - nI (rowLen 1 b))
  bif decide (i < IntKind.i64.wrap (nI (rowLen 1 b) + nI (rowLen 1 op))) then
    bif decide (0 ≤ j) && decide (j < nI (rowLen 1 op)) then
    bif decide (0 ≤ j) && decide (j < nI (rowLen 1 op)) then
    tail8 key nonce (op.set (mulE j.toNat 1) (xorI .u8 (op.getD (mulE j.toNat 1) 0) by_)) b text by_ k
    else none else none
  else
  let j := IntKind.i64.wrap (j - nI (rowLen 1 op))
  bif decide (i < IntKind.i64.wrap (IntKind.i64.wrap (nI (rowLen 1 b) + nI (rowLen 1 op)) + 32)) then
    bif decide (0 ≤ j) && decide (j < 32) then
    bif decide (0 ≤ j) && decide (j < 32) then
    tail8 (key.set (mulE j.toNat 1) (xorI .u8 (key.getD (mulE j.toNat 1) 0) by_)) nonce op b text by_ k
    else none else none
  else
  let j := IntKind.i64.wrap (j - 32)
    bif decide (0 ≤ j) && decide (j < 12) then
    bif decide (0 ≤ j) && decide (j < 12) then
    tail8 key (nonce.set (mulE j.toNat 1) (xorI .u8 (nonce.getD (mulE j.toNat 1) 0) by_)) op b text by_ k
    else none else none

theorem f8_shape {R : Type} (key nonce op text other : List Int) (at_ by_ : Int) (k : List DV → Option R) : f8_raw 0 key nonce op text other at_ by_ k =
   (bif op.length.ble lim5 && text.length.ble lim5 then
    bif op.length.ble lim then
    let n : Int := IntKind.i64.wrap (IntKind.i64.wrap (nI (rowLen 1 (sealL key nonce op text)) + nI (rowLen 1 op)) + 44)
    bif !decide (n = 0) then
    bif decide (at_.tmod n < 0) then pick8 key nonce op text by_ (IntKind.i64.wrap (at_.tmod n + n)) k else pick8 key nonce op text by_ (at_.tmod n) k
    else none else none else none) := by kernel_rfl

theorem blit {a b : Nat} (h : a ≤ b) : Nat.ble a b = true := by rw [Nat.ble_eq]; exact h

theorem zeros_eq (n : Nat) : zerosOf (mulE n 1) = List.replicate n 0 := rfl

theorem tail8_true {key nonce op b text : List Int} {by_ : Int} (lb : b.length = text.length + 16) (h1 : op.length ≤ 1048576) (h2 : text.length ≤ 1048576) (hz : by_ = 0 → openL key nonce op b = (text, 0)) :
    tail8 key nonce op b text by_ some = some [.v (.one (.bool true))] := by
  have l0 : (op.length.ble lim5 && b.length.ble lim5) = true := by
    rw [Bool.and_eq_true]; exact ⟨blit (show _ ≤ 68719476736 by omega), blit (show _ ≤ 68719476736 by omega)⟩
  unfold tail8
  rw [l0]
  by_cases h0 : by_ = 0
  · rw [show (by_ == 0) = true by simp [h0], hz h0]
    have l1 : text.length.ble lim = true := blit (show _ ≤ 1099511627776 by omega)
    simp only [l1, cond_true, decide_true, beq_self_eq_true]
  · rw [show (by_ == 0) = false by simp [h0]]
    have p1 := padN_lt op.length
    have p2 := padN_lt text.length
    have c1 : decide (nI (rowLen 1 b) < 16) = false := decide_eq_false (by show ¬ (b.length : Int) < 16; omega)
    have c2 : ((rowLen 1 op * 1).ble big48 && (rowLen 1 op).ble big48) = true := by
      rw [Bool.and_eq_true, rowLen_one]; exact ⟨blit (show _ ≤ 281474976710656 by omega), blit (show _ ≤ 281474976710656 by omega)⟩
    have e1 : (nI (rowLen 1 op)).tmod 16 = ((op.length % 16 : Nat) : Int) := (Int.ofNat_tmod op.length 16).symm
    have e2 : IntKind.i64.wrap (16 - ((op.length % 16 : Nat) : Int)) = ((16 - op.length % 16 : Nat) : Int) := wrapI (by omega) (by omega)
    have e3 : (((16 - op.length % 16 : Nat) : Int)).tmod 16 = ((padN op.length : Nat) : Int) := (Int.ofNat_tmod (16 - op.length % 16) 16).symm
    have e4 : IntKind.i64.wrap (nI (rowLen 1 b) - 16) = ((text.length : Nat) : Int) := wrapI (by show (b.length : Int) - 16 = _; omega) (by omega)
    have e5 : ((text.length : Nat) : Int).tmod 16 = ((text.length % 16 : Nat) : Int) := (Int.ofNat_tmod text.length 16).symm
    have e6 : IntKind.i64.wrap (16 - ((text.length % 16 : Nat) : Int)) = ((16 - text.length % 16 : Nat) : Int) := wrapI (by omega) (by omega)
    have e7 : (((16 - text.length % 16 : Nat) : Int)).tmod 16 = ((padN text.length : Nat) : Int) := (Int.ofNat_tmod (16 - text.length % 16) 16).symm
    have c3 : okCnt 1 (some ((padN op.length : Nat) : Int)) = true := by simp [okCnt]; omega
    have c4 : okCnt 1 (some ((padN text.length : Nat) : Int)) = true := by simp [okCnt]; omega
    have c5 : hiOk (some ((text.length : Nat) : Int)) (rowLen 1 b) = true := hiOk_nat (by rw [rowLen_one]; omega)
    have c6 : loOk (some ((text.length : Nat) : Int)) (hiInt none (rowLen 1 b)) = true := loOk_nat (by simp [hiInt, rowLen_one]; omega)
    have s1 : Go.Eng.sub b (plusO Off.z 1 none) (mulE (subN (hiNat (some ((text.length : Nat) : Int)) (rowLen 1 b)) none) 1) = b.take text.length := by
      simp [Go.Eng.sub, plusO, mulE, subN, hiNat]
    have s2 : Go.Eng.sub b (plusO Off.z 1 (some ((text.length : Nat) : Int))) (mulE (subN (hiNat none (rowLen 1 b)) (some ((text.length : Nat) : Int))) 1) = (b.drop text.length).take 16 := by
      show (b.drop text.length).take (b.length - text.length) = _
      rw [lb, show text.length + 16 - text.length = 16 by omega]
    have s3 : Go.Eng.sub (blockL key 0 nonce) (plusO Off.z 1 none) (mulE (subN (hiNat (some 32) 64) none) 1) = (blockL key 0 nonce).take 32 := rfl
    have lt : (b.take text.length).length = text.length := by rw [List.length_take]; omega
    have lB : ((blockL key 0 nonce).take 32).length = 32 := by rw [List.length_take, blockL_length]; rfl
    have s4 : splice (List.replicate 32 0) (plusO Off.z 1 none) (List.take (mulE (min (rowLen 1 ((blockL key 0 nonce).take 32)) (subN (hiNat none 32) none)) 1) ((blockL key 0 nonce).take 32)) = (blockL key 0 nonce).take 32 := by
      rw [rowLen_one, lB]
      show splice (List.replicate 32 0) .z (((blockL key 0 nonce).take 32).take 32) = _
      rw [List.take_of_length_le (by rw [lB]; omega)]
      simp [splice, lB]
    have lM : ∀ m, Go.Eng.sub (macL ((blockL key 0 nonce).take 32) m) (plusO Off.z 1 none) (mulE (subN (hiNat none 16) none) 1) = macL ((blockL key 0 nonce).take 32) m := fun m => by
      show (macL ((blockL key 0 nonce).take 32) m).take 16 = _
      exact List.take_of_length_le (by rw [macL_length]; omega)
    have w : op ++ List.replicate (padN op.length) 0 ++ b.take text.length ++ List.replicate (padN text.length) 0 ++ bytesL (nI (rowLen 1 op)) 8 ++ bytesL ((text.length : Nat) : Int) 8 = wholeText op (b.take text.length) := by
      simp only [wholeText, padL, lt, List.append_assoc, rowLen_one]
    have g1 : (((2 * (rowLen 1 op + rowLen 1 (List.replicate (padN op.length) (0 : Int))) + 192) * 1).ble big48 && (rowLen 1 op + rowLen 1 (List.replicate (padN op.length) (0 : Int))).ble big48) = true := by
      rw [Bool.and_eq_true]; simp only [rowLen_one, List.length_replicate]; exact ⟨blit (show _ ≤ 281474976710656 by omega), blit (show _ ≤ 281474976710656 by omega)⟩
    have g2 : (((2 * (rowLen 1 (op ++ List.replicate (padN op.length) 0) + rowLen 1 (b.take text.length)) + 192) * 1).ble big48 && (rowLen 1 (op ++ List.replicate (padN op.length) 0) + rowLen 1 (b.take text.length)).ble big48) = true := by
      rw [Bool.and_eq_true]; simp only [rowLen_one, List.length_append, lt, List.length_replicate]; exact ⟨blit (show _ ≤ 281474976710656 by omega), blit (show _ ≤ 281474976710656 by omega)⟩
    have g3 : (((2 * (rowLen 1 (op ++ List.replicate (padN op.length) 0 ++ b.take text.length) + rowLen 1 (List.replicate (padN text.length) (0 : Int))) + 192) * 1).ble big48 && (rowLen 1 (op ++ List.replicate (padN op.length) 0 ++ b.take text.length) + rowLen 1 (List.replicate (padN text.length) (0 : Int))).ble big48) = true := by
      rw [Bool.and_eq_true]; simp only [rowLen_one, List.length_append, lt, List.length_replicate]; exact ⟨blit (show _ ≤ 281474976710656 by omega), blit (show _ ≤ 281474976710656 by omega)⟩
    have g4 : (((2 * (rowLen 1 (op ++ List.replicate (padN op.length) 0 ++ b.take text.length ++ List.replicate (padN text.length) 0) + rowLen 1 (bytesL (nI (rowLen 1 op)) 8)) + 192) * 1).ble big48 && (rowLen 1 (op ++ List.replicate (padN op.length) 0 ++ b.take text.length ++ List.replicate (padN text.length) 0) + rowLen 1 (bytesL (nI (rowLen 1 op)) 8)).ble big48) = true := by
      rw [Bool.and_eq_true]; simp only [rowLen_one, List.length_append, lt, List.length_replicate, bytesL_length]; exact ⟨blit (show _ ≤ 281474976710656 by omega), blit (show _ ≤ 281474976710656 by omega)⟩
    have g5 : (((2 * (rowLen 1 (op ++ List.replicate (padN op.length) 0 ++ b.take text.length ++ List.replicate (padN text.length) 0 ++ bytesL (nI (rowLen 1 op)) 8) + rowLen 1 (bytesL ((text.length : Nat) : Int) 8)) + 192) * 1).ble big48 && (rowLen 1 (op ++ List.replicate (padN op.length) 0 ++ b.take text.length ++ List.replicate (padN text.length) 0 ++ bytesL (nI (rowLen 1 op)) 8) + rowLen 1 (bytesL ((text.length : Nat) : Int) 8)).ble big48) = true := by
      rw [Bool.and_eq_true]; simp only [rowLen_one, List.length_append, lt, List.length_replicate, bytesL_length]; exact ⟨blit (show _ ≤ 281474976710656 by omega), blit (show _ ≤ 281474976710656 by omega)⟩
    have g6 : (wholeText op (b.take text.length)).length.ble lim = true := by
      simp only [wholeText, List.length_append, padL_length, lt, bytesL_length]; exact blit (show _ ≤ 1099511627776 by omega)
    have o : openL key nonce op b = if tagL key nonce op (b.take text.length) = (b.drop text.length).take 16 then (streamL key 1 nonce (b.take text.length), 0) else ([], 121) := by
      unfold openL
      rw [if_neg (by omega), lb, show text.length + 16 - 16 = text.length by omega]
    have tg : tagL key nonce op (b.take text.length) = macL ((blockL key 0 nonce).take 32) (wholeText op (b.take text.length)) := rfl
    dsimp only
    simp only [c1, c2, e1, e2, e3, e4, e5, e6, e7, c3, c4, c5, c6, s1, s2, s3, s4, lM, zeros_eq, Int.toNat_natCast, g1, g2, g3, g4, g5, w, g6, cond_true, cond_false, Bool.not_true, Bool.not_false]
    rw [o, tg]
    by_cases ht : macL ((blockL key 0 nonce).take 32) (wholeText op (b.take text.length)) = (b.drop text.length).take 16
    · rw [if_pos ht]
      simp [ht]
    · rw [if_neg ht]
      simp [ht, rowLen_one, nI]

theorem set_length {l : List Int} {i : Nat} {x : Int} : (l.set i x).length = l.length := by simp

theorem set_same {l : List Int} {i : Nat} (hb : Bytes l) (hi : i < l.length) : l.set i (xorI .u8 (l.getD i 0) 0) = l := by
  have h := bytes_getD hb i
  have e : xorI .u8 (l.getD i 0) 0 = l.getD i 0 := by
    rw [xor8_eq, show BitVec.ofInt 8 0 = 0#8 from rfl, BitVec.xor_zero, BitVec.toNat_ofInt]
    omega
  rw [e, List.getD_eq_getElem?_getD, List.getElem?_eq_getElem hi]
  simp

theorem pick8_true {key nonce op text : List Int} {by_ : Int} {i : Nat} (hk : Bytes key) (hn : Bytes nonce) (ho : Bytes op) (hbt : Bytes text) (lk : key.length = 32) (ln : nonce.length = 12) (h1 : op.length ≤ 1048576) (h2 : text.length ≤ 1048576) (hi : i < text.length + 16 + op.length + 44) :
    pick8 key nonce op text by_ (i : Int) some = some [.v (.one (.bool true))] := by
  have lb : (sealL key nonce op text).length = text.length + 16 := sealL_length _ _ _ _
  have os := open_seal key nonce op hbt
  unfold pick8
  simp only [rowLen_one, lb, nI]
  rw [wrapI (x := ((text.length + 16 : Nat) : Int) + (op.length : Int)) (n := text.length + 16 + op.length) (by omega) (by omega)]
  rw [wrapI (x := ((text.length + 16 + op.length : Nat) : Int) + 32) (n := text.length + 16 + op.length + 32) (by omega) (by omega)]
  by_cases c1 : i < text.length + 16
  · rw [show decide ((i : Int) < ((text.length + 16 : Nat) : Int)) = true from decide_eq_true (by omega), show decide ((0 : Int) ≤ (i : Int)) = true from decide_eq_true (by omega)]
    refine tail8_true (by rw [set_length, lb]) h1 h2 fun h0 => ?_
    subst h0
    rw [mulE_one, Int.toNat_natCast, set_same ?_ (by omega), os]
    intro x hx
    rw [sealL_eq] at hx
    rcases List.mem_append.1 hx with hx | hx
    · exact stream_bytes _ _ _ _ x hx
    · exact tag_bytes _ _ _ _ x hx
  · rw [show decide ((i : Int) < ((text.length + 16 : Nat) : Int)) = false from decide_eq_false (by omega)]
    rw [wrapI (x := (i : Int) - ((text.length + 16 : Nat) : Int)) (n := i - (text.length + 16)) (by omega) (by omega)]
    by_cases c2 : i < text.length + 16 + op.length
    · rw [show decide ((i : Int) < ((text.length + 16 + op.length : Nat) : Int)) = true from decide_eq_true (by omega), show decide ((0 : Int) ≤ ((i - (text.length + 16) : Nat) : Int)) = true from decide_eq_true (by omega),
        show decide (((i - (text.length + 16) : Nat) : Int) < (op.length : Int)) = true from decide_eq_true (by omega)]
      refine tail8_true lb (by rw [set_length]; exact h1) h2 fun h0 => ?_
      subst h0
      rw [mulE_one, Int.toNat_natCast, set_same ho (by omega), os]
    · rw [show decide ((i : Int) < ((text.length + 16 + op.length : Nat) : Int)) = false from decide_eq_false (by omega)]
      rw [wrapI (x := ((i - (text.length + 16) : Nat) : Int) - (op.length : Int)) (n := i - (text.length + 16) - op.length) (by omega) (by omega)]
      by_cases c3 : i < text.length + 16 + op.length + 32
      · rw [show decide ((i : Int) < ((text.length + 16 + op.length + 32 : Nat) : Int)) = true from decide_eq_true (by omega), show decide ((0 : Int) ≤ ((i - (text.length + 16) - op.length : Nat) : Int)) = true from decide_eq_true (by omega),
          show decide (((i - (text.length + 16) - op.length : Nat) : Int) < 32) = true from decide_eq_true (by omega)]
        refine tail8_true lb h1 h2 fun h0 => ?_
        subst h0
        rw [mulE_one, Int.toNat_natCast, set_same hk (by omega), os]
      · rw [show decide ((i : Int) < ((text.length + 16 + op.length + 32 : Nat) : Int)) = false from decide_eq_false (by omega)]
        rw [wrapI (x := ((i - (text.length + 16) - op.length : Nat) : Int) - 32) (n := i - (text.length + 16) - op.length - 32) (by omega) (by omega)]
        rw [show decide ((0 : Int) ≤ ((i - (text.length + 16) - op.length - 32 : Nat) : Int)) = true from decide_eq_true (by omega),
          show decide (((i - (text.length + 16) - op.length - 32 : Nat) : Int) < 12) = true from decide_eq_true (by omega)]
        refine tail8_true lb h1 h2 fun h0 => ?_
        subst h0
        rw [mulE_one, Int.toNat_natCast, set_same hn (by omega), os]

theorem f8_true {key nonce op text other : List Int} {at_ by_ : Int} (hk : Bytes key) (hn : Bytes nonce) (ho : Bytes op) (hbt : Bytes text) (lk : key.length = 32) (ln : nonce.length = 12) (h1 : op.length ≤ 1048576) (h2 : text.length ≤ 1048576) :
    f8_raw 0 key nonce op text other at_ by_ some = some [.v (.one (.bool true))] := by
  have lb : (sealL key nonce op text).length = text.length + 16 := sealL_length _ _ _ _
  rw [f8_shape]
  rw [show (op.length.ble lim5 && text.length.ble lim5) = true by
    rw [Bool.and_eq_true]; exact ⟨blit (show _ ≤ 68719476736 by omega), blit (show _ ≤ 68719476736 by omega)⟩]
  rw [show op.length.ble lim = true from blit (show _ ≤ 1099511627776 by omega)]
  simp only [rowLen_one, lb, nI]
  rw [wrapI (x := ((text.length + 16 : Nat) : Int) + (op.length : Int)) (n := text.length + 16 + op.length) (by omega) (by omega)]
  rw [wrapI (x := ((text.length + 16 + op.length : Nat) : Int) + 44) (n := text.length + 16 + op.length + 44) (by omega) (by omega)]
  rw [show decide (((text.length + 16 + op.length + 44 : Nat) : Int) = 0) = false from decide_eq_false (by omega)]
  generalize hN : text.length + 16 + op.length + 44 = N
  have b1 : at_.tmod (N : Int) < (N : Int) := Int.tmod_lt_of_pos _ (by omega)
  have b2 : -(N : Int) < at_.tmod (N : Int) := by
    have h := Int.natAbs_tmod at_ (N : Int)
    have h' := Nat.mod_lt at_.natAbs (show 0 < (N : Int).natAbs by omega)
    omega
  by_cases c : at_.tmod (N : Int) < 0
  · rw [show decide (at_.tmod (N : Int) < 0) = true from decide_eq_true c]
    obtain ⟨i, hi⟩ : ∃ i : Nat, at_.tmod (N : Int) + (N : Int) = (i : Int) := ⟨(at_.tmod (N : Int) + (N : Int)).toNat, by omega⟩
    rw [wrapI hi (by omega)]
    exact pick8_true hk hn ho hbt lk ln h1 h2 (by omega)
  · rw [show decide (at_.tmod (N : Int) < 0) = false from decide_eq_false c]
    obtain ⟨i, hi⟩ : ∃ i : Nat, at_.tmod (N : Int) = (i : Int) := ⟨(at_.tmod (N : Int)).toNat, by omega⟩
    rw [hi]
    exact pick8_true hk hn ho hbt lk ln h1 h2 (by omega)
end Go.Proofs.Ytiaddnmloonhgaa

/- SealTurned, for every case of bulk at most 1048576: what is turned is told: it opens just if the tag of what is there is the one that stands there. -/
namespace Go.Proofs.Ytiaddnmloonhgaa
open Go Go.Eng Go.ChangeShapes Go.WideShapes Go.RowKit Go.ChangeAt
set_option maxRecDepth 100000

theorem contract8 (H : Type) (enc : TypeId × Value → H) (W : World) (base : Nat) (args : Array Value) (ds gs : List (DataW H)) (before : List MemPlace)
    (hval : ∀ (j : Nat) t v, Try.f8.params[j]? = some t → args[j]? = some v → Value.okWide Try.prog W .any base t v)
    (hW : DataW.Whole enc Try.prog Try.f8.params.toList Rows.sealTurnedSpec.vars false W args.toList ds gs before) (hk : Rows.uptoSmall H (ds ++ gs) = true) :
    Calls Try.prog 8 args W fun e W' => ∃ v, e = .returned v ∧ Rows.sealTurnedSpec.post enc Try.prog Try.f8 false true false false W args v W' := by
  have hW' := hW
  obtain ⟨p, q, hA, hV, rfl, hfz, hnd⟩ := hW
  obtain ⟨rfl, rfl⟩ := trodVars_none hV
  rw [Try.params8] at hA hval
  obtain ⟨v0, vs0, d0, ds0, p0, q0, hargs, rfl, rfl, h0, r0⟩ := trodAll_cons hA
  obtain ⟨rfl, rfl, rfl⟩ := trodAll_nil r0
  obtain rfl : args = #[v0] := by cases args; simp_all
  have hb := bulk_bound hk
  simp only [List.append_nil, Rows.uptoBulkAll, Nat.add_zero] at hb
  obtain ⟨key, nonce, op, text, other, at_, by_, ρ, hc⟩ := case_open (hval 0 66 v0 rfl rfl) h0 hb
  obtain ⟨hlk, hln, b1, b2, b3, hbk, hbn, hbp, hbt, hbo, hat, hby, hs⟩ := hc 228
  have he := f8_true (other := other) (at_ := at_) (by_ := by_) hbk hbn hbp hbt hlk hln b1 b2
  rw [← f8_raw_eq] at he
  refine (law_calls thOk G8_ok mixed ok8 (f8_loops 0 G8_ok) (fun _ => id) (hs (by omega)) he).mono fun e W' ⟨h1, h2, h3, h4⟩ => ?_
  exact ⟨_, h1, post_of_law laidOut (by kernel_rfl) Try.underlying4 rfl (by rw [Try.params8]; intro t ht; simp at ht; subst ht; exact ⟨by kernel_rfl, by decide +kernel⟩) ⟨rfl, rfl, rfl⟩ hW' h2 h3 h4⟩

def wCase : Value := .agg (Array.mk ((List.replicate 44 (Value.int .u8 0)) ++ [Value.slice none 0 0, Value.slice none 0 0, Value.slice none 0 0, Value.int .i64 0, Value.int .u8 0]))
def wCaseD (H : Type) : DataW H := .agg [.agg (List.replicate 32 (.lit (.int .u8 0))), .agg (List.replicate 12 (.lit (.int .u8 0))), .nil, .nil, .nil, .lit (.int .i64 0), .lit (.int .u8 0)]

theorem lifted8 (os : Os) (started : os.Started) (H : Type) (enc : TypeId × Value → H) (F : Stop.Interp) :
    ReturnsInHanded {} Try.checked os 8 .any ((Rows.OpenSpec.upto Rows.sealTurnedSpec).pre6 enc Try.prog Try.f8 Rows.sealTurnedUptoRow.domain false) (((Rows.OpenSpec.upto Rows.sealTurnedSpec).at F).post enc Try.prog Try.f8 false true false false) := by
  refine returnsInHanded_of_cond (C := Try.checked) (s := Rows.OpenSpec.upto Rows.sealTurnedSpec) (k := Rows.uptoSmall) rfl own0 started (by kernel_rfl) Try.func8
    (OpenSpec.witness (enc := enc) (C := Try.checked) (s := Rows.OpenSpec.upto Rows.sealTurnedSpec) (k := Rows.uptoSmall) rfl false ⟨#[], #[wCase], []⟩ 8 (by kernel_rfl) (by kernel_rfl) (by kernel_rfl)
      (x := ([wCaseD H], [], [])) (by kernel_rfl) rfl (by kernel_rfl)) ?_
  intro W base args ds gs before hval hW _ hk _
  exact contract8 H enc W base args ds gs before hval hW hk

theorem over8 : Rows.sealTurnedUptoRow.holds Try.pinned (Rows.OpenSpec.upto Rows.sealTurnedSpec) :=
  OpenClaim.holds_of_cond 8 Try.f8 rfl rfl rfl rfl rfl rfl rfl ⟨rfl, rfl, rfl, rfl, rfl⟩ rfl rfl rfl rfl rfl (by kernel_rfl) Try.func8 (by kernel_rfl)
    (of_decide_eq_true (by kernel_rfl)) (by unfold Func.isWrapper; first | (rw [if_pos (by decide +kernel)]; kernel_rfl) | (rw [if_neg (by decide +kernel)]; exact ⟨rfl, rfl⟩))
    (fun os started H enc _ F => lifted8 os started H enc F)

theorem sealTurned_holds : Rows.SealTurnedUptoSaid := over8
end Go.Proofs.Ytiaddnmloonhgaa

#print axioms Go.Proofs.Ytiaddnmloonhgaa.sealTurned_holds
