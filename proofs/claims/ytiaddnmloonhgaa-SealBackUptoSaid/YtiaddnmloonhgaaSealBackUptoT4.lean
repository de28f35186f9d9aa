/- SealBack, for every case of bulk at most 1048576: what is sealed opens as it was; what opens is the seal of what it tells; the stream twice is nothing. -/
import Derived.Test.YtiaddnmloonhgaaSealBackUptoT3
import Derived.WalkKit
import Derived.ProofKit
import Derived.JoinedCond

/- SealBack comes to true. -/
namespace Go.Proofs.Ytiaddnmloonhgaa
open Go Go.Eng
set_option maxRecDepth 100000
set_option maxHeartbeats 4000000

theorem f6_true {key nonce op text other : List Int} {at_ by_ : Int} (hbt : Bytes text) (hbo : Bytes other) (h1 : op.length ≤ 1048576) (h2 : text.length ≤ 1048576) (h3 : other.length ≤ 1048576) :
    f6_raw 0 key nonce op text other at_ by_ some = some [.v (.one (.bool true))] := by
  have a1 : op.length.ble lim5 = true := by rw [Nat.ble_eq]; show _ ≤ 68719476736; omega
  have a2 : text.length.ble lim5 = true := by rw [Nat.ble_eq]; show _ ≤ 68719476736; omega
  have a3 : (sealL key nonce op text).length.ble lim5 = true := by rw [Nat.ble_eq, sealL_length]; show _ ≤ 68719476736; omega
  have a4 : text.length.ble lim = true := by rw [Nat.ble_eq]; show _ ≤ 1099511627776; omega
  have a5 : other.length.ble lim5 = true := by rw [Nat.ble_eq]; show _ ≤ 68719476736; omega
  have a15 : other.length.ble lim = true := by rw [Nat.ble_eq]; show _ ≤ 1099511627776; omega
  have ol := open_length key nonce op other
  have a6 : (openL key nonce op other).1.length.ble lim5 = true := by rw [Nat.ble_eq]; show _ ≤ 68719476736; omega
  have a7 : (sealL key nonce op (openL key nonce op other).1).length.ble lim = true := by rw [Nat.ble_eq, sealL_length]; show _ ≤ 1099511627776; omega
  have a8 : tooFar (Int.toNat 1) text.length = false := near (by omega)
  have a9 : (streamL key (Int.toNat 1) nonce text).length.ble lim = true := by rw [Nat.ble_eq, streamL_length]; show _ ≤ 1099511627776; omega
  have a10 : tooFar (Int.toNat 1) (streamL key (Int.toNat 1) nonce text).length = false := near (by rw [streamL_length]; omega)
  have a12 : hiOk (some (nI (rowLen 1 text))) (rowLen 1 (sealL key nonce op text)) = true := hiOk_nat (by rw [rowLen_one, rowLen_one, sealL_length]; omega)
  have a13 : Go.Eng.sub (sealL key nonce op text) (plusO .z 1 none) (mulE (subN (hiNat (some (nI (rowLen 1 text))) (rowLen 1 (sealL key nonce op text))) none) 1) = streamL key (Int.toNat 1) nonce text := by
    show (sealL key nonce op text).take (nI text.length).toNat = _
    rw [sealL_eq, nI, Int.toNat_natCast]
    exact List.take_left' (streamL_length _ _ _ _)
  have a14 : (nI (rowLen 1 (sealL key nonce op text)) != IntKind.i64.wrap (nI (rowLen 1 text) + 16)) = false := by
    rw [wrapI (n := text.length + 16) (by simp [rowLen_one, nI]) (by omega), rowLen_one, sealL_length]
    simp [nI]
  have o1 : ((openL key nonce op (sealL key nonce op text)).snd != 0) = false := by rw [open_seal key nonce op hbt]; rfl
  have o2 : (openL key nonce op (sealL key nonce op text)).fst = text := by rw [open_seal key nonce op hbt]
  have st := stream_twice key (Int.toNat 1) nonce hbt
  unfold f6_raw
  rcases open_cases key nonce op other with h0 | ⟨hn, h0⟩
  · have so := seal_open key nonce op hbo h0
    have p1 : ((openL key nonce op other).snd == 0) = true := by rw [h0]; rfl
    simp only [a1, a2, a3, a4, a5, a15, a6, a7, a8, a9, a10, a12, a13, a14, o2, st, so, p1, cond_true, cond_false, Bool.and_self, decide_true, Bool.not_true, Bool.not_false, o1]
    rfl
  · rcases h0 with ⟨h0, hl⟩ | ⟨h0, hl⟩
    · have p2 : decide (nI (rowLen 1 other) < 16) = true := decide_eq_true (by show (other.length : Int) < 16; omega)
      simp only [a1, a2, a3, a4, a5, a15, a8, a9, a10, a12, a13, a14, o1, o2, st, hn, h0, p2, cond_true, cond_false, Bool.and_self, decide_true, Bool.not_true, Bool.not_false]
      rfl
    · have p2 : decide (nI (rowLen 1 other) < 16) = false := decide_eq_false (by show ¬ (other.length : Int) < 16; omega)
      simp only [a1, a2, a3, a4, a5, a15, a8, a9, a10, a12, a13, a14, o1, o2, st, hn, h0, p2, cond_true, cond_false, Bool.and_self, decide_true, Bool.not_true, Bool.not_false]
      rfl

end Go.Proofs.Ytiaddnmloonhgaa

/- What rime/rimelaw12.works comes to. MADE BY PROGRAM (wip/tools/mkfn.py, EngGen.lean). -/
namespace Go.Proofs.Ytiaddnmloonhgaa
open Go Go.Eng
set_option maxRecDepth 100000
set_option linter.unusedVariables false

def f23_raw {R : Type} (N : Nat)  (k : List DV → Option R) : Option R :=
 let v0 : List Int := (Go.Eng.zerosOf (1 * 1)).set 0 97;
let v1 : List Int := (Go.Eng.zerosOf (4 * 1)).set 0 116;
let v2 : List Int := v1.set 1 101;
let v3 : List Int := v2.set 2 120;
let v4 : List Int := v3.set 3 116;
let v5 : Bool := bif Go.Eng.nI (Go.Eng.rowLen 1 (Go.Proofs.Ytiaddnmloonhgaa.sealL (List.replicate 32 0) (List.replicate 12 0) v0 v4)) == 20 then (Go.Proofs.Ytiaddnmloonhgaa.openL (List.replicate 32 0) (List.replicate 12 0) v0 (Go.Proofs.Ytiaddnmloonhgaa.sealL (List.replicate 32 0) (List.replicate 12 0) v0 v4)).snd == 0 else Bool.false;
let v6 : Bool := bif v5 then (Go.Eng.mkBytes (Go.Proofs.Ytiaddnmloonhgaa.openL (List.replicate 32 0) (List.replicate 12 0) v0 (Go.Proofs.Ytiaddnmloonhgaa.sealL (List.replicate 32 0) (List.replicate 12 0) v0 v4)).fst).toList == (ByteArray.mk #[116, 101, 120, 116]).toList else Bool.false;
let v7 : List Int := (Go.Eng.zerosOf (1 * 1)).set 0 98;
let v8 : Bool := bif v6 then (Go.Proofs.Ytiaddnmloonhgaa.openL (List.replicate 32 0) (List.replicate 12 0) v7 (Go.Proofs.Ytiaddnmloonhgaa.sealL (List.replicate 32 0) (List.replicate 12 0) v0 v4)).snd == 121 else Bool.false;
k [Go.Eng.DV.v (Go.Eng.SV.one (Go.Eng.At.bool v8))]


noncomputable def E23 (N : Nat) : Env := { Θ := Th, Γ := G23, K := K23, ν := N23, fuel := 0, lp := [] }


theorem f23_contract (N : Nat) (hΓ : CtxOk Try.prog G23) : Contract Try.prog 23 { sig := S23, impl := fun _ ds k => call (E23 N) S23 51 B23 R23 ds k } :=
  call_contract (E := E23 N) thOk hΓ mixed ok23.look ok23.body ok23.n ok23.rv rfl (by decide) (loopsOk_of (l := []) (by kernel_rfl) trivial)
theorem f23_raw_eq {R : Type} (N : Nat)  (k : List DV → Option R) : call (E23 N) S23 51 B23 R23 [] k = f23_raw N  k := by kernel_rfl
end Go.Proofs.Ytiaddnmloonhgaa

/- A text sealed is opened; with a bit turned it is not. -/
namespace Go.Proofs.Ytiaddnmloonhgaa
open Go Go.Eng
set_option maxRecDepth 100000

def z32 : List Int := List.replicate 32 0
def z12 : List Int := List.replicate 12 0
def textB : List Int := [116, 101, 120, 116]

theorem tag_unlike : (tagL z32 z12 [98] (streamL z32 1 z12 textB) == tagL z32 z12 [97] (streamL z32 1 z12 textB)) = false := by decide +kernel

theorem textB_bytes : Bytes textB := by
  intro x hx
  simp only [textB, List.mem_cons, List.not_mem_nil, or_false] at hx
  omega

theorem open_other : openL z32 z12 [98] (sealL z32 z12 [97] textB) = ([], 121) := by
  have hl : (streamL z32 1 z12 textB).length = 4 := streamL_length _ _ _ _
  unfold openL
  rw [sealL_length]
  rw [if_neg (show ¬ textB.length + 16 < 16 by decide)]
  rw [sealL_eq]
  rw [show textB.length + 16 - 16 = 4 from rfl, List.take_left' hl, List.drop_left' hl, List.take_of_length_le (by rw [tagL_length]; omega), if_neg]
  intro h
  have := tag_unlike
  rw [h] at this
  simp at this

theorem works_true {R : Type} (k : List DV → Option R) : f23_raw 0 k = k [.v (.one (.bool true))] := by
  have e1 := open_seal z32 z12 [97] textB_bytes
  have e2 := open_other
  have e3 := sealL_length z32 z12 [97] textB
  unfold f23_raw
  simp only []
  rw [show (zerosOf (1 * 1)).set 0 97 = [97] from rfl, show (zerosOf (1 * 1)).set 0 98 = [98] from rfl, show ((((zerosOf (4 * 1)).set 0 116).set 1 101).set 2 120).set 3 116 = textB from rfl]
  rw [show (List.replicate 32 0 : List Int) = z32 from rfl, show (List.replicate 12 0 : List Int) = z12 from rfl]
  rw [e1, e2, rowLen_one, e3]
  rw [show mkBytes (textB, (0 : Int)).fst = ByteArray.mk #[116, 101, 120, 116] from rfl]
  rw [show ((ByteArray.mk #[116, 101, 120, 116]).toList == (ByteArray.mk #[116, 101, 120, 116]).toList) = true from beq_self_eq_true _]
  rfl

theorem c23 : Contract Try.prog 23 { sig := S23, impl := I23 } := by
  refine Contract.refine fun R ds k r h => ⟨_, f23_contract 0 G23_ok, ?_⟩
  unfold I23 at h
  split at h
  · rw [f23_raw_eq, works_true]; exact h
  · cases h

theorem G6_ok : CtxOk Try.prog G6 := ctxOk_cons ok16 rfl c16 (ctxOk_cons ok20 rfl c20 (ctxOk_cons ok23 rfl c23 (ctxOk_cons ok24 rfl c24 (ctxOk_cons ok26 rfl c26 (ctxOk_cons ok28 rfl c28 (ctxOk_cons ok18 rfl c18 (ctxOk_cons ok30 rfl c30 ctxOk_nil)))))))
end Go.Proofs.Ytiaddnmloonhgaa

/- SealBack, for every case of bulk at most 1048576: what is sealed opens as it was; what opens is the seal of what it tells; the stream twice is nothing. -/
namespace Go.Proofs.Ytiaddnmloonhgaa
open Go Go.Eng Go.ChangeShapes Go.WideShapes Go.RowKit Go.ChangeAt
set_option maxRecDepth 100000

theorem contract6 (H : Type) (enc : TypeId × Value → H) (W : World) (base : Nat) (args : Array Value) (ds gs : List (DataW H)) (before : List MemPlace)
    (hval : ∀ (j : Nat) t v, Try.f6.params[j]? = some t → args[j]? = some v → Value.okWide Try.prog W .any base t v)
    (hW : DataW.Whole enc Try.prog Try.f6.params.toList Rows.sealBackSpec.vars false W args.toList ds gs before) (hk : Rows.uptoSmall H (ds ++ gs) = true) :
    Calls Try.prog 6 args W fun e W' => ∃ v, e = .returned v ∧ Rows.sealBackSpec.post enc Try.prog Try.f6 false true false false W args v W' := by
  have hW' := hW
  obtain ⟨p, q, hA, hV, rfl, hfz, hnd⟩ := hW
  obtain ⟨rfl, rfl⟩ := trodVars_none hV
  rw [Try.params6] at hA hval
  obtain ⟨v0, vs0, d0, ds0, p0, q0, hargs, rfl, rfl, h0, r0⟩ := trodAll_cons hA
  obtain ⟨rfl, rfl, rfl⟩ := trodAll_nil r0
  obtain rfl : args = #[v0] := by cases args; simp_all
  have hb := bulk_bound hk
  simp only [List.append_nil, Rows.uptoBulkAll, Nat.add_zero] at hb
  obtain ⟨key, nonce, op, text, other, at_, by_, ρ, hc⟩ := case_open (hval 0 66 v0 rfl rfl) h0 hb
  obtain ⟨_, _, b1, b2, b3, _, _, _, hbt, hbo, _, _, hs⟩ := hc 126
  have he := f6_true (key := key) (nonce := nonce) (op := op) (at_ := at_) (by_ := by_) hbt hbo b1 b2 b3
  rw [← f6_raw_eq] at he
  refine (law_calls thOk G6_ok mixed ok6 (f6_loops 0 G6_ok) (fun _ => id) (hs (by omega)) he).mono fun e W' ⟨h1, h2, h3, h4⟩ => ?_
  exact ⟨_, h1, post_of_law laidOut (by kernel_rfl) Try.underlying4 rfl (by rw [Try.params6]; intro t ht; simp at ht; subst ht; exact ⟨by kernel_rfl, by decide +kernel⟩) ⟨rfl, rfl, rfl⟩ hW' h2 h3 h4⟩

def wCase : Value := .agg (Array.mk ((List.replicate 44 (Value.int .u8 0)) ++ [Value.slice none 0 0, Value.slice none 0 0, Value.slice none 0 0, Value.int .i64 0, Value.int .u8 0]))
def wCaseD (H : Type) : DataW H := .agg [.agg (List.replicate 32 (.lit (.int .u8 0))), .agg (List.replicate 12 (.lit (.int .u8 0))), .nil, .nil, .nil, .lit (.int .i64 0), .lit (.int .u8 0)]

theorem lifted6 (os : Os) (started : os.Started) (H : Type) (enc : TypeId × Value → H) (F : Stop.Interp) :
    ReturnsInHanded {} Try.checked os 6 .any ((Rows.OpenSpec.upto Rows.sealBackSpec).pre6 enc Try.prog Try.f6 Rows.sealBackUptoRow.domain false) (((Rows.OpenSpec.upto Rows.sealBackSpec).at F).post enc Try.prog Try.f6 false true false false) := by
  refine returnsInHanded_of_cond (C := Try.checked) (s := Rows.OpenSpec.upto Rows.sealBackSpec) (k := Rows.uptoSmall) rfl own0 started (by kernel_rfl) Try.func6
    (OpenSpec.witness (enc := enc) (C := Try.checked) (s := Rows.OpenSpec.upto Rows.sealBackSpec) (k := Rows.uptoSmall) rfl false ⟨#[], #[wCase], []⟩ 8 (by kernel_rfl) (by kernel_rfl) (by kernel_rfl)
      (x := ([wCaseD H], [], [])) (by kernel_rfl) rfl (by kernel_rfl)) ?_
  intro W base args ds gs before hval hW _ hk _
  exact contract6 H enc W base args ds gs before hval hW hk

theorem over6 : Rows.sealBackUptoRow.holds Try.pinned (Rows.OpenSpec.upto Rows.sealBackSpec) :=
  OpenClaim.holds_of_cond 6 Try.f6 rfl rfl rfl rfl rfl rfl rfl ⟨rfl, rfl, rfl, rfl, rfl⟩ rfl rfl rfl rfl rfl (by kernel_rfl) Try.func6 (by kernel_rfl)
    (of_decide_eq_true (by kernel_rfl)) (by unfold Func.isWrapper; first | (rw [if_pos (by decide +kernel)]; kernel_rfl) | (rw [if_neg (by decide +kernel)]; exact ⟨rfl, rfl⟩))
    (fun os started H enc _ F => lifted6 os started H enc F)

theorem sealBack_holds : Rows.SealBackUptoSaid := over6
end Go.Proofs.Ytiaddnmloonhgaa

#print axioms Go.Proofs.Ytiaddnmloonhgaa.sealBack_holds
