/- SealMacs: for any key and bytes whose data stay within 1,048,576: the tag is the document's, and the bytes that were handed in stand as they stood. -/
import Derived.Test.YtiaddnmloonhgaaSealMacsUptoSaidT4
import Derived.WalkKit
import Derived.ProofKit
import Derived.JoinedCond
set_option linter.unusedVariables false
set_option linter.unusedSimpArgs false

/- SealMacs: for any key and bytes whose data stay within 1,048,576: the tag is the document's, and the bytes that were handed in stand as they stood. -/
namespace Go.Proofs.Ytiaddnmloonhgaa
open Go Go.Eng Go.ChangeShapes Go.WideShapes Go.RowKit Go.ChangeAt
set_option maxRecDepth 100000

theorem contract4 (H : Type) (enc : TypeId × Value → H) (W : World) (base : Nat) (args : Array Value) (ds gs : List (DataW H)) (before : List MemPlace)
    (hval : ∀ (j : Nat) t v, Try.f4.params[j]? = some t → args[j]? = some v → Value.okWide Try.prog W .any base t v)
    (hW : DataW.Whole enc Try.prog Try.f4.params.toList Rows.sealMacsSpec.vars false W args.toList ds gs before) (hk : Rows.uptoSmall H (ds ++ gs) = true) :
    Calls Try.prog 4 args W fun e W' => ∃ v, e = .returned v ∧ Rows.sealMacsSpec.post enc Try.prog Try.f4 false true false false W args v W' := by
  have hW' := hW
  obtain ⟨p, q, hA, hV, rfl, hfz, hnd⟩ := hW
  obtain ⟨rfl, rfl⟩ := trodVars_none hV
  rw [Try.params4] at hA hval
  obtain ⟨v0, vs0, d0, ds0, p0, q0, hargs, rfl, rfl, h0, r0⟩ := trodAll_cons hA
  obtain ⟨v1, vs1, d1, ds1, p1, q1, rfl, rfl, rfl, h1, r1⟩ := trodAll_cons r0
  obtain ⟨rfl, rfl, rfl⟩ := trodAll_nil r1
  obtain rfl : args = #[v0, v1] := by cases args; simp_all
  have hb := bulk_bound hk
  simp only [List.append_nil, Rows.uptoBulkAll, Nat.add_zero] at hb
  obtain ⟨x0, rfl, l0, w0⟩ := open_arr Try.underlying23 Try.underlying5 (by kernel_rfl) (by kernel_rfl) (hval 0 23 v0 rfl rfl) h0
  obtain ⟨A1, n1, c1, rfl⟩ := okWide_slice Try.underlying27 (hval 1 27 v1 rfl rfl)
  obtain ⟨f1, h1⟩ := h1
  obtain ⟨x1, len1, cap1, Ad1, loc1, o11, o12, l1, o14, o15, o16, w1, o18⟩ := open_view (k := .u8) (es := 1) Try.underlying27 (by omega) (elB H enc) h1
  have b1 : len1 ≤ Rows.uptoBulk d1 := bulk_slice o18
  have hs : Sim W ⟨fun _ => False, locOf [(1, loc1)], fun _ => 0, (start4s 20 x0 x1).S⟩ (⟨locOf [(1, loc1)], fun _ => 0⟩ : Rho) (start4s 20 x0 x1) { tmps := #[.agg (x0.map (Value.int .u8)).toArray, .slice A1 n1 c1] ++ Array.replicate (20 - 2) undef, defers := [] } W := by
    refine sim_start (s0 := start4s 20 x0 x1) (ρ := ⟨locOf [(1, loc1)], fun _ => 0⟩) (args := #[.agg (x0.map (Value.int .u8)).toArray, .slice A1 n1 c1]) (n := 20) (avs := [.s (.one (.ints .u8 32 x0)), .s (.one (.own 1))]) rfl (by simp) rfl ?_ ?_ ?_ ⟨⟨rfl, l0⟩, (show RelAt ⟨locOf [(1, loc1)], fun _ => 0⟩ (start4s 20 x0 x1).S (.own 1) [Value.slice A1 n1 c1] from rel_own rfl o11 o12 l1 o15 (by omega) rfl), trivial⟩
    · simp [start4s, Nodup', putNames]
    · intro j it hi
      simp only [start4s, AS.I, findI_cons] at hi
      split at hi
      · rename_i hj; subst hj; injection hi with hi; subst hi
        exact ⟨_, _, _, rfl, by omega, ⟨len1, l1⟩, o14⟩
      ·
        simp [findI] at hi
    · intro j p hp
      simp only [locOf] at hp
      split at hp
      · exact o16 p hp
      ·
        cases hp
  have he := f4_true 0 (b := x1) (okN_row l0 w0) (okY_row (by omega) w1) (by omega)
  rw [← f4_raw_eq] at he
  refine (law_calls thOk2 QM_ok mixed ok4 (f4_loops 0 QM_ok) (fun _ => id) hs he).mono fun e W' ⟨h1, h2, h3, h4⟩ => ?_
  exact ⟨_, h1, post_of_law laidOut (by kernel_rfl) Try.underlying4 rfl (by rw [Try.params4]; intro t ht; simp only [List.mem_cons, List.not_mem_nil, or_false] at ht; rcases ht with rfl | rfl <;> exact ⟨by kernel_rfl, by decide +kernel⟩) ⟨rfl, rfl, rfl⟩ hW' h2 h3 h4⟩

theorem lifted4 (os : Os) (started : os.Started) (H : Type) (enc : TypeId × Value → H) (F : Stop.Interp) :
    ReturnsInHanded {} Try.checked os 4 .any ((Rows.OpenSpec.upto Rows.sealMacsSpec).pre6 enc Try.prog Try.f4 Rows.sealMacsUptoRow.domain false) (((Rows.OpenSpec.upto Rows.sealMacsSpec).at F).post enc Try.prog Try.f4 false true false false) := by
  refine returnsInHanded_of_cond (C := Try.checked) (s := Rows.OpenSpec.upto Rows.sealMacsSpec) (k := Rows.uptoSmall) rfl own0 started (by kernel_rfl) Try.func4
    (OpenSpec.witness (enc := enc) (C := Try.checked) (s := Rows.OpenSpec.upto Rows.sealMacsSpec) (k := Rows.uptoSmall) rfl false ⟨#[], #[.agg (Array.mk (List.replicate 32 (Value.int .u8 0))), .slice none 0 0], []⟩ 8 (by kernel_rfl) (by kernel_rfl) (by kernel_rfl)
      (x := ([.agg (List.replicate 32 (.lit (.int .u8 0))), .nil], [], [])) (by kernel_rfl) rfl (by kernel_rfl)) ?_
  intro W base args ds gs before hval hW _ hk _
  exact contract4 H enc W base args ds gs before hval hW hk

theorem over4 : Rows.sealMacsUptoRow.holds Try.pinned (Rows.OpenSpec.upto Rows.sealMacsSpec) :=
  OpenClaim.holds_of_cond 4 Try.f4 rfl rfl rfl rfl rfl rfl rfl ⟨rfl, rfl, rfl, rfl, rfl⟩ rfl rfl rfl rfl rfl (by kernel_rfl) Try.func4 (by kernel_rfl)
    (of_decide_eq_true (by kernel_rfl)) (by unfold Func.isWrapper; first | (rw [if_pos (by decide +kernel)]; kernel_rfl) | (rw [if_neg (by decide +kernel)]; exact ⟨rfl, rfl⟩))
    (fun os started H enc _ F => lifted4 os started H enc F)

theorem sealMacs_holds : Rows.SealMacsUptoSaid := over4
end Go.Proofs.Ytiaddnmloonhgaa

#print axioms Go.Proofs.Ytiaddnmloonhgaa.sealMacs_holds
