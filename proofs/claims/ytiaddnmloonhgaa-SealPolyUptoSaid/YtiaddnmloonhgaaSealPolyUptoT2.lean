/- A part of the proof: SealPoly, for every key and bytes of bulk at most 1048576: s is added; r = 0 or no bytes give s alone; r = 1 gives the sum of the pieces. -/
import Derived.Test.YtiaddnmloonhgaaSealPolyUptoT1
import Derived.OpenShut
import Derived.Below
import Derived.ChangeSame
import Derived.Carry
import Derived.Test.YtiaddnmloonhgaaProg
import Derived.KernelRfl
set_option linter.unusedVariables false
set_option linter.unusedSimpArgs false

/- The engine, at a law: what it answers, when its run comes to true. -/
namespace Go.Eng
open Go

theorem law_calls {P : Program} {E : Env} (hΘ : TypesOk P E.Θ) (hΓ : CtxOk P E.Γ) (hm : P.follows .mixedOrders = true) {f : Nat} {fn : Func} {n : Nat} {body : Code} {rv : List ResultVar} (ok : FnOk P f fn n body rv) (hlp : LoopsOk P E.lp body)
    {args : Array Value} {W : World} {s0 : AS} {ρ : Rho} {Mu : MuT} (hMu : ∀ b, ¬ Mu b) (hs : Sim W Mu ρ s0 { tmps := args ++ Array.replicate (n - args.size) undef, defers := [] } W)
    (he : exec E body s0 (retK E.Θ { ps := [], rs := [.val] } [] rv some) = some [.v (.one (.bool true))]) :
    Calls P f args W fun e W' => e = .returned (.bool true) ∧ Still W W' ∧ W.heap.size ≤ W'.heap.size ∧ ∀ b, b < W.heap.size → W'.heap[b]? = W.heap[b]? := by
  obtain ⟨e, s', h1, h2⟩ := (exec_sound hΘ hΓ hm body hlp).1 _ _ _ he
  have key : ∃ vs os us ms, (∀ i, e ≠ .exit i) ∧ resSV E.Θ s' rv = some vs ∧ outsOf s'.I [.val] vs = some (os, us) ∧ mutOuts s'.I 0 [] [] = some ms ∧ some (os ++ ms) = some [.v (.one (.bool true))] := by
    unfold retK at h1
    split at h1
    · cases h1
    · rename_i he
      split at h1
      · cases h1
      · split at h1
        · rename_i vs hvs
          split at h1
          · rename_i os us ms ho hmm
            split at h1
            · exact ⟨vs, os, us, ms, fun i h => he i h, hvs, ho, hmm, h1⟩
            · cases h1
          · cases h1
        · cases h1
  obtain ⟨vs, os, us, ms, hx, hvs, ho, hmo, hk⟩ := key
  have hms : ms = [] := by simp only [mutOuts] at hmo; injection hmo with hmo; exact hmo.symm
  subst hms
  rw [List.append_nil] at hk
  injection hk with hk
  subst hk
  obtain ⟨o1, o2, U, o3, o4, o5, o6⟩ := outsOf_spec ho
  obtain ⟨v, rfl⟩ : ∃ v, vs = [v] := by
    cases vs with
    | nil => simp at o2
    | cons v l => cases l with
      | nil => exact ⟨v, rfl⟩
      | cons _ _ => simp at o2
  obtain ⟨u, rfl⟩ : ∃ u, U = [u] := by
    cases U with
    | nil => simp at o3
    | cons v l => cases l with
      | nil => exact ⟨v, rfl⟩
      | cons _ _ => simp at o3
  have hv := o5 0 _ _ _ _ rfl rfl rfl rfl
  have hv : v = .one (.bool true) := by
    simp only [outOf] at hv
    split at hv
    · injection hv with hv; injection hv with h1 h2; injection h1
    · cases hv
  subst hv
  have hn := ok.n
  subst hn
  refine calls_of_wp ok.look ok.body ?_
  refine reaches_iff.1 h2 W _ _ _ _ _ hs ?_
  intro a' W' ρ' hs'
  obtain ⟨Xs, x1, x2, x3, x4⟩ := resSV_spec hΘ hs' hvs
  have hpost : a'.defers = [] ∧ ∃ v, (results fn a'.tmps).run P W' = .ok v W' ∧ (Ending.returned v = .returned (.bool true) ∧ Still W W' ∧ W.heap.size ≤ W'.heap.size ∧ ∀ b, b < W.heap.size → W'.heap[b]? = W.heap[b]?) := by
    refine ⟨hs'.defers, resVal Xs, results_eq fn _ _ (by rw [ok.rv]; exact x4), ?_, hs'.still, hs'.mono, fun b hb => hs'.frame b hb (hMu b)⟩
    obtain ⟨X, rfl⟩ : ∃ X, Xs = [X] := by
      have : Xs.length = 1 := by rw [x1, ← x2]; rfl
      cases Xs with
      | nil => simp at this
      | cons v l => cases l with
        | nil => exact ⟨v, rfl⟩
        | cons _ _ => simp at this
    have := x3 0 _ X rfl rfl
    simp only [RelSV, RelAt, List.cons.injEq, and_true] at this
    rw [this]; rfl
  cases e with
  | normal => exact hpost
  | ret => exact hpost
  | exit i => exact absurd rfl (hx i)

end Go.Eng

/- The engine, at a row: arguments are opened; what a law leaves is shut. -/
namespace Go.Eng
open Go Go.ChangeShapes Go.WideShapes Go.RowKit

section
variable {H : Type} {enc : TypeId × Value → H} {P : Program}

/-! ### shutting -/

theorem post_of_law {f : Func} {s : ChangeSpec} {apart fresh handsOn again : Bool} {W W' : World} {args : Array Value} {ds gs : List (DataW H)} {before : List MemPlace} {tb : TypeId}
    (hl : laidOutB P = true) (hres : f.resultTypes = #[tb]) (htb : P.underlying tb = some .bool) (hvs : s.vars = [])
    (hts : ∀ t ∈ f.params.toList, P.readableRec t = true ∧ t < P.types.size)
    (hfn : (s.fn H (ds ++ gs)).results = [.lit (.bool true)] ∧ (s.fn H (ds ++ gs)).args = ds ∧ (s.fn H (ds ++ gs)).vars = [])
    (hW : DataW.Whole enc P f.params.toList s.vars apart W args.toList ds gs before)
    (hst : Still W W') (hsz : W.heap.size ≤ W'.heap.size) (hbl : ∀ b, b < W.heap.size → W'.heap[b]? = W.heap[b]?) :
    s.post enc P f apart fresh handsOn again W args (.bool true) W' := by
  obtain ⟨W2, hW2, hB⟩ : ∃ W2 : World, W2.heap = W'.heap ∧ Below W.heap.size W W2 := ⟨{ W' with tape := W.tape }, rfl, ⟨hst.1, rfl, hst.2, hsz, hbl⟩⟩
  have hlt : ∀ p ∈ before, p.block < W.heap.size := fun p hp => hW.lt p hp
  have hW0 := hW
  obtain ⟨p, q, hA, hV, rfl, hz, hn⟩ := hW
  rw [hvs] at hV
  obtain ⟨rfl, rfl⟩ := trodVars_none hV
  rw [List.append_nil] at hlt hz hn
  have hargs2 : ∀ sp : Nat → Bool, (∀ b, b < W.heap.size → sp b = true) → ∀ {ts : List TypeId} {vs : List Value} {ds : List (DataW H)} {p : List MemPlace}, (∀ t ∈ ts, P.readableRec t = true ∧ t < P.types.size) → (∀ x ∈ p, x.block < W.heap.size) →
      DataW.TrodAll enc P W 0 (fun _ => true) true ts vs ds p → DataW.TrodAll enc P W' 0 sp true ts vs ds p := by
    intro sp hsp ts
    induction ts with
    | nil =>
      intro vs ds p _ _ h
      obtain ⟨rfl, rfl, rfl⟩ := trodAll_nil h
      exact trodAll_mk0
    | cons t ts ih =>
      intro vs ds p ht hp h
      obtain ⟨v, vs1, d, ds1, a, b, rfl, rfl, rfl, h1, h2⟩ := trodAll_cons h
      have r1 := WideElems.Trod_stays hl (ht t (.head _)).1 (ht t (.head _)).2 h1 (fun x hx => hB.same (hp x (by simp [hx]))) (sp' := sp) (fun x hx => hsp _ (hp x (by simp [hx])))
      exact ⟨a, b, DataW.Trod.of_heap hW2 r1, ih (fun u hu => ht u (.tail _ hu)) (fun x hx => hp x (by simp [hx])) h2, rfl⟩
  have hres2 : ∀ (b : Nat) (sp : Nat → Bool) (hd : Bool), DataW.TrodAll enc P W' b sp hd f.resultTypes.toList ((Value.bool true).resultList f.resultTypes.size) (s.fn H (ds ++ [])).results [] := by
    intro b sp hd
    rw [hres, hfn.1]
    exact trodAll_mk1 (shut_bool htb true)
  have hvar2 : ∀ sp, DataW.TrodVars enc P W' sp s.vars (s.fn H (ds ++ [])).vars [] := by
    intro sp; rw [hvs, hfn.2.2]; rfl
  refine ⟨ds, [], p ++ [], [], p, [], hW0, hres2 _ _ _, ?_, hvar2 _, ?_, fun _ => ⟨?_, [.lit (.bool true)] ++ ds, [], ([] ++ p) ++ [], ⟨[] ++ p, [], ?_, ?_, rfl, ?_, ?_⟩, ?_⟩⟩
  · rw [hfn.2.1]
    exact hargs2 _ (fun b hb => by simpa using hb) hts hlt hA
  · refine ⟨hst.1, hst.2, fun i hi => ?_⟩
    rw [hbl i hi]
    split <;> simp_all
  · exact ok_one hres rfl (okWide_bool_mk htb true)
  · have h1 := hres2 0 (fun _ => true) true
    rw [hfn.1] at h1
    exact trodAll_append (hargs2 _ (fun _ _ => rfl) hts hlt hA) h1
  · rw [hvs]; rfl
  · intro b off hp
    rw [List.append_nil, List.nil_append] at hp
    have := hB.frozen (p := ⟨b, off, none⟩) (hlt _ hp)
    have e : W'.frozen? ⟨b, off, none⟩ = W2.frozen? ⟨b, off, none⟩ := by unfold World.frozen?; rw [hW2]
    rw [e, this]
    exact hz b off hp
  · intro ha
    rw [List.append_nil, List.nil_append]
    exact hn ha
  · intro x hx _
    simpa using hx

/-! ### opening -/

/-- what a reading's cells are: so many numbers of one kind -/
def IntEl (H : Type) (enc : TypeId × Value → H) (P : Program) (e : Nat) (k : IntKind) (es : Nat) : Prop :=
  P.cellsOf e = es ∧ ∀ (w : World) base sp hd n cs (x : DataW H × List MemPlace), DataW.trod enc P w base sp hd n e cs = some x → ∃ ys : List Int, cs = ys.map (Value.int k) ∧ ys.length = es ∧ ∀ y ∈ ys, (Lit.int k y).wf = true

theorem intEl_int {e : Nat} {k : IntKind} (he : P.underlying e = some (.int k)) (hc : P.cellsOf e = 1) : IntEl H enc P e k 1 := by
  refine ⟨hc, fun w base sp hd n cs x h => ?_⟩
  obtain ⟨m, rfl, _, hw⟩ := DataW.trod_int he h
  exact ⟨[m], rfl, rfl, by simpa using hw⟩

theorem chunks {k : IntKind} {es : Nat} (hpos : 0 < es) : ∀ (n : Nat) (cs : List Value), cs.length = n * es → (∀ i, i < n → ∃ ys : List Int, (cs.drop (i * es)).take es = ys.map (Value.int k) ∧ ys.length = es ∧ ∀ y ∈ ys, (Lit.int k y).wf = true) →
    ∃ ys : List Int, cs = ys.map (Value.int k) ∧ ys.length = n * es ∧ ∀ y ∈ ys, (Lit.int k y).wf = true
  | 0, cs, h, _ => by
    have : cs = [] := List.eq_nil_of_length_eq_zero (by simpa using h)
    exact ⟨[], by simp [this], by simp, by simp⟩
  | n + 1, cs, h, hh => by
    obtain ⟨ys, e1, e2, e3⟩ := hh 0 (by omega)
    obtain ⟨zs, f1, f2, f3⟩ := chunks hpos n (cs.drop es) (by rw [List.length_drop, h, Nat.succ_mul]; omega) (fun i hi => by
      obtain ⟨ys, e1, e2, e3⟩ := hh (i + 1) (by omega)
      refine ⟨ys, ?_, e2, e3⟩
      rw [List.drop_drop, ← e1, Nat.succ_mul, Nat.add_comm])
    refine ⟨ys ++ zs, ?_, by rw [List.length_append, e2, f2, Nat.succ_mul]; omega, ?_⟩
    · rw [List.map_append, ← f1, ← e1]; simp
    · intro y hy
      rcases List.mem_append.1 hy with hy | hy
      · exact e3 y hy
      · exact f3 y hy

theorem intEl_array {t e n : Nat} {k : IntKind} {es : Nat} (ht : P.underlying t = some (.array n e)) (hc : P.cellsOf t = n * es) (hpos : 0 < es) (he : IntEl H enc P e k es) : IntEl H enc P t k (n * es) := by
  refine ⟨hc, fun w base sp hd m cs x h => ?_⟩
  obtain ⟨xs, m', rfl, rfl, hl, hlen, hf⟩ := DataW.trod_array ht h
  rw [hc] at hl
  refine chunks hpos n cs hl fun i hi => ?_
  have h1 := hf i hi
  rw [he.1, List.getElem?_eq_getElem (by omega)] at h1
  exact he.2 _ _ _ _ _ _ _ h1

theorem cells?_get {w : World} {base : Nat} {a : Addr} {n : Nat} {cs : List Value} (h : w.cells? base a n = some cs) : cs.length = n ∧ ∀ i, i < n → w.cell? (a.add i) = cs[i]? := by
  unfold World.cells? at h
  split at h
  · exact ⟨by simpa using mapM_some_length h, fun i hi => mapM_some_get h i i (by simp [hi])⟩
  · cases h

/-- a slice that is read: what it holds, as a view -/
theorem open_view {t e : Nat} {k : IntKind} {es : Nat} (ht : P.underlying t = some (.slice e)) (hpos : 0 < es) (he : IntEl H enc P e k es) {w : World} {base : Nat} {sp : Nat → Bool} {hd : Bool} {fuel : Nat} {cs : List Value} {x : DataW H × List MemPlace}
    (h : DataW.trod enc P w base sp hd fuel t cs = some x) :
    ∃ (xs : List Int) (len c : Nat) (A : Option Addr) (loc : Option (Nat × Nat)), cs = [.slice A len c] ∧ len ≤ c ∧ xs.length = len * es ∧ ViewAt k xs loc w ∧ (0 < xs.length → A = loc.map (adr · 0)) ∧ (∀ p, loc = some p → p.1 < w.heap.size) ∧
      (∀ y ∈ xs, (Lit.int k y).wf = true) ∧ ((x.1 = .nil ∧ len = 0) ∨ ∃ elems spare, x.1 = .slice elems spare ∧ elems.length = len) := by
  rcases DataW.trod_slice ht h with ⟨rfl, rfl⟩ | ⟨a, len, cap, elems, rest, n, rfl, rfl, rfl, hb, hlc, hcm, hel, hget, _, _⟩
  · exact ⟨[], 0, 0, none, none, rfl, Nat.le_refl _, by simp, fun i x hx => by simp at hx, fun h => absurd h (by simp), (fun p hp => by cases hp), by simp, .inl ⟨rfl, rfl⟩⟩
  · rw [he.1] at hget
    have key : ∀ i, i < len → ∃ ys : List Int, ys.length = es ∧ (∀ y ∈ ys, (Lit.int k y).wf = true) ∧ ∀ j, j < es → w.cell? ((a.add (i * es)).add j) = (ys[j]?).map (Value.int k) := by
      intro i hi
      have h1 := hget i hi
      rw [List.getElem?_eq_getElem (by omega), Option.bind_eq_some_iff] at h1
      obtain ⟨cs', h2, h3⟩ := h1
      obtain ⟨ys, e1, e2, e3⟩ := he.2 _ _ _ _ _ _ _ h3
      obtain ⟨_, g2⟩ := cells?_get h2
      refine ⟨ys, e2, e3, fun j hj => ?_⟩
      rw [g2 j hj, e1, List.getElem?_map]
    have build : ∀ m, m ≤ len → ∃ xs : List Int, xs.length = m * es ∧ (∀ y ∈ xs, (Lit.int k y).wf = true) ∧ ∀ i x, xs[i]? = some x → w.cell? (a.add i) = some (.int k x) := by
      intro m
      induction m with
      | zero => intro _; exact ⟨[], by simp, by simp, by simp⟩
      | succ m ih =>
        intro hm
        obtain ⟨xs, h1, h2, h3⟩ := ih (by omega)
        obtain ⟨ys, g1, g2, g3⟩ := key m (by omega)
        have hspot : a.spot = none := by
          by_cases h0 : m = 0
          · subst h0
            have := g3 0 hpos
            rw [List.getElem?_eq_getElem (by omega)] at this
            simpa [Addr.add] using World.cell?_spot this
          · have hx : 0 < xs.length := by rw [h1]; exact Nat.mul_pos (by omega) hpos
            have := h3 0 _ (List.getElem?_eq_getElem hx)
            simpa [Addr.add] using World.cell?_spot this
        obtain ⟨b, off, spot⟩ := a
        simp only at hspot
        subst hspot
        refine ⟨xs ++ ys, by rw [List.length_append, h1, g1, Nat.succ_mul], ?_, ?_⟩
        · intro y hy
          rcases List.mem_append.1 hy with hy | hy
          · exact h2 y hy
          · exact g2 y hy
        · intro i x hx
          rw [List.getElem?_append] at hx
          split at hx
          · exact h3 i x hx
          · have hi : i - xs.length < es := by
              have := (List.getElem?_eq_some_iff.1 hx).1; omega
            have := g3 (i - xs.length) hi
            rw [hx, add_plain, add_plain] at this
            rw [add_plain]
            rw [show off + i = off + m * es + (i - xs.length) by rw [h1]; omega]
            exact this
    obtain ⟨xs, h1, h2, h3⟩ := build len (Nat.le_refl _)
    refine ⟨xs, len, cap, some a, if 0 < xs.length then some (a.block, a.off) else none, rfl, hlc, h1, ?_, ?_, ?_, h2, .inr ⟨elems.map (·.1), rest.map (·.1), rfl, by simpa using hel⟩⟩
    · intro i x hx
      have hp : 0 < xs.length := by have := (List.getElem?_eq_some_iff.1 hx).1; omega
      rw [if_pos hp]
      refine ⟨_, rfl, ?_⟩
      have hs : a.spot = none := by simpa [Addr.add] using World.cell?_spot (h3 0 _ (List.getElem?_eq_getElem hp))
      have := h3 i x hx
      obtain ⟨b, off, spot⟩ := a
      simp only at hs; subst hs
      rw [add_plain] at this
      exact this
    · intro hp
      rw [if_pos hp]
      have hs : a.spot = none := by simpa [Addr.add] using World.cell?_spot (h3 0 _ (List.getElem?_eq_getElem hp))
      obtain ⟨b, off, spot⟩ := a
      simp only at hs; subst hs
      rfl
    · intro p hp
      split at hp
      · rename_i hpos'
        injection hp with hp; subst hp
        have h4 := h3 0 _ (List.getElem?_eq_getElem hpos')
        unfold World.cell? at h4
        have e : (a.add 0).block = a.block := by simp [Addr.add]
        rw [e] at h4
        cases hh : w.heap[a.block]? with
        | none => rw [hh] at h4; cases h4
        | some o => exact (Array.getElem?_eq_some_iff.1 hh).1
      · cases hp

/-! ### the start -/

def numT (i : Nat) : List AV → List (Nat × AV)
  | [] => []
  | a :: l => (i, a) :: numT (i + 1) l

def RelArgs (ρ : Rho) (S : Sh) : List AV → List Value → Prop
  | [], [] => True
  | a :: l, v :: vs => RelV ρ S a v ∧ RelArgs ρ S l vs
  | _, _ => False

theorem relArgs_find {ρ : Rho} {S : Sh} : ∀ {l : List AV} {vs : List Value} (i t : Nat), RelArgs ρ S l vs → i ≤ t → RelV ρ S (findT t (numT i l)) (vs.getD (t - i) undef)
  | [], [], i, t, _, _ => trivial
  | [], _ :: _, _, _, h, _ => h.elim
  | _ :: _, [], _, _, h, _ => h.elim
  | a :: l, v :: vs, i, t, ⟨h1, h2⟩, hle => by
    show RelV ρ S (findT t ((i, a) :: numT (i + 1) l)) _
    rw [findT_cons]
    by_cases e : t = i
    · subst e
      rw [if_pos rfl, Nat.sub_self]; exact h1
    · rw [if_neg e]
      have := relArgs_find (i + 1) t h2 (by omega)
      rw [show t - i = (t - (i + 1)) + 1 by omega]
      exact this

theorem sim_start {W : World} {s0 : AS} {ρ : Rho} {avs : List AV} {args : Array Value} {n : Nat} (hn : s0.n = n) (hargs : args.size ≤ n) (ht : s0.tmps = numT 0 avs) (nd : Nodup' s0.items)
    (hv : ∀ m it, s0.I m = some it → ∃ k es xs, it = .view k es xs ∧ 0 < es ∧ (∃ q, xs.length = q * es) ∧ ViewAt k xs (ρ.loc m) W) (hlt : ∀ m p, ρ.loc m = some p → p.1 < W.heap.size) (hr : RelArgs ρ s0.S avs args.toList) :
    Sim W ⟨fun _ => False, ρ.loc⟩ ρ s0 { tmps := args ++ Array.replicate (n - args.size) undef, defers := [] } W := by
  refine ⟨rfl, nd, by simp [hn]; omega, ?_, ?_, ?_, ?_, ?_, Nat.le_refl _, fun _ _ _ => rfl, fun m hm => rfl, rfl, rfl⟩
  · intro t
    have h1 := relArgs_find 0 t hr (Nat.zero_le _)
    unfold AS.T
    rw [ht]
    by_cases h : t < args.size
    · have : (args ++ Array.replicate (n - args.size) undef).getD t undef = args.toList.getD (t - 0) undef := by
        simp [Array.getD_eq_getD_getElem?, List.getD_eq_getElem?_getD, Array.getElem?_append, h]
      simp only [this]; exact h1
    · have : (args ++ Array.replicate (n - args.size) undef).getD t undef = args.toList.getD (t - 0) undef := by
        simp [Array.getD_eq_getD_getElem?, List.getD_eq_getElem?_getD, Array.getElem?_append, h, Array.getElem?_replicate]
        split <;> rfl
      simp only [this]; exact h1
  · intro m it hi
    obtain ⟨k, es, xs, rfl, h1, h2, h3⟩ := hv m it hi
    exact ⟨h1, h2, h3⟩
  · intro m it p hi ho
    obtain ⟨k, es, xs, rfl, h1, h2, h3⟩ := hv m it hi
    cases ho
  · intro m m' it it' p q hi hi' ho
    obtain ⟨k, es, xs, rfl, h1, h2, h3⟩ := hv m it hi
    cases ho
  · intro m it p _ hp; exact hlt m p hp

/-- atoms, one behind the other -/
def RelF (ρ : Rho) (S : Sh) : Nat → List (At × Nat) → List Value → Prop
  | off, [], cs => cs.length = off
  | off, (a, z) :: l, cs => off + z ≤ cs.length ∧ RelAt ρ S a ((cs.drop off).take z) ∧ RelF ρ S (off + z) l cs

def fstAll : List (At × Nat) → List At
  | [] => []
  | (a, _) :: l => a :: fstAll l

theorem relL_of {ρ : Rho} {S : Sh} : ∀ {l : List (At × Nat)} {off : Nat} {cs : List Value}, RelF ρ S off l cs → RelL ρ S (fstAll l) (cs.drop off)
  | [], off, cs, h => List.drop_of_length_le (Nat.le_of_eq h)
  | (a, z) :: l, off, cs, ⟨_, h1, h2⟩ => ⟨(cs.drop off).take z, (cs.drop off).drop z, by rw [List.take_append_drop], h1, by rw [List.drop_drop]; exact relL_of h2⟩

/-- an argument that is an array of numbers -/
theorem open_arr {t e n : Nat} {k : IntKind} {r : Reach} {b0 : Nat} {w : World} {base : Nat} {sp : Nat → Bool} {hd : Bool} {v : Value} {d : DataW H} {ps : List MemPlace} (ht : P.underlying t = some (.array n e)) (he : P.underlying e = some (.int k)) (hc : P.cellsOf e = 1) (hct : P.cellsOf t = n)
    (hval : Value.okWide P w r b0 t v) (h : DataW.Trod enc P w base sp hd t v d ps) : ∃ xs : List Int, v = .agg (xs.map (Value.int k)).toArray ∧ xs.length = n ∧ ∀ y ∈ xs, (Lit.int k y).wf = true := by
  unfold Value.okWide at hval
  rw [ht] at hval
  obtain ⟨cs, rfl, hs, _⟩ := hval
  obtain ⟨fuel, h⟩ := h
  have h1 := (intEl_array (H := H) (enc := enc) ht (by rw [hct, Nat.mul_one]) (by omega) (intEl_int he hc)).2 _ _ _ _ _ _ _ h
  obtain ⟨ys, e1, e2, e3⟩ := h1
  refine ⟨ys, ?_, by simpa using e2, e3⟩
  simp only [Value.cells] at e1
  rw [← e1]

theorem rel_own {ρ : Rho} {S : Sh} {m es len c : Nat} {A : Option Addr} {xs : List Int} {loc : Option (Nat × Nat)} {cs : List Value} (hS : S m = some (.view es xs.length)) (h1 : cs = [.slice A len c]) (h2 : len ≤ c) (h3 : xs.length = len * es) (h5 : 0 < xs.length → A = loc.map (adr · 0)) (hpos : 0 < es) (hloc : ρ.loc m = loc := by rfl) :
    RelAt ρ S (.own m) cs := by
  simp only [RelAt, hS]
  rw [h3, rl_mul hpos, hloc]
  exact ⟨A, c, h1, h2, by rw [← h3]; exact h5⟩

def locOf (l : List (Nat × Option (Nat × Nat))) (m : Nat) : Option (Nat × Nat) := match l with
  | [] => none
  | (u, p) :: r => match Nat.beq m u with | true => p | false => locOf r m

end
end Go.Eng

/- What the engine is told of this seat. MADE BY PROGRAM (wip/tools/facts.py). -/
namespace Go.Proofs.Ytiaddnmloonhgaa
open Go Go.Eng

set_option maxRecDepth 100000

def Th : Types := [(3, ⟨.int .i64, 1, 8, [.int .i64 0]⟩),
  (4, ⟨.bool, 1, 1, [.bool false]⟩),
  (5, ⟨.int .u8, 1, 1, [.int .u8 0]⟩),
  (9, ⟨.str, 1, 16, [.dead]⟩),
  (23, ⟨.array 32 5, 32, 32, [.ints .u8 32 (List.replicate 32 0)]⟩),
  (24, ⟨.int .u32, 1, 4, [.int .u32 0]⟩),
  (26, ⟨.array 12 5, 12, 12, [.ints .u8 12 (List.replicate 12 0)]⟩),
  (27, ⟨.slice 5, 1, 24, [.nils]⟩),
  (28, ⟨.slice 27, 1, 24, [.nils]⟩),
  (46, ⟨.int .i64, 1, 8, [.int .i64 0]⟩),
  (51, ⟨.array 64 5, 64, 64, [.ints .u8 64 (List.replicate 64 0)]⟩),
  (58, ⟨.array 16 5, 16, 16, [.ints .u8 16 (List.replicate 16 0)]⟩),
  (66, ⟨.struct [(23, 0), (26, 32), (27, 44), (27, 45), (27, 46), (3, 47), (5, 48)], 49, 136, [.ints .u8 32 (List.replicate 32 0), .ints .u8 12 (List.replicate 12 0), .nils, .nils, .nils, .int .i64 0, .int .u8 0]⟩),
  (70, ⟨.int .u64, 1, 8, [.int .u64 0]⟩),
  (76, ⟨.other, 1, 8, [.nilp]⟩),
  (92, ⟨.struct [(23, 0), (70, 32)], 33, 40, [.ints .u8 32 (List.replicate 32 0), .int .u64 0]⟩),
  (95, ⟨.array 16 24, 16, 64, [.ints .u32 16 (List.replicate 16 0)]⟩),
  (98, ⟨.other, 1, 8, [.nilp]⟩),
  (100, ⟨.slice 24, 1, 24, [.nils]⟩),
  (103, ⟨.int .u64, 1, 8, [.int .u64 0]⟩),
  (105, ⟨.slice 3, 1, 24, [.nils]⟩),
  (131, ⟨.array 17 5, 17, 17, [.ints .u8 17 (List.replicate 17 0)]⟩),
  (133, ⟨.array 5 70, 5, 40, [.ints .u64 5 (List.replicate 5 0)]⟩),
  (138, ⟨.array 5 24, 5, 20, [.ints .u32 5 (List.replicate 5 0)]⟩),
  (142, ⟨.array 4 5, 4, 4, [.ints .u8 4 (List.replicate 4 0)]⟩)]

theorem thOk : TypesOk Try.prog Th := tysB_ok (by kernel_rfl)

theorem mixed : Try.prog.follows .mixedOrders = true := by kernel_rfl

/-- rime/seal.lowest -/
noncomputable def B42 : Code := (Try.f42.body.getD .skip)
def S42 : Sig := { ps := [.view .u8 1], rs := [.val] }
def R42 : List ResultVar := [.tmp 2]
def K42 : List Nat := [0, 2, 3, 4, 5, 6, 7, 8, 9]
def N42_0 : Nrm := { slots := [.tmp 3, .tmp 6, .tmp 7, .tmp 8], items := [0] }
noncomputable def B42_0 : Code := bodyIn 0 (loopsIn B42)
def N42 : Nrms := [(0, N42_0)]
theorem ok42 : FnOk Try.prog 42 Try.f42 22 B42 R42 := ⟨by kernel_rfl, by kernel_rfl, by kernel_rfl, by kernel_rfl, by decide +kernel⟩

/-- rime/seal.bytesOf -/
noncomputable def B44 : Code := (Try.f44.body.getD .skip)
def S44 : Sig := { ps := [.val, .val], rs := [.fresh .u8 1] }
def R44 : List ResultVar := [.tmp 4]
def K44 : List Nat := [0, 1, 4, 5, 6, 7, 8, 9]
def N44_0 : Nrm := { slots := [.tmp 0, .row 5 1000005 .u8 1, .tmp 7, .tmp 8], items := [] }
noncomputable def B44_0 : Code := bodyIn 0 (loopsIn B44)
def N44 : Nrms := [(0, N44_0)]
theorem ok44 : FnOk Try.prog 44 Try.f44 21 B44 R44 := ⟨by kernel_rfl, by kernel_rfl, by kernel_rfl, by kernel_rfl, by decide +kernel⟩

/-- math/bits.RotateLeft32 -/
noncomputable def B92 : Code := (Try.f92.body.getD .skip)
def S92 : Sig := { ps := [.val, .val], rs := [.val] }
def R92 : List ResultVar := [.tmp 4]
def K92 : List Nat := [0, 1, 4, 5]
def N92 : Nrms := []
theorem ok92 : FnOk Try.prog 92 Try.f92 17 B92 R92 := ⟨by kernel_rfl, by kernel_rfl, by kernel_rfl, by kernel_rfl, by decide +kernel⟩

/-- rime/seal.quarter -/
noncomputable def B43 : Code := (Try.f43.body.getD .skip)
def S43 : Sig := { ps := [.mt, .val, .val, .val, .val], rs := [] }
def R43 : List ResultVar := []
def K43 : List Nat := [0, 1, 2, 3, 4]
def N43 : Nrms := []
theorem ok43 : FnOk Try.prog 43 Try.f43 126 B43 R43 := ⟨by kernel_rfl, by kernel_rfl, by kernel_rfl, by kernel_rfl, by decide +kernel⟩

/-- rime/seal.Block -/
noncomputable def B18 : Code := (Try.f18.body.getD .skip)
def S18 : Sig := { ps := [.val, .val, .val], rs := [.val] }
def R18 : List ResultVar := [.cell 6 51]
def K18 : List Nat := [1, 3, 5, 6, 7, 8, 9, 10, 11, 12, 13, 14, 16, 17, 33, 34, 49, 50, 51, 52, 63, 64, 82, 83]
def N18_10 : Nrm := { slots := [.tmp 6, .tmp 7, .tmp 10, .tmp 13, .tmp 82], items := [6, 7, 10, 13] }
def N18_8 : Nrm := { slots := [.tmp 6, .tmp 7, .tmp 10, .tmp 49, .tmp 63], items := [6, 7, 10] }
def N18_6 : Nrm := { slots := [.tmp 6, .tmp 7, .tmp 10, .tmp 49, .tmp 51], items := [6, 7, 10] }
def N18_4 : Nrm := { slots := [.tmp 6, .tmp 7, .tmp 10, .tmp 49], items := [6, 7, 10] }
def N18_2 : Nrm := { slots := [.tmp 5, .tmp 6, .tmp 7, .tmp 33], items := [5, 6, 7] }
def N18_0 : Nrm := { slots := [.tmp 1, .tmp 3, .tmp 5, .tmp 6, .tmp 7, .tmp 16], items := [3, 5, 6, 7] }
noncomputable def B18_10 : Code := bodyIn 10 (loopsIn B18)
noncomputable def B18_8 : Code := bodyIn 8 (loopsIn B18)
noncomputable def B18_6 : Code := bodyIn 6 (loopsIn B18)
noncomputable def B18_4 : Code := bodyIn 4 (loopsIn B18)
noncomputable def B18_2 : Code := bodyIn 2 (loopsIn B18)
noncomputable def B18_0 : Code := bodyIn 0 (loopsIn B18)
def N18 : Nrms := [(10, N18_10), (8, N18_8), (6, N18_6), (4, N18_4), (2, N18_2), (0, N18_0)]
theorem ok18 : FnOk Try.prog 18 Try.f18 100 B18 R18 := ⟨by kernel_rfl, by kernel_rfl, by kernel_rfl, by kernel_rfl, by decide +kernel⟩

/-- rime/seal.Stream -/
noncomputable def B16 : Code := (Try.f16.body.getD .skip)
def S16 : Sig := { ps := [.val, .val, .val, .view .u8 1], rs := [.fresh .u8 1, .val] }
def R16 : List ResultVar := [.tmp 8, .tmp 9]
def K16 : List Nat := [1, 3, 4, 6, 8, 9, 10, 11, 12, 13, 14, 24, 30, 48]
def N16_2 : Nrm := { slots := [.tmp 1, .tmp 4, .tmp 6, .tmp 11, .tmp 12, .tmp 13, .tmp 14], items := [4, 6, 13, 26] }
def N16_0 : Nrm := { slots := [.tmp 1, .tmp 4, .tmp 6, .tmp 11, .tmp 12], items := [4, 6, 26] }
noncomputable def B16_2 : Code := bodyIn 2 (loopsIn B16)
noncomputable def B16_0 : Code := bodyIn 0 (loopsIn B16)
def N16 : Nrms := [(2, N16_2), (0, N16_0)]
theorem ok16 : FnOk Try.prog 16 Try.f16 63 B16 R16 := ⟨by kernel_rfl, by kernel_rfl, by kernel_rfl, by kernel_rfl, by decide +kernel⟩

/-- rime/seal.limbs -/
noncomputable def B61 : Code := (Try.f61.body.getD .skip)
def S61 : Sig := { ps := [.val], rs := [.val] }
def R61 : List ResultVar := [.cell 2 133]
def K61 : List Nat := [1, 2, 3, 4, 5, 6, 20]
def N61_0 : Nrm := { slots := [.tmp 1, .tmp 2, .tmp 3, .tmp 5], items := [1, 2, 3] }
noncomputable def B61_0 : Code := bodyIn 0 (loopsIn B61)
def N61 : Nrms := [(0, N61_0)]
theorem ok61 : FnOk Try.prog 61 Try.f61 32 B61 R61 := ⟨by kernel_rfl, by kernel_rfl, by kernel_rfl, by kernel_rfl, by decide +kernel⟩

/-- (rime/seal.big).times -/
noncomputable def B62 : Code := (Try.f62.body.getD .skip)
def S62 : Sig := { ps := [.val, .val], rs := [.val] }
def R62 : List ResultVar := [.cell 4 133]
def K62 : List Nat := [2, 3, 4, 5, 6, 7, 8, 9, 11, 12, 17]
def N62_2 : Nrm := { slots := [.tmp 2, .tmp 3, .tmp 4, .tmp 5, .tmp 6, .tmp 8, .tmp 11], items := [2, 3, 4, 5] }
def N62_0 : Nrm := { slots := [.tmp 2, .tmp 3, .tmp 4, .tmp 5, .tmp 8], items := [2, 3, 4, 5] }
noncomputable def B62_2 : Code := bodyIn 2 (loopsIn B62)
noncomputable def B62_0 : Code := bodyIn 0 (loopsIn B62)
def N62 : Nrms := [(2, N62_2), (0, N62_0)]
theorem ok62 : FnOk Try.prog 62 Try.f62 53 B62 R62 := ⟨by kernel_rfl, by kernel_rfl, by kernel_rfl, by kernel_rfl, by decide +kernel⟩

/-- (rime/seal.big).carried -/
noncomputable def B94 : Code := (Try.f94.body.getD .skip)
def S94 : Sig := { ps := [.val], rs := [.val] }
def R94 : List ResultVar := [.cell 2 133]
def K94 : List Nat := [1, 2, 3, 4, 5, 6]
def N94_0 : Nrm := { slots := [.tmp 1, .tmp 2, .tmp 3, .tmp 5], items := [1, 2] }
noncomputable def B94_0 : Code := bodyIn 0 (loopsIn B94)
def N94 : Nrms := [(0, N94_0)]
theorem ok94 : FnOk Try.prog 94 Try.f94 31 B94 R94 := ⟨by kernel_rfl, by kernel_rfl, by kernel_rfl, by kernel_rfl, by decide +kernel⟩

/-- (rime/seal.big).whole -/
noncomputable def B63 : Code := (Try.f63.body.getD .skip)
def S63 : Sig := { ps := [.val], rs := [.val] }
def R63 : List ResultVar := [.cell 2 133]
def K63 : List Nat := [1, 2, 3, 4, 5, 14, 15, 34]
def N63_0 : Nrm := { slots := [.tmp 1, .tmp 2, .tmp 3, .tmp 4, .tmp 14], items := [1, 2, 3] }
noncomputable def B63_0 : Code := bodyIn 0 (loopsIn B63)
def N63 : Nrms := [(0, N63_0)]
theorem ok63 : FnOk Try.prog 63 Try.f63 37 B63 R63 := ⟨by kernel_rfl, by kernel_rfl, by kernel_rfl, by kernel_rfl, by decide +kernel⟩

/-- rime/seal.Mac -/
noncomputable def B24 : Code := (Try.f24.body.getD .skip)
def S24 : Sig := { ps := [.val, .view .u8 1], rs := [.val] }
def R24 : List ResultVar := [.cell 4 58]
def K24 : List Nat := [1, 2, 4, 5, 7, 9, 10, 11, 12, 13, 14, 15, 16, 17, 18, 19, 20, 21, 22, 26, 27, 28, 29, 38, 39, 40, 41, 55, 66, 67, 68, 83, 84, 86, 87]
def N24_10 : Nrm := { slots := [.tmp 2, .tmp 4, .tmp 11, .tmp 17, .tmp 18, .tmp 19, .tmp 20, .tmp 83, .tmp 86], items := [2, 4, 11, 17] }
def N24_8 : Nrm := { slots := [.tmp 2, .tmp 4, .tmp 11, .tmp 17, .tmp 18, .tmp 83], items := [2, 4, 11, 17] }
def N24_6 : Nrm := { slots := [.tmp 1, .tmp 2, .tmp 4, .tmp 10, .tmp 11, .tmp 12, .tmp 66, .tmp 67], items := [1, 2, 4, 10, 11] }
def N24_4 : Nrm := { slots := [.tmp 1, .tmp 2, .tmp 4, .tmp 10, .tmp 11, .tmp 12], items := [1, 2, 4, 10, 11] }
def N24_2 : Nrm := { slots := [.tmp 1, .tmp 2, .tmp 4, .tmp 5, .tmp 38, .tmp 39, .tmp 40], items := [1, 2, 4, 5, 38] }
def N24_0 : Nrm := { slots := [.tmp 1, .tmp 2, .tmp 4, .tmp 5, .tmp 26, .tmp 27, .tmp 28], items := [1, 2, 4, 5, 26] }
noncomputable def B24_10 : Code := bodyIn 10 (loopsIn B24)
noncomputable def B24_8 : Code := bodyIn 8 (loopsIn B24)
noncomputable def B24_6 : Code := bodyIn 6 (loopsIn B24)
noncomputable def B24_4 : Code := bodyIn 4 (loopsIn B24)
noncomputable def B24_2 : Code := bodyIn 2 (loopsIn B24)
noncomputable def B24_0 : Code := bodyIn 0 (loopsIn B24)
def N24 : Nrms := [(10, N24_10), (8, N24_8), (6, N24_6), (4, N24_4), (2, N24_2), (0, N24_0)]
theorem ok24 : FnOk Try.prog 24 Try.f24 123 B24 R24 := ⟨by kernel_rfl, by kernel_rfl, by kernel_rfl, by kernel_rfl, by decide +kernel⟩

/-- rime/seal.tag$1 -/
noncomputable def B96 : Code := (Try.f96.body.getD .skip)
def S96 : Sig := { ps := [.view .u8 1], rs := [.fresh .u8 1] }
def R96 : List ResultVar := [.tmp 2]
def K96 : List Nat := [0, 2, 3]
def N96 : Nrms := []
theorem ok96 : FnOk Try.prog 96 Try.f96 13 B96 R96 := ⟨by kernel_rfl, by kernel_rfl, by kernel_rfl, by kernel_rfl, by decide +kernel⟩

/-- rime/seal.tag -/
noncomputable def B67 : Code := (Try.f67.body.getD .skip)
def S67 : Sig := { ps := [.val, .val, .view .u8 1, .view .u8 1], rs := [.val] }
def R67 : List ResultVar := [.cell 8 58]
def K67 : List Nat := [2, 3, 4, 5, 8, 9, 10, 11]
def N67 : Nrms := []
theorem ok67 : FnOk Try.prog 67 Try.f67 39 B67 R67 := ⟨by kernel_rfl, by kernel_rfl, by kernel_rfl, by kernel_rfl, by decide +kernel⟩

/-- rime/seal.Seal -/
noncomputable def B28 : Code := (Try.f28.body.getD .skip)
def S28 : Sig := { ps := [.val, .val, .view .u8 1, .view .u8 1], rs := [.fresh .u8 1] }
def R28 : List ResultVar := [.tmp 8]
def K28 : List Nat := [2, 3, 4, 5, 8, 9, 11]
def N28 : Nrms := []
theorem ok28 : FnOk Try.prog 28 Try.f28 27 B28 R28 := ⟨by kernel_rfl, by kernel_rfl, by kernel_rfl, by kernel_rfl, by decide +kernel⟩

/-- rime/seal.Open -/
noncomputable def B26 : Code := (Try.f26.body.getD .skip)
def S26 : Sig := { ps := [.val, .val, .view .u8 1, .view .u8 1], rs := [.fresh .u8 1, .val] }
def R26 : List ResultVar := [.tmp 8, .tmp 9]
def K26 : List Nat := [2, 3, 4, 5, 8, 9, 10, 15, 28]
def N26 : Nrms := []
theorem ok26 : FnOk Try.prog 26 Try.f26 37 B26 R26 := ⟨by kernel_rfl, by kernel_rfl, by kernel_rfl, by kernel_rfl, by decide +kernel⟩

/-- rime/seal.numbered -/
noncomputable def B69 : Code := (Try.f69.body.getD .skip)
def S69 : Sig := { ps := [.val], rs := [.val] }
def R69 : List ResultVar := [.cell 2 26]
def K69 : List Nat := [0, 2, 3]
def N69 : Nrms := []
theorem ok69 : FnOk Try.prog 69 Try.f69 9 B69 R69 := ⟨by kernel_rfl, by kernel_rfl, by kernel_rfl, by kernel_rfl, by decide +kernel⟩

/-- rime/seal.Unbox -/
noncomputable def B33 : Code := (Try.f33.body.getD .skip)
def S33 : Sig := { ps := [.val, .view .u8 1, .view .u8 1], rs := [.fresh .u8 1, .val, .val] }
def R33 : List ResultVar := [.tmp 6, .tmp 7, .tmp 8]
def K33 : List Nat := [1, 2, 3, 6, 7, 8, 9, 10, 13, 19, 33]
def N33 : Nrms := []
theorem ok33 : FnOk Try.prog 33 Try.f33 39 B33 R33 := ⟨by kernel_rfl, by kernel_rfl, by kernel_rfl, by kernel_rfl, by decide +kernel⟩

/-- rime/seal.New -/
noncomputable def B35 : Code := (Try.f35.body.getD .skip)
def S35 : Sig := { ps := [.val, .val], rs := [.newobj] }
def R35 : List ResultVar := [.tmp 4]
def K35 : List Nat := [1, 2, 4]
def N35 : Nrms := []
theorem ok35 : FnOk Try.prog 35 Try.f35 9 B35 R35 := ⟨by kernel_rfl, by kernel_rfl, by kernel_rfl, by kernel_rfl, by decide +kernel⟩

/-- (*rime/seal.Sealer).Next -/
noncomputable def B36 : Code := (Try.f36.body.getD .skip)
def S36 : Sig := { ps := [.mt], rs := [.val] }
def R36 : List ResultVar := [.tmp 2]
def K36 : List Nat := [0, 2, 4]
def N36 : Nrms := []
theorem ok36 : FnOk Try.prog 36 Try.f36 9 B36 R36 := ⟨by kernel_rfl, by kernel_rfl, by kernel_rfl, by kernel_rfl, by decide +kernel⟩

/-- (*rime/seal.Sealer).Box -/
noncomputable def B37 : Code := (Try.f37.body.getD .skip)
def S37 : Sig := { ps := [.mt, .view .u8 1, .view .u8 1], rs := [.fresh .u8 1, .val] }
def R37 : List ResultVar := [.tmp 6, .tmp 7]
def K37 : List Nat := [0, 1, 2, 6, 7, 8, 10, 15]
def N37 : Nrms := []
theorem ok37 : FnOk Try.prog 37 Try.f37 38 B37 R37 := ⟨by kernel_rfl, by kernel_rfl, by kernel_rfl, by kernel_rfl, by decide +kernel⟩

/-- rime/rimeplain.SameBytes -/
noncomputable def B20 : Code := (Try.f20.body.getD .skip)
def S20 : Sig := { ps := [.view .u8 1, .view .u8 1], rs := [.val] }
def R20 : List ResultVar := [.tmp 4]
def K20 : List Nat := [0, 1, 4, 5, 10, 14, 25]
def N20_0 : Nrm := { slots := [.tmp 0, .tmp 1, .tmp 5], items := [0, 1] }
noncomputable def B20_0 : Code := bodyIn 0 (loopsIn B20)
def N20 : Nrms := [(0, N20_0)]
theorem ok20 : FnOk Try.prog 20 Try.f20 26 B20 R20 := ⟨by kernel_rfl, by kernel_rfl, by kernel_rfl, by kernel_rfl, by decide +kernel⟩

/-- rime/rimeplain.CopyBytes -/
noncomputable def B30 : Code := (Try.f30.body.getD .skip)
def S30 : Sig := { ps := [.view .u8 1], rs := [.fresh .u8 1] }
def R30 : List ResultVar := [.tmp 2]
def K30 : List Nat := [0, 2, 3]
def N30 : Nrms := []
theorem ok30 : FnOk Try.prog 30 Try.f30 8 B30 R30 := ⟨by kernel_rfl, by kernel_rfl, by kernel_rfl, by kernel_rfl, by decide +kernel⟩

/-- rime/rimelaw12.eight -/
noncomputable def B31 : Code := (Try.f31.body.getD .skip)
def S31 : Sig := { ps := [.val], rs := [.fresh .u8 1] }
def R31 : List ResultVar := [.tmp 2]
def K31 : List Nat := [0, 2, 3, 4, 6]
def N31_0 : Nrm := { slots := [.tmp 0, .row 3 1000003 .u8 1, .tmp 4], items := [] }
noncomputable def B31_0 : Code := bodyIn 0 (loopsIn B31)
def N31 : Nrms := [(0, N31_0)]
theorem ok31 : FnOk Try.prog 31 Try.f31 19 B31 R31 := ⟨by kernel_rfl, by kernel_rfl, by kernel_rfl, by kernel_rfl, by decide +kernel⟩

/-- rime/rimelaw12.num -/
noncomputable def B21 : Code := (Try.f21.body.getD .skip)
def S21 : Sig := { ps := [.val], rs := [.val] }
def R21 : List ResultVar := [.tmp 2]
def K21 : List Nat := [0, 2]
def N21 : Nrms := []
theorem ok21 : FnOk Try.prog 21 Try.f21 4 B21 R21 := ⟨by kernel_rfl, by kernel_rfl, by kernel_rfl, by kernel_rfl, by decide +kernel⟩

/-- rime/rimelaw12.works -/
noncomputable def B23 : Code := (Try.f23.body.getD .skip)
def S23 : Sig := { ps := [], rs := [.val] }
def R23 : List ResultVar := [.tmp 0]
def K23 : List Nat := [0, 1, 2, 3, 4, 5, 7]
def N23 : Nrms := []
theorem ok23 : FnOk Try.prog 23 Try.f23 51 B23 R23 := ⟨by kernel_rfl, by kernel_rfl, by kernel_rfl, by kernel_rfl, by decide +kernel⟩

/-- rime/rimelaw12.SealBack -/
noncomputable def B6 : Code := (Try.f6.body.getD .skip)
def S6 : Sig := { ps := [.val], rs := [.val] }
def R6 : List ResultVar := [.tmp 2]
def K6 : List Nat := [1, 2, 3, 4, 5, 6, 7, 8, 9, 10, 11, 12, 13, 14, 26, 55, 65, 73, 92]
def N6 : Nrms := []
theorem ok6 : FnOk Try.prog 6 Try.f6 126 B6 R6 := ⟨by kernel_rfl, by kernel_rfl, by kernel_rfl, by kernel_rfl, by decide +kernel⟩

/-- rime/rimelaw12.SealGoes -/
noncomputable def B7 : Code := (Try.f7.body.getD .skip)
def S7 : Sig := { ps := [.val], rs := [.val] }
def R7 : List ResultVar := [.tmp 2]
def K7 : List Nat := [1, 2, 3, 4, 5, 6, 7, 8, 9, 10, 11, 12, 13, 14, 15, 16, 17, 18, 20, 38]
def N7_0 : Nrm := { slots := [.tmp 3, .tmp 4, .tmp 5, .tmp 6, .tmp 7, .row 8 1000008 .u8 1, .tmp 9], items := [1, 3, 4, 1000001, 1000002, 1000003] }
noncomputable def B7_0 : Code := bodyIn 0 (loopsIn B7)
def N7 : Nrms := [(0, N7_0)]
theorem ok7 : FnOk Try.prog 7 Try.f7 115 B7 R7 := ⟨by kernel_rfl, by kernel_rfl, by kernel_rfl, by kernel_rfl, by decide +kernel⟩

/-- rime/rimelaw12.SealTurned -/
noncomputable def B8 : Code := (Try.f8.body.getD .skip)
def S8 : Sig := { ps := [.val], rs := [.val] }
def R8 : List ResultVar := [.tmp 2]
def K8 : List Nat := [1, 2, 3, 4, 5, 6, 7, 8, 9, 10, 11, 12, 13, 14, 15, 16, 17, 18, 19, 20, 21, 35, 53, 80, 94, 117, 154, 164]
def N8 : Nrms := []
theorem ok8 : FnOk Try.prog 8 Try.f8 228 B8 R8 := ⟨by kernel_rfl, by kernel_rfl, by kernel_rfl, by kernel_rfl, by decide +kernel⟩

/-- rime/rimelaw12.SealPoly -/
noncomputable def B9 : Code := (Try.f9.body.getD .skip)
def S9 : Sig := { ps := [.val, .view .u8 1], rs := [.val] }
def R9 : List ResultVar := [.tmp 4]
def K9 : List Nat := [1, 2, 4, 5, 6, 7, 8, 9, 11, 14, 27, 45, 49]
def N9_0 : Nrm := { slots := [.tmp 1, .tmp 2, .tmp 5, .tmp 6], items := [1, 2, 5] }
noncomputable def B9_0 : Code := bodyIn 0 (loopsIn B9)
def N9 : Nrms := [(0, N9_0)]
theorem ok9 : FnOk Try.prog 9 Try.f9 70 B9 R9 := ⟨by kernel_rfl, by kernel_rfl, by kernel_rfl, by kernel_rfl, by decide +kernel⟩

/-- rime/rimelaw12.SealOpens -/
noncomputable def B10 : Code := (Try.f10.body.getD .skip)
def S10 : Sig := { ps := [.val], rs := [.val] }
def R10 : List ResultVar := [.tmp 2]
def K10 : List Nat := [1, 2, 3, 4, 5, 6, 7, 8, 9, 10, 11, 12, 13, 14, 15, 16, 17, 18, 19, 20, 56]
def N10 : Nrms := []
theorem ok10 : FnOk Try.prog 10 Try.f10 128 B10 R10 := ⟨by kernel_rfl, by kernel_rfl, by kernel_rfl, by kernel_rfl, by decide +kernel⟩

/-- rime/rimelaw12.SealCounts -/
noncomputable def B13 : Code := (Try.f13.body.getD .skip)
def S13 : Sig := { ps := [.val, .val, .view .u8 1, .val], rs := [.val] }
def R13 : List ResultVar := [.tmp 8]
def K13 : List Nat := [1, 2, 3, 4, 8, 9, 10, 11, 12, 13, 14, 15, 16, 18, 23, 27, 43, 56, 91]
def N13_0 : Nrm := { slots := [.tmp 2, .tmp 3, .tmp 4, .tmp 9, .tmp 10], items := [2, 3, 4, 21] }
noncomputable def B13_0 : Code := bodyIn 0 (loopsIn B13)
def N13 : Nrms := [(0, N13_0)]
theorem ok13 : FnOk Try.prog 13 Try.f13 92 B13 R13 := ⟨by kernel_rfl, by kernel_rfl, by kernel_rfl, by kernel_rfl, by decide +kernel⟩

/-- rime/rimelaw12.added -/
noncomputable def B32 : Code := (Try.f32.body.getD .skip)
def S32 : Sig := { ps := [.val, .view .u8 1], rs := [.val] }
def R32 : List ResultVar := [.cell 4 58]
def K32 : List Nat := [1, 2, 4, 5, 6, 8]
def N32_0 : Nrm := { slots := [.tmp 1, .tmp 2, .tmp 4, .tmp 5, .tmp 6], items := [1, 2, 4] }
noncomputable def B32_0 : Code := bodyIn 0 (loopsIn B32)
def N32 : Nrms := [(0, N32_0)]
theorem ok32 : FnOk Try.prog 32 Try.f32 30 B32 R32 := ⟨by kernel_rfl, by kernel_rfl, by kernel_rfl, by kernel_rfl, by decide +kernel⟩

/-- rime/rimeref12.Stream -/
noncomputable def B17 : Code := (Try.f17.body.getD .skip)
def S17 : Sig := { ps := [.val, .val, .val, .view .u8 1], rs := [.fresh .u8 1, .val] }
def R17 : List ResultVar := [.tmp 8, .tmp 9]
def K17 : List Nat := [1, 3, 4, 6, 8, 9, 10, 11, 12, 13, 14, 29, 33, 54]
def N17_2 : Nrm := { slots := [.tmp 1, .tmp 3, .tmp 4, .tmp 6, .row 11 1000011 .u8 1, .tmp 12, .tmp 13, .tmp 14], items := [3, 4, 6, 13] }
def N17_0 : Nrm := { slots := [.tmp 1, .tmp 3, .tmp 4, .tmp 6, .row 11 1000011 .u8 1, .tmp 12], items := [3, 4, 6] }
noncomputable def B17_2 : Code := bodyIn 2 (loopsIn B17)
noncomputable def B17_0 : Code := bodyIn 0 (loopsIn B17)
def N17 : Nrms := [(2, N17_2), (0, N17_0)]
theorem ok17 : FnOk Try.prog 17 Try.f17 71 B17 R17 := ⟨by kernel_rfl, by kernel_rfl, by kernel_rfl, by kernel_rfl, by decide +kernel⟩

/-- rime/rimeref12.Block -/
noncomputable def B19 : Code := (Try.f19.body.getD .skip)
def S19 : Sig := { ps := [.val, .val, .val], rs := [.val] }
def R19 : List ResultVar := [.cell 6 51]
def K19 : List Nat := [1, 3, 5, 6, 7, 8, 9, 10, 11, 12, 13, 16, 31, 46, 66]
def N19_6 : Nrm := { slots := [.tmp 6, .tmp 7, .tmp 10, .tmp 12, .tmp 13], items := [6, 12, 14, 25, 29, 40, 41] }
def N19_4 : Nrm := { slots := [.tmp 6, .tmp 7, .tmp 10, .tmp 11], items := [6, 14, 25, 29, 40, 41] }
def N19_2 : Nrm := { slots := [.tmp 5, .tmp 6, .row 7 1000007 .u32 1, .tmp 9], items := [5, 6] }
def N19_0 : Nrm := { slots := [.tmp 1, .tmp 3, .tmp 5, .tmp 6, .row 7 1000007 .u32 1, .tmp 8], items := [3, 5, 6] }
noncomputable def B19_6 : Code := bodyIn 6 (loopsIn B19)
noncomputable def B19_4 : Code := bodyIn 4 (loopsIn B19)
noncomputable def B19_2 : Code := bodyIn 2 (loopsIn B19)
noncomputable def B19_0 : Code := bodyIn 0 (loopsIn B19)
def N19 : Nrms := [(6, N19_6), (4, N19_4), (2, N19_2), (0, N19_0)]
theorem ok19 : FnOk Try.prog 19 Try.f19 89 B19 R19 := ⟨by kernel_rfl, by kernel_rfl, by kernel_rfl, by kernel_rfl, by decide +kernel⟩

/-- rime/rimeref12.Mac -/
noncomputable def B25 : Code := (Try.f25.body.getD .skip)
def S25 : Sig := { ps := [.val, .view .u8 1], rs := [.val] }
def R25 : List ResultVar := [.cell 4 58]
def K25 : List Nat := [1, 2, 4, 5, 6, 7, 8, 9, 10, 11, 12, 13, 16, 26, 41, 67]
def N25_6 : Nrm := { slots := [.tmp 4, .tmp 9, .tmp 12, .tmp 13], items := [4, 9, 12] }
def N25_4 : Nrm := { slots := [.tmp 1, .tmp 2, .tmp 4, .tmp 8, .tmp 9, .tmp 10], items := [1, 2, 4, 8, 9] }
def N25_2 : Nrm := { slots := [.tmp 1, .tmp 2, .tmp 4, .tmp 5, .tmp 7], items := [1, 2, 4, 5] }
def N25_0 : Nrm := { slots := [.tmp 1, .tmp 2, .tmp 4, .tmp 5, .tmp 6], items := [1, 2, 4, 5] }
noncomputable def B25_6 : Code := bodyIn 6 (loopsIn B25)
noncomputable def B25_4 : Code := bodyIn 4 (loopsIn B25)
noncomputable def B25_2 : Code := bodyIn 2 (loopsIn B25)
noncomputable def B25_0 : Code := bodyIn 0 (loopsIn B25)
def N25 : Nrms := [(6, N25_6), (4, N25_4), (2, N25_2), (0, N25_0)]
theorem ok25 : FnOk Try.prog 25 Try.f25 83 B25 R25 := ⟨by kernel_rfl, by kernel_rfl, by kernel_rfl, by kernel_rfl, by decide +kernel⟩

/-- rime/rimeref12.Open -/
noncomputable def B27 : Code := (Try.f27.body.getD .skip)
def S27 : Sig := { ps := [.val, .val, .view .u8 1, .view .u8 1], rs := [.fresh .u8 1, .val] }
def R27 : List ResultVar := [.tmp 8, .tmp 9]
def K27 : List Nat := [2, 3, 4, 5, 8, 9, 10, 11, 12, 13, 19, 28, 40]
def N27_0 : Nrm := { slots := [.tmp 3, .tmp 4, .tmp 5, .tmp 10, .tmp 11, .tmp 12], items := [3, 4, 5, 11] }
noncomputable def B27_0 : Code := bodyIn 0 (loopsIn B27)
def N27 : Nrms := [(0, N27_0)]
theorem ok27 : FnOk Try.prog 27 Try.f27 51 B27 R27 := ⟨by kernel_rfl, by kernel_rfl, by kernel_rfl, by kernel_rfl, by decide +kernel⟩

/-- rime/rimeref12.Seal -/
noncomputable def B29 : Code := (Try.f29.body.getD .skip)
def S29 : Sig := { ps := [.val, .val, .view .u8 1, .view .u8 1], rs := [.fresh .u8 1] }
def R29 : List ResultVar := [.tmp 8]
def K29 : List Nat := [2, 3, 4, 5, 8, 9, 11]
def N29 : Nrms := []
theorem ok29 : FnOk Try.prog 29 Try.f29 27 B29 R29 := ⟨by kernel_rfl, by kernel_rfl, by kernel_rfl, by kernel_rfl, by decide +kernel⟩

/-- rime/rimeref12.Unbox -/
noncomputable def B34 : Code := (Try.f34.body.getD .skip)
def S34 : Sig := { ps := [.val, .view .u8 1, .view .u8 1], rs := [.fresh .u8 1, .val, .val] }
def R34 : List ResultVar := [.tmp 6, .tmp 7, .tmp 8]
def K34 : List Nat := [1, 2, 3, 6, 7, 8, 9, 10, 11, 12, 13, 16, 38, 43, 64]
def N34_0 : Nrm := { slots := [.tmp 1, .tmp 2, .tmp 3, .tmp 9, .tmp 10, .tmp 11], items := [1, 2, 3, 9] }
noncomputable def B34_0 : Code := bodyIn 0 (loopsIn B34)
def N34 : Nrms := [(0, N34_0)]
theorem ok34 : FnOk Try.prog 34 Try.f34 68 B34 R34 := ⟨by kernel_rfl, by kernel_rfl, by kernel_rfl, by kernel_rfl, by decide +kernel⟩

/-- rime/rimeref12.Box -/
noncomputable def B38 : Code := (Try.f38.body.getD .skip)
def S38 : Sig := { ps := [.val, .val, .view .u8 1, .view .u8 1], rs := [.fresh .u8 1, .val] }
def R38 : List ResultVar := [.tmp 8, .tmp 9]
def K38 : List Nat := [1, 2, 3, 4, 8, 9, 10, 11, 13]
def N38 : Nrms := []
theorem ok38 : FnOk Try.prog 38 Try.f38 26 B38 R38 := ⟨by kernel_rfl, by kernel_rfl, by kernel_rfl, by kernel_rfl, by decide +kernel⟩

/-- rime/rimeref12.low -/
noncomputable def B45 : Code := (Try.f45.body.getD .skip)
def S45 : Sig := { ps := [.view .u8 1], rs := [.val] }
def R45 : List ResultVar := [.tmp 2]
def K45 : List Nat := [0, 2]
def N45 : Nrms := []
theorem ok45 : FnOk Try.prog 45 Try.f45 25 B45 R45 := ⟨by kernel_rfl, by kernel_rfl, by kernel_rfl, by kernel_rfl, by decide +kernel⟩

/-- rime/rimeref12.quarter -/
noncomputable def B46 : Code := (Try.f46.body.getD .skip)
def S46 : Sig := { ps := [.view .u32 1, .val, .val, .val, .val], rs := [] }
def R46 : List ResultVar := []
def K46 : List Nat := [0, 1, 2, 3, 4]
def N46 : Nrms := []
theorem ok46 : FnOk Try.prog 46 Try.f46 110 B46 R46 := ⟨by kernel_rfl, by kernel_rfl, by kernel_rfl, by kernel_rfl, by decide +kernel⟩

/-- rime/rimeref12.number -/
noncomputable def B64 : Code := (Try.f64.body.getD .skip)
def S64 : Sig := { ps := [.view .u8 1], rs := [.val] }
def R64 : List ResultVar := [.cell 2 138]
def K64 : List Nat := [0, 2, 3, 4, 8]
def N64_0 : Nrm := { slots := [.tmp 0, .tmp 2, .tmp 3, .tmp 4], items := [0, 2, 3] }
noncomputable def B64_0 : Code := bodyIn 0 (loopsIn B64)
def N64 : Nrms := [(0, N64_0)]
theorem ok64 : FnOk Try.prog 64 Try.f64 30 B64 R64 := ⟨by kernel_rfl, by kernel_rfl, by kernel_rfl, by kernel_rfl, by decide +kernel⟩

/-- rime/rimeref12.times -/
noncomputable def B65 : Code := (Try.f65.body.getD .skip)
def S65 : Sig := { ps := [.val, .val], rs := [.val] }
def R65 : List ResultVar := [.cell 4 138]
def K65 : List Nat := [2, 3, 4, 5, 6, 7, 8, 11, 15]
def N65_2 : Nrm := { slots := [.tmp 2, .tmp 3, .tmp 4, .tmp 5, .tmp 6, .tmp 7, .tmp 8], items := [2, 3, 4, 9] }
def N65_0 : Nrm := { slots := [.tmp 2, .tmp 3, .tmp 4, .tmp 5, .tmp 6], items := [2, 3, 4, 9] }
noncomputable def B65_2 : Code := bodyIn 2 (loopsIn B65)
noncomputable def B65_0 : Code := bodyIn 0 (loopsIn B65)
def N65 : Nrms := [(2, N65_2), (0, N65_0)]
theorem ok65 : FnOk Try.prog 65 Try.f65 54 B65 R65 := ⟨by kernel_rfl, by kernel_rfl, by kernel_rfl, by kernel_rfl, by decide +kernel⟩

/-- rime/rimeref12.plus -/
noncomputable def B66 : Code := (Try.f66.body.getD .skip)
def S66 : Sig := { ps := [.val, .val], rs := [.val] }
def R66 : List ResultVar := [.cell 4 138]
def K66 : List Nat := [2, 3, 4, 5, 6, 8]
def N66_0 : Nrm := { slots := [.tmp 2, .tmp 3, .tmp 4, .tmp 5, .tmp 6], items := [2, 3, 4] }
noncomputable def B66_0 : Code := bodyIn 0 (loopsIn B66)
def N66 : Nrms := [(0, N66_0)]
theorem ok66 : FnOk Try.prog 66 Try.f66 29 B66 R66 := ⟨by kernel_rfl, by kernel_rfl, by kernel_rfl, by kernel_rfl, by decide +kernel⟩

/-- rime/rimeref12.tag -/
noncomputable def B68 : Code := (Try.f68.body.getD .skip)
def S68 : Sig := { ps := [.val, .val, .view .u8 1, .view .u8 1], rs := [.val] }
def R68 : List ResultVar := [.cell 8 58]
def K68 : List Nat := [2, 3, 4, 5, 8, 9, 10, 11]
def N68 : Nrms := []
theorem ok68 : FnOk Try.prog 68 Try.f68 39 B68 R68 := ⟨by kernel_rfl, by kernel_rfl, by kernel_rfl, by kernel_rfl, by decide +kernel⟩

/-- rime/rimeref12.Numbered -/
noncomputable def B70 : Code := (Try.f70.body.getD .skip)
def S70 : Sig := { ps := [.val], rs := [.val] }
def R70 : List ResultVar := [.cell 2 26]
def K70 : List Nat := [0, 2, 3, 4, 6]
def N70_0 : Nrm := { slots := [.tmp 0, .tmp 2, .tmp 3, .tmp 4], items := [2, 3] }
noncomputable def B70_0 : Code := bodyIn 0 (loopsIn B70)
def N70 : Nrms := [(0, N70_0)]
theorem ok70 : FnOk Try.prog 70 Try.f70 19 B70 R70 := ⟨by kernel_rfl, by kernel_rfl, by kernel_rfl, by kernel_rfl, by decide +kernel⟩

/-- rime/rimeref12.turned -/
noncomputable def B93 : Code := (Try.f93.body.getD .skip)
def S93 : Sig := { ps := [.val, .val], rs := [.val] }
def R93 : List ResultVar := [.tmp 4]
def K93 : List Nat := [0, 1, 4]
def N93 : Nrms := []
theorem ok93 : FnOk Try.prog 93 Try.f93 13 B93 R93 := ⟨by kernel_rfl, by kernel_rfl, by kernel_rfl, by kernel_rfl, by decide +kernel⟩

/-- rime/rimeref12.mod -/
noncomputable def B95 : Code := (Try.f95.body.getD .skip)
def S95 : Sig := { ps := [.view .u32 1], rs := [.val] }
def R95 : List ResultVar := [.cell 2 138]
def K95 : List Nat := [0, 2, 3, 4, 5, 6, 7, 8, 9, 15, 19, 31, 50]
def N95_4 : Nrm := { slots := [.tmp 0, .tmp 2, .tmp 3, .tmp 4, .tmp 5, .tmp 6, .tmp 7, .tmp 8], items := [0, 2, 3, 4] }
def N95_2 : Nrm := { slots := [.tmp 0, .tmp 2, .tmp 3, .tmp 4, .tmp 5, .tmp 6], items := [0, 2, 3, 4] }
def N95_0 : Nrm := { slots := [.tmp 0, .tmp 2, .tmp 3, .tmp 4, .tmp 5], items := [0, 2, 3, 4] }
noncomputable def B95_4 : Code := bodyIn 4 (loopsIn B95)
noncomputable def B95_2 : Code := bodyIn 2 (loopsIn B95)
noncomputable def B95_0 : Code := bodyIn 0 (loopsIn B95)
def N95 : Nrms := [(4, N95_4), (2, N95_2), (0, N95_0)]
theorem ok95 : FnOk Try.prog 95 Try.f95 55 B95 R95 := ⟨by kernel_rfl, by kernel_rfl, by kernel_rfl, by kernel_rfl, by decide +kernel⟩

/-- rime/rimeref12.filled -/
noncomputable def B97 : Code := (Try.f97.body.getD .skip)
def S97 : Sig := { ps := [.view .u8 1], rs := [.fresh .u8 1] }
def R97 : List ResultVar := [.tmp 2]
def K97 : List Nat := [0, 2, 6]
def N97_0 : Nrm := { slots := [.row 0 1000000 .u8 1], items := [] }
noncomputable def B97_0 : Code := bodyIn 0 (loopsIn B97)
def N97 : Nrms := [(0, N97_0)]
theorem ok97 : FnOk Try.prog 97 Try.f97 11 B97 R97 := ⟨by kernel_rfl, by kernel_rfl, by kernel_rfl, by kernel_rfl, by decide +kernel⟩

/-- rime/rimeref12.eight -/
noncomputable def B98 : Code := (Try.f98.body.getD .skip)
def S98 : Sig := { ps := [.val], rs := [.fresh .u8 1] }
def R98 : List ResultVar := [.tmp 2]
def K98 : List Nat := [0, 2, 3, 4, 6]
def N98_0 : Nrm := { slots := [.tmp 0, .row 3 1000003 .u8 1, .tmp 4], items := [] }
noncomputable def B98_0 : Code := bodyIn 0 (loopsIn B98)
def N98 : Nrms := [(0, N98_0)]
theorem ok98 : FnOk Try.prog 98 Try.f98 20 B98 R98 := ⟨by kernel_rfl, by kernel_rfl, by kernel_rfl, by kernel_rfl, by decide +kernel⟩

/-- rime/rimeref12.prime -/
noncomputable def B119 : Code := (Try.f119.body.getD .skip)
def S119 : Sig := { ps := [], rs := [.val] }
def R119 : List ResultVar := [.cell 0 138]
def K119 : List Nat := [0]
def N119 : Nrms := []
theorem ok119 : FnOk Try.prog 119 Try.f119 2 B119 R119 := ⟨by kernel_rfl, by kernel_rfl, by kernel_rfl, by kernel_rfl, by decide +kernel⟩

/-- rime/rimeref12.below -/
noncomputable def B120 : Code := (Try.f120.body.getD .skip)
def S120 : Sig := { ps := [.val, .val], rs := [.val] }
def R120 : List ResultVar := [.tmp 4]
def K120 : List Nat := [2, 3, 4, 5, 7, 16]
def N120_0 : Nrm := { slots := [.tmp 2, .tmp 3, .tmp 5], items := [2, 3] }
noncomputable def B120_0 : Code := bodyIn 0 (loopsIn B120)
def N120 : Nrms := [(0, N120_0)]
theorem ok120 : FnOk Try.prog 120 Try.f120 24 B120 R120 := ⟨by kernel_rfl, by kernel_rfl, by kernel_rfl, by kernel_rfl, by decide +kernel⟩

/-- rime/rimeref12.minus -/
noncomputable def B121 : Code := (Try.f121.body.getD .skip)
def S121 : Sig := { ps := [.val, .val], rs := [.val] }
def R121 : List ResultVar := [.cell 4 138]
def K121 : List Nat := [2, 3, 4, 5, 6, 7, 9]
def N121_0 : Nrm := { slots := [.tmp 2, .tmp 3, .tmp 4, .tmp 5, .tmp 6], items := [2, 3, 4] }
noncomputable def B121_0 : Code := bodyIn 0 (loopsIn B121)
def N121 : Nrms := [(0, N121_0)]
theorem ok121 : FnOk Try.prog 121 Try.f121 30 B121 R121 := ⟨by kernel_rfl, by kernel_rfl, by kernel_rfl, by kernel_rfl, by decide +kernel⟩

end Go.Proofs.Ytiaddnmloonhgaa

/- What rime/seal.lowest comes to. MADE BY PROGRAM (wip/tools/mkfn.py, EngGen.lean). -/
namespace Go.Proofs.Ytiaddnmloonhgaa
open Go Go.Eng
set_option maxRecDepth 100000
set_option linter.unusedVariables false

def f42_0_sh : Shp := { n := 22, lo := 1, slots := [(3, .one (.int Go.IntKind.u64)), (6, .one (.fix (Go.Eng.At.own 0))), (7, .one (.int Go.IntKind.i64)), (8, .one (.int Go.IntKind.i64))], items := [(0, .view Go.IntKind.u8 1)] }
def f42_0_ex1 : Shp := { n := 22, lo := 1, slots := [(9, .one (.bool)), (3, .one (.int Go.IntKind.u64)), (6, .one (.fix (Go.Eng.At.own 0))), (7, .one (.int Go.IntKind.i64)), (8, .one (.int Go.IntKind.i64))], items := [(0, .view Go.IntKind.u8 1)] }
def f42_0_st {R : Type} (N : Nat) (self : Int → Int → Int → List Int → Option R) (k1 : Bool → Int → Int → Int → List Int → Option R) (x1 : Int) (x2 : Int) (x3 : Int) (x4 : List Int) : Option R :=
  bif Decidable.decide (x3 < x2) then
  bif Decidable.decide (0 ≤ x3) && Decidable.decide (x3 < ↑(Go.Eng.rowLen 1 x4)) then
    let v0 : Int := Go.IntKind.i64.wrap (8 * x3);
    bif Decidable.decide (0 ≤ v0) then
      let v1 : Int := Go.IntKind.u64.wrap (x4.getD (Go.Eng.mulE x3.toNat 1) 0);
      let v2 : Int := Go.Eng.shlI Go.IntKind.u64 v1 v0;
      let v3 : Int := Go.Eng.orI Go.IntKind.u64 x1 v2;
      let v4 : Int := Go.IntKind.i64.wrap (x3 + 1);
      self v3 x2 v4 x4
    else Option.none
  else Option.none
else k1 (Decidable.decide (x3 < x2)) x1 x2 x3 x4
def f42_0_lp {R : Type} (N : Nat) (k1 : Bool → Int → Int → Int → List Int → Option R) : Nat → Int → Int → Int → List Int → Option R
  | 0, _, _, _, _ => none
  | n + 1, x1, x2, x3, x4 => f42_0_st N (f42_0_lp N k1 n) k1 x1 x2 x3 x4
def f42_0_F (N : Nat) : (R : Type) → List Leaf → (X → AS → Option R) → Option R := fun _ ls K => match ls with
  | [.i x1, .i x2, .i x3, .l x4] => f42_0_lp N (fun y1 y2 y3 y4 y5 => K (Go.Eng.X.normal) (fill f42_0_ex1 [.b y1, .i y2, .i y3, .i y4, .l y5])) N x1 x2 x3 x4
  | _ => none
def f42_raw {R : Type} (N : Nat) (xs : List Int) (k : List DV → Option R) : Option R :=
 f42_0_lp N (fun w0_1 w0_2 w0_3 w0_4 w0_5 => k [Go.Eng.DV.v (Go.Eng.SV.one (Go.Eng.At.int Go.IntKind.u64 w0_2))]) N 0 (↑(Go.Eng.rowLen 1 xs)) 0 xs


noncomputable def E42 (N : Nat) : Env := { Θ := Th, Γ := [], K := K42, ν := N42, fuel := 0, lp := [(0, mkL N42_0 f42_0_sh (f42_0_F N))] }

theorem f42_0_st_eq {R : Type} (N : Nat) (K : X → AS → Option R) (n : Nat) (x1 : Int) (x2 : Int) (x3 : Int) (x4 : List Int) : roundsOf (E42 N) N42_0 0 B42_0 K (n + 1) (fill f42_0_sh [.i x1, .i x2, .i x3, .l x4]) = f42_0_st N (fun x1 x2 x3 x4 => roundsOf (E42 N) N42_0 0 B42_0 K n (fill f42_0_sh [.i x1, .i x2, .i x3, .l x4])) (fun y1 y2 y3 y4 y5 => K (Go.Eng.X.normal) (fill f42_0_ex1 [.b y1, .i y2, .i y3, .i y4, .l y5])) x1 x2 x3 x4 := by kernel_rfl
theorem f42_0_lp_eq {R : Type} (N : Nat) (K : X → AS → Option R) : ∀ (n : Nat) (x1 : Int) (x2 : Int) (x3 : Int) (x4 : List Int), roundsOf (E42 N) N42_0 0 B42_0 K n (fill f42_0_sh [.i x1, .i x2, .i x3, .l x4]) = f42_0_lp N (fun y1 y2 y3 y4 y5 => K (Go.Eng.X.normal) (fill f42_0_ex1 [.b y1, .i y2, .i y3, .i y4, .l y5])) n x1 x2 x3 x4
  | 0, _, _, _, _ => rfl
  | n + 1, x1, x2, x3, x4 => by
    rw [f42_0_st_eq, f42_0_lp, show (fun x1 x2 x3 x4 => roundsOf (E42 N) N42_0 0 B42_0 K n (fill f42_0_sh [.i x1, .i x2, .i x3, .l x4])) = f42_0_lp N (fun y1 y2 y3 y4 y5 => K (Go.Eng.X.normal) (fill f42_0_ex1 [.b y1, .i y2, .i y3, .i y4, .l y5])) n from by funext x1 x2 x3 x4; exact f42_0_lp_eq N K n x1 x2 x3 x4]
theorem f42_0_ok (N : Nat) (hlp : LoopsOk Try.prog (E42 N).lp B42_0) (hΓ : CtxOk Try.prog (E42 N).Γ) : LoopOk Try.prog (mkL N42_0 f42_0_sh (f42_0_F N)) 0 B42_0 := by
  refine loopOk_of (E := E42 N) thOk hΓ mixed hlp ?_
  intro R ls K r h
  unfold f42_0_F at h
  split at h
  · exact ⟨N, by rw [f42_0_lp_eq]; exact h⟩
  · cases h

theorem lok42_0 (N : Nat) (hΓ : CtxOk Try.prog []) : LoopOk Try.prog (mkL N42_0 f42_0_sh (f42_0_F N)) 0 B42_0 := f42_0_ok N (loopsOk_of (l := []) (by kernel_rfl) trivial) hΓ
theorem f42_contract (N : Nat) (hΓ : CtxOk Try.prog []) : Contract Try.prog 42 { sig := S42, impl := fun _ ds k => call (E42 N) S42 22 B42 R42 ds k } :=
  call_contract (E := E42 N) thOk hΓ mixed ok42.look ok42.body ok42.n ok42.rv rfl (by decide) (loopsOk_of (l := [(0, B42_0)]) (by kernel_rfl) (allOk_cons (L := mkL N42_0 f42_0_sh (f42_0_F N)) rfl (lok42_0 N hΓ) trivial))
theorem f42_raw_eq {R : Type} (N : Nat) (xs : List Int) (k : List DV → Option R) : call (E42 N) S42 22 B42 R42 [.lst .u8 1 xs] k = f42_raw N xs k := by kernel_rfl
end Go.Proofs.Ytiaddnmloonhgaa

/- What rime/seal.bytesOf comes to. MADE BY PROGRAM (wip/tools/mkfn.py, EngGen.lean). -/
namespace Go.Proofs.Ytiaddnmloonhgaa
open Go Go.Eng
set_option maxRecDepth 100000
set_option linter.unusedVariables false

def f44_0_sh : Shp := { n := 21, lo := 2, slots := [(0, .one (.int Go.IntKind.u64)), (5, .one (.fix (Go.Eng.At.own 1000005))), (7, .one (.int Go.IntKind.i64)), (8, .one (.int Go.IntKind.i64))], items := [(1000005, .row Go.IntKind.u8 1)] }
def f44_0_ex1 : Shp := { n := 21, lo := 2, slots := [(9, .one (.bool)), (0, .one (.int Go.IntKind.u64)), (5, .one (.fix (Go.Eng.At.own 1000005))), (7, .one (.int Go.IntKind.i64)), (8, .one (.int Go.IntKind.i64))], items := [(1000005, .row Go.IntKind.u8 1)] }
def f44_0_st {R : Type} (N : Nat) (self : Int → Int → Int → List Int → Option R) (k1 : Bool → Int → Int → Int → List Int → Option R) (x1 : Int) (x2 : Int) (x3 : Int) (x4 : List Int) : Option R :=
  bif Decidable.decide (x3 < x2) then
  let v0 : Int := Go.IntKind.i64.wrap (8 * x3);
  bif Decidable.decide (0 ≤ v0) then
    let v1 : Int := Go.Eng.shrI Go.IntKind.u64 x1 v0;
    let v2 : Int := Go.IntKind.u8.wrap v1;
    let v3 : List Int := (Go.Eng.zerosOf (1 * 1)).set 0 v2;
    bif ((2 * (Go.Eng.rowLen 1 x4 + Go.Eng.rowLen 1 v3) + 192) * 1).ble Go.Eng.big48 && (Go.Eng.rowLen 1 x4 + Go.Eng.rowLen 1 v3).ble Go.Eng.big48 then
      let v4 : Int := Go.IntKind.i64.wrap (x3 + 1);
      let v5 : List Int := x4 ++ v3;
      self x1 x2 v4 v5
    else Option.none
  else Option.none
else k1 (Decidable.decide (x3 < x2)) x1 x2 x3 x4
def f44_0_lp {R : Type} (N : Nat) (k1 : Bool → Int → Int → Int → List Int → Option R) : Nat → Int → Int → Int → List Int → Option R
  | 0, _, _, _, _ => none
  | n + 1, x1, x2, x3, x4 => f44_0_st N (f44_0_lp N k1 n) k1 x1 x2 x3 x4
def f44_0_F (N : Nat) : (R : Type) → List Leaf → (X → AS → Option R) → Option R := fun _ ls K => match ls with
  | [.i x1, .i x2, .i x3, .l x4] => f44_0_lp N (fun y1 y2 y3 y4 y5 => K (Go.Eng.X.normal) (fill f44_0_ex1 [.b y1, .i y2, .i y3, .i y4, .l y5])) N x1 x2 x3 x4
  | _ => none
def f44_raw {R : Type} (N : Nat) (n : Int) (size : Int) (k : List DV → Option R) : Option R :=
 f44_0_lp N (fun w0_1 w0_2 w0_3 w0_4 w0_5 => k [Go.Eng.DV.lst Go.IntKind.u8 1 w0_5]) N n size 0 []


noncomputable def E44 (N : Nat) : Env := { Θ := Th, Γ := [], K := K44, ν := N44, fuel := 0, lp := [(0, mkL N44_0 f44_0_sh (f44_0_F N))] }

theorem f44_0_st_eq {R : Type} (N : Nat) (K : X → AS → Option R) (n : Nat) (x1 : Int) (x2 : Int) (x3 : Int) (x4 : List Int) : roundsOf (E44 N) N44_0 0 B44_0 K (n + 1) (fill f44_0_sh [.i x1, .i x2, .i x3, .l x4]) = f44_0_st N (fun x1 x2 x3 x4 => roundsOf (E44 N) N44_0 0 B44_0 K n (fill f44_0_sh [.i x1, .i x2, .i x3, .l x4])) (fun y1 y2 y3 y4 y5 => K (Go.Eng.X.normal) (fill f44_0_ex1 [.b y1, .i y2, .i y3, .i y4, .l y5])) x1 x2 x3 x4 := by kernel_rfl
theorem f44_0_lp_eq {R : Type} (N : Nat) (K : X → AS → Option R) : ∀ (n : Nat) (x1 : Int) (x2 : Int) (x3 : Int) (x4 : List Int), roundsOf (E44 N) N44_0 0 B44_0 K n (fill f44_0_sh [.i x1, .i x2, .i x3, .l x4]) = f44_0_lp N (fun y1 y2 y3 y4 y5 => K (Go.Eng.X.normal) (fill f44_0_ex1 [.b y1, .i y2, .i y3, .i y4, .l y5])) n x1 x2 x3 x4
  | 0, _, _, _, _ => rfl
  | n + 1, x1, x2, x3, x4 => by
    rw [f44_0_st_eq, f44_0_lp, show (fun x1 x2 x3 x4 => roundsOf (E44 N) N44_0 0 B44_0 K n (fill f44_0_sh [.i x1, .i x2, .i x3, .l x4])) = f44_0_lp N (fun y1 y2 y3 y4 y5 => K (Go.Eng.X.normal) (fill f44_0_ex1 [.b y1, .i y2, .i y3, .i y4, .l y5])) n from by funext x1 x2 x3 x4; exact f44_0_lp_eq N K n x1 x2 x3 x4]
theorem f44_0_ok (N : Nat) (hlp : LoopsOk Try.prog (E44 N).lp B44_0) (hΓ : CtxOk Try.prog (E44 N).Γ) : LoopOk Try.prog (mkL N44_0 f44_0_sh (f44_0_F N)) 0 B44_0 := by
  refine loopOk_of (E := E44 N) thOk hΓ mixed hlp ?_
  intro R ls K r h
  unfold f44_0_F at h
  split at h
  · exact ⟨N, by rw [f44_0_lp_eq]; exact h⟩
  · cases h

theorem lok44_0 (N : Nat) (hΓ : CtxOk Try.prog []) : LoopOk Try.prog (mkL N44_0 f44_0_sh (f44_0_F N)) 0 B44_0 := f44_0_ok N (loopsOk_of (l := []) (by kernel_rfl) trivial) hΓ
theorem f44_contract (N : Nat) (hΓ : CtxOk Try.prog []) : Contract Try.prog 44 { sig := S44, impl := fun _ ds k => call (E44 N) S44 21 B44 R44 ds k } :=
  call_contract (E := E44 N) thOk hΓ mixed ok44.look ok44.body ok44.n ok44.rv rfl (by decide) (loopsOk_of (l := [(0, B44_0)]) (by kernel_rfl) (allOk_cons (L := mkL N44_0 f44_0_sh (f44_0_F N)) rfl (lok44_0 N hΓ) trivial))
theorem f44_raw_eq {R : Type} (N : Nat) (n : Int) (size : Int) (k : List DV → Option R) : call (E44 N) S44 21 B44 R44 [.v (.one (.int .u64 n)), .v (.one (.int .i64 size))] k = f44_raw N n size k := by kernel_rfl
end Go.Proofs.Ytiaddnmloonhgaa

/- What math/bits.RotateLeft32 comes to. MADE BY PROGRAM (wip/tools/mkfn.py, EngGen.lean). -/
namespace Go.Proofs.Ytiaddnmloonhgaa
open Go Go.Eng
set_option maxRecDepth 100000
set_option linter.unusedVariables false

def f92_raw {R : Type} (N : Nat) (x : Int) (s : Int) (k : List DV → Option R) : Option R :=
 let v0 : Int := Go.IntKind.u64.wrap s;
let v1 : Int := Go.Eng.andI Go.IntKind.u64 v0 31;
let v2 : Int := Go.IntKind.u64.wrap (32 - v1);
bif Decidable.decide (0 ≤ v2) then
 let v3 : Int := Go.Eng.shlI Go.IntKind.u32 x v1;
 let v4 : Int := Go.Eng.shrI Go.IntKind.u32 x v2;
 let v5 : Int := Go.Eng.orI Go.IntKind.u32 v3 v4;
 k [Go.Eng.DV.v (Go.Eng.SV.one (Go.Eng.At.int Go.IntKind.u32 v5))]
else Option.none


noncomputable def E92 (N : Nat) : Env := { Θ := Th, Γ := [], K := K92, ν := N92, fuel := 0, lp := [] }


theorem f92_contract (N : Nat) (hΓ : CtxOk Try.prog []) : Contract Try.prog 92 { sig := S92, impl := fun _ ds k => call (E92 N) S92 17 B92 R92 ds k } :=
  call_contract (E := E92 N) thOk hΓ mixed ok92.look ok92.body ok92.n ok92.rv rfl (by decide) (loopsOk_of (l := []) (by kernel_rfl) trivial)
theorem f92_raw_eq {R : Type} (N : Nat) (x : Int) (s : Int) (k : List DV → Option R) : call (E92 N) S92 17 B92 R92 [.v (.one (.int .u32 x)), .v (.one (.int .i64 s))] k = f92_raw N x s k := by kernel_rfl
end Go.Proofs.Ytiaddnmloonhgaa

/- What small functions come to, as the callers read it. -/
namespace Go.Proofs.Ytiaddnmloonhgaa
open Go Go.Eng
set_option maxRecDepth 100000

/-! ### RotateLeft32 -/

def rotl (x s : Int) : Int := orI .u32 (shlI .u32 x s) (shrI .u32 x (32 - s))

def I92 : (R : Type) → List DV → (List DV → Option R) → Option R := fun _ ds k => match ds with
  | [.v (.one (.int .u32 x)), .v (.one (.int .i64 s))] => cond (decide (0 ≤ s) && decide (s < 32)) (k [.v (.one (.int .u32 (rotl x s)))]) none
  | _ => none

theorem and31 : ∀ n : Fin 32, andI .u64 (IntKind.u64.wrap (n.val : Int)) 31 = (n.val : Int) ∧ IntKind.u64.wrap (32 - (n.val : Int)) = 32 - (n.val : Int) := by decide +kernel

theorem f92_spec {R : Type} (x s : Int) (k : List DV → Option R) (h : (decide (0 ≤ s) && decide (s < 32)) = true) : f92_raw 0 x s k = k [.v (.one (.int .u32 (rotl x s)))] := by
  simp only [Bool.and_eq_true, decide_eq_true_eq] at h
  obtain ⟨n, rfl⟩ : ∃ n : Nat, s = n := ⟨s.toNat, by omega⟩
  obtain ⟨h1, h2⟩ := and31 ⟨n, by omega⟩
  unfold f92_raw
  simp only [h1, h2]
  rw [show decide (0 ≤ 32 - (n : Int)) = true by simp; omega]
  rfl

theorem c92 : Contract Try.prog 92 { sig := S92, impl := I92 } := by
  refine Contract.refine fun R ds k r h => ⟨_, f92_contract 0 ctxOk_nil, ?_⟩
  unfold I92 at h
  split at h
  · rename_i x s
    rw [show call (E92 0) S92 17 B92 R92 _ k = _ from f92_raw_eq 0 x s k]
    cases hb : (decide (0 ≤ s) && decide (s < 32)) with
    | true => rw [hb] at h; rw [f92_spec x s k hb]; exact h
    | false => rw [hb] at h; cases h
  · cases h

def G43 : Ctx := [(92, { sig := S92, impl := I92 })]
theorem G43_ok : CtxOk Try.prog G43 := ctxOk_cons ok92 rfl c92 ctxOk_nil

end Go.Proofs.Ytiaddnmloonhgaa

/- What rime/seal.quarter comes to. MADE BY PROGRAM (wip/tools/mkfn.py, EngGen.lean). -/
namespace Go.Proofs.Ytiaddnmloonhgaa
open Go Go.Eng
set_option maxRecDepth 100000
set_option linter.unusedVariables false

def f43_raw {R : Type} (N : Nat) (xs : List Int) (a : Int) (b : Int) (c : Int) (d : Int) (k : List DV → Option R) : Option R :=
 bif Decidable.decide (0 ≤ a) && Decidable.decide (a < ↑16) then
 bif Decidable.decide (0 ≤ b) && Decidable.decide (b < ↑16) then
 bif Decidable.decide (0 ≤ a) && Decidable.decide (a < ↑16) then
 bif Decidable.decide (0 ≤ d) && Decidable.decide (d < ↑16) then
 bif Decidable.decide (0 ≤ a) && Decidable.decide (a < ↑16) then
 bif Decidable.decide (0 ≤ d) && Decidable.decide (d < ↑16) then
 bif Decidable.decide (0 ≤ c) && Decidable.decide (c < ↑16) then
 bif Decidable.decide (0 ≤ d) && Decidable.decide (d < ↑16) then
 bif Decidable.decide (0 ≤ c) && Decidable.decide (c < ↑16) then
 bif Decidable.decide (0 ≤ b) && Decidable.decide (b < ↑16) then
 bif Decidable.decide (0 ≤ c) && Decidable.decide (c < ↑16) then
 bif Decidable.decide (0 ≤ b) && Decidable.decide (b < ↑16) then
 bif Decidable.decide (0 ≤ a) && Decidable.decide (a < ↑16) then
 bif Decidable.decide (0 ≤ b) && Decidable.decide (b < ↑16) then
 bif Decidable.decide (0 ≤ a) && Decidable.decide (a < ↑16) then
 bif Decidable.decide (0 ≤ d) && Decidable.decide (d < ↑16) then
 bif Decidable.decide (0 ≤ a) && Decidable.decide (a < ↑16) then
 bif Decidable.decide (0 ≤ d) && Decidable.decide (d < ↑16) then
 bif Decidable.decide (0 ≤ c) && Decidable.decide (c < ↑16) then
 bif Decidable.decide (0 ≤ d) && Decidable.decide (d < ↑16) then
 bif Decidable.decide (0 ≤ c) && Decidable.decide (c < ↑16) then
 bif Decidable.decide (0 ≤ b) && Decidable.decide (b < ↑16) then
 bif Decidable.decide (0 ≤ c) && Decidable.decide (c < ↑16) then
 bif Decidable.decide (0 ≤ b) && Decidable.decide (b < ↑16) then
 let v0 : Int := Go.IntKind.u32.wrap (xs.getD (Go.Eng.mulE a.toNat 1) 0 + xs.getD (Go.Eng.mulE b.toNat 1) 0);
 let v1 : List Int := xs.set (Go.Eng.mulE a.toNat 1) v0;
 let v2 : Int := Go.Eng.xorI Go.IntKind.u32 (v1.getD (Go.Eng.mulE d.toNat 1) 0) (v1.getD (Go.Eng.mulE a.toNat 1) 0);
 let v3 : List Int := v1.set (Go.Eng.mulE d.toNat 1) (Go.Proofs.Ytiaddnmloonhgaa.rotl v2 16);
 let v4 : Int := Go.IntKind.u32.wrap (v3.getD (Go.Eng.mulE c.toNat 1) 0 + v3.getD (Go.Eng.mulE d.toNat 1) 0);
 let v5 : List Int := v3.set (Go.Eng.mulE c.toNat 1) v4;
 let v6 : Int := Go.Eng.xorI Go.IntKind.u32 (v5.getD (Go.Eng.mulE b.toNat 1) 0) (v5.getD (Go.Eng.mulE c.toNat 1) 0);
 let v7 : List Int := v5.set (Go.Eng.mulE b.toNat 1) (Go.Proofs.Ytiaddnmloonhgaa.rotl v6 12);
 let v8 : Int := Go.IntKind.u32.wrap (v7.getD (Go.Eng.mulE a.toNat 1) 0 + v7.getD (Go.Eng.mulE b.toNat 1) 0);
 let v9 : List Int := v7.set (Go.Eng.mulE a.toNat 1) v8;
 let v10 : Int := Go.Eng.xorI Go.IntKind.u32 (v9.getD (Go.Eng.mulE d.toNat 1) 0) (v9.getD (Go.Eng.mulE a.toNat 1) 0);
 let v11 : List Int := v9.set (Go.Eng.mulE d.toNat 1) (Go.Proofs.Ytiaddnmloonhgaa.rotl v10 8);
 let v12 : Int := Go.IntKind.u32.wrap (v11.getD (Go.Eng.mulE c.toNat 1) 0 + v11.getD (Go.Eng.mulE d.toNat 1) 0);
 let v13 : List Int := v11.set (Go.Eng.mulE c.toNat 1) v12;
 let v14 : Int := Go.Eng.xorI Go.IntKind.u32 (v13.getD (Go.Eng.mulE b.toNat 1) 0) (v13.getD (Go.Eng.mulE c.toNat 1) 0);
 let v15 : List Int := v13.set (Go.Eng.mulE b.toNat 1) (Go.Proofs.Ytiaddnmloonhgaa.rotl v14 7);
 k [Go.Eng.DV.obj [Go.Eng.At.ints Go.IntKind.u32 16 v15]]
 else Option.none
 else Option.none
 else Option.none
 else Option.none
 else Option.none
 else Option.none
 else Option.none
 else Option.none
 else Option.none
 else Option.none
 else Option.none
 else Option.none
 else Option.none
 else Option.none
 else Option.none
 else Option.none
 else Option.none
 else Option.none
 else Option.none
 else Option.none
 else Option.none
 else Option.none
 else Option.none
else Option.none


noncomputable def E43 (N : Nat) : Env := { Θ := Th, Γ := G43, K := K43, ν := N43, fuel := 0, lp := [] }


theorem f43_contract (N : Nat) (hΓ : CtxOk Try.prog G43) : Contract Try.prog 43 { sig := S43, impl := fun _ ds k => call (E43 N) S43 126 B43 R43 ds k } :=
  call_contract (E := E43 N) thOk hΓ mixed ok43.look ok43.body ok43.n ok43.rv rfl (by decide) (loopsOk_of (l := []) (by kernel_rfl) trivial)
theorem f43_raw_eq {R : Type} (N : Nat) (xs : List Int) (a : Int) (b : Int) (c : Int) (d : Int) (k : List DV → Option R) : call (E43 N) S43 126 B43 R43 [.obj [.ints .u32 16 xs], .v (.one (.int .i64 a)), .v (.one (.int .i64 b)), .v (.one (.int .i64 c)), .v (.one (.int .i64 d))] k = f43_raw N xs a b c d k := by kernel_rfl
end Go.Proofs.Ytiaddnmloonhgaa

/- The functions beneath the block, as it reads them. -/
namespace Go.Proofs.Ytiaddnmloonhgaa
open Go Go.Eng
set_option maxRecDepth 100000

/-! ### lowest -/

def lowGo : List Int → Nat → Int → Int
  | [], _, n => n
  | x :: r, i, n => lowGo r (i + 1) (orI .u64 n (shlI .u64 (IntKind.u64.wrap x) (8 * i)))

def lowL (xs : List Int) : Int := lowGo xs 0 0

def I42 : (R : Type) → List DV → (List DV → Option R) → Option R := fun _ ds k => match ds with
  | [.lst .u8 1 xs] => cond (Nat.ble xs.length 1048576) (k [.v (.one (.int .u64 (lowL xs)))]) none
  | _ => none

theorem wrap64_small {n : Int} (h0 : 0 ≤ n) (h : n < 2 ^ 62) : IntKind.i64.wrap n = n := by
  unfold IntKind.wrap
  simp only [IntKind.bits, IntKind.signed]
  have : n % 2 ^ 64 = n := Int.emod_eq_of_lt h0 (by omega)
  simp only [this]
  rw [if_neg]
  simp; omega

theorem wrap64_nat {n : Nat} (h : n < 2 ^ 62) : IntKind.i64.wrap (n : Int) = n := wrap64_small (by omega) (by omega)

theorem drop_getD {xs : List Int} {i : Nat} (h : i < xs.length) : xs.drop i = xs.getD i 0 :: xs.drop (i + 1) := by
  rw [List.drop_eq_getElem_cons h, List.getD_eq_getElem?_getD, List.getElem?_eq_getElem h]; rfl

theorem mulE_one (n : Nat) : mulE n 1 = n := rfl
theorem rowLen_one (xs : List Int) : rowLen 1 xs = xs.length := rfl

theorem f42_loop {R : Type} {N : Nat} (k1 : Bool → Int → Int → Int → List Int → Option R) (xs : List Int) (hl : xs.length ≤ 1048576) :
    ∀ (m i : Nat) (acc : Int), i + m = xs.length → ∀ fuel, m < fuel → f42_0_lp N k1 fuel acc (xs.length : Int) (i : Int) xs = k1 false (lowGo (xs.drop i) i acc) (xs.length : Int) (xs.length : Int) xs := by
  intro m
  induction m with
  | zero =>
    intro i acc h fuel hf
    obtain ⟨f, rfl⟩ : ∃ f, fuel = f + 1 := ⟨fuel - 1, by omega⟩
    have : i = xs.length := by omega
    subst this
    show f42_0_st N (f42_0_lp N k1 f) k1 acc _ _ xs = _
    unfold f42_0_st
    have h1 : decide ((xs.length : Int) < (xs.length : Int)) = false := by simp
    simp only [h1, cond_false, List.drop_length, lowGo]
  | succ m ih =>
    intro i acc h fuel hf
    obtain ⟨f, rfl⟩ : ∃ f, fuel = f + 1 := ⟨fuel - 1, by omega⟩
    show f42_0_st N (f42_0_lp N k1 f) k1 acc _ _ xs = _
    unfold f42_0_st
    have h1 : decide ((i : Int) < (xs.length : Int)) = true := by simp; omega
    have h2 : decide ((0 : Int) ≤ (i : Int)) = true := by simp
    have h3 : IntKind.i64.wrap (8 * (i : Int)) = ((8 * i : Nat) : Int) := by rw [show 8 * (i : Int) = ((8 * i : Nat) : Int) by omega]; exact wrap64_nat (by omega)
    have h4 : IntKind.i64.wrap ((i : Int) + 1) = ((i + 1 : Nat) : Int) := by rw [show (i : Int) + 1 = ((i + 1 : Nat) : Int) by omega]; exact wrap64_nat (by omega)
    have h5 : decide ((0 : Int) ≤ ((8 * i : Nat) : Int)) = true := by simp; omega
    have h6 : (decide ((0 : Int) ≤ (i : Int)) && decide ((i : Int) < ((rowLen 1 xs : Nat) : Int))) = true := by rw [h2]; exact h1
    rw [h1, h6, h3, h4]
    simp only [h5, cond_true, mulE_one, Int.toNat_natCast]
    rw [ih (i + 1) _ (by omega) f (by omega), drop_getD (show i < xs.length by omega)]
    simp only [lowGo]
    rfl

theorem c42 : Contract Try.prog 42 { sig := S42, impl := I42 } := by
  refine Contract.refine fun R ds k r h => ?_
  unfold I42 at h
  split at h
  · rename_i xs
    refine ⟨_, f42_contract (xs.length + 1) ctxOk_nil, ?_⟩
    rw [f42_raw_eq]
    cases hb : Nat.ble xs.length 1048576 with
    | true =>
      rw [hb] at h
      unfold f42_raw
      have := f42_loop (N := xs.length + 1) (fun w0_1 w0_2 w0_3 w0_4 w0_5 => k [DV.v (SV.one (At.int IntKind.u64 w0_2))]) xs (Nat.le_of_ble_eq_true hb) xs.length 0 0 (by omega) (xs.length + 1) (by omega)
      exact this.trans h
    | false => rw [hb] at h; cases h
  · exact (Option.some_ne_none _ h.symm).elim

/-! ### bytesOf -/

def bytesGo (n : Int) : Nat → Nat → List Int
  | 0, _ => []
  | m + 1, i => IntKind.u8.wrap (shrI .u64 n (8 * i : Nat)) :: bytesGo n m (i + 1)

def bytesL (n : Int) (m : Nat) : List Int := bytesGo n m 0

def I44 : (R : Type) → List DV → (List DV → Option R) → Option R := fun _ ds k => match ds with
  | [.v (.one (.int .u64 n)), .v (.one (.int .i64 m))] => cond (decide (0 ≤ m) && decide (m ≤ 1048576)) (k [.lst .u8 1 (bytesL n m.toNat)]) none
  | _ => none

theorem f44_loop {R : Type} {N : Nat} (k1 : Bool → Int → Int → Int → List Int → Option R) (n : Int) (size : Nat) (hl : size ≤ 1048576) :
    ∀ (m i : Nat) (acc : List Int), i + m = size → acc.length = i → ∀ fuel, m < fuel → f44_0_lp N k1 fuel n (size : Int) (i : Int) acc = k1 false n (size : Int) (size : Int) (acc ++ bytesGo n m i) := by
  intro m
  induction m with
  | zero =>
    intro i acc h ha fuel hf
    obtain ⟨f, rfl⟩ : ∃ f, fuel = f + 1 := ⟨fuel - 1, by omega⟩
    have : i = size := by omega
    subst this
    show f44_0_st N (f44_0_lp N k1 f) k1 n _ _ acc = _
    unfold f44_0_st
    have h1 : decide ((i : Int) < (i : Int)) = false := by simp
    simp only [h1, cond_false, bytesGo, List.append_nil]
  | succ m ih =>
    intro i acc h ha fuel hf
    obtain ⟨f, rfl⟩ : ∃ f, fuel = f + 1 := ⟨fuel - 1, by omega⟩
    show f44_0_st N (f44_0_lp N k1 f) k1 n _ _ acc = _
    unfold f44_0_st
    have h1 : decide ((i : Int) < (size : Int)) = true := by simp; omega
    have h3 : IntKind.i64.wrap (8 * (i : Int)) = ((8 * i : Nat) : Int) := by rw [show 8 * (i : Int) = ((8 * i : Nat) : Int) by omega]; exact wrap64_nat (by omega)
    have h4 : IntKind.i64.wrap ((i : Int) + 1) = ((i + 1 : Nat) : Int) := by rw [show (i : Int) + 1 = ((i + 1 : Nat) : Int) by omega]; exact wrap64_nat (by omega)
    have h5 : decide ((0 : Int) ≤ ((8 * i : Nat) : Int)) = true := by simp; omega
    have h6 : ∀ y : Int, (zerosOf (1 * 1)).set 0 y = [y] := fun y => rfl
    have h7 : ∀ y : Int, (((2 * (rowLen 1 acc + rowLen 1 [y]) + 192) * 1).ble big48 && (rowLen 1 acc + rowLen 1 [y]).ble big48) = true := by
      intro y
      simp only [rowLen_one, List.length_singleton, ha, big48, Bool.and_eq_true, Nat.ble_eq]
      omega
    simp only [h1, h3, h4, h5, h6, h7, cond_true]
    rw [ih (i + 1) _ (by omega) (by simp [ha]) f (by omega)]
    simp [bytesGo]

theorem c44 : Contract Try.prog 44 { sig := S44, impl := I44 } := by
  refine Contract.refine fun R ds k r h => ?_
  unfold I44 at h
  split at h
  · rename_i n m
    refine ⟨_, f44_contract (m.toNat + 1) ctxOk_nil, ?_⟩
    rw [f44_raw_eq]
    cases hb : (decide (0 ≤ m) && decide (m ≤ 1048576)) with
    | true =>
      rw [hb] at h
      simp only [Bool.and_eq_true, decide_eq_true_eq] at hb
      obtain ⟨s, rfl⟩ : ∃ s : Nat, m = s := ⟨m.toNat, by omega⟩
      unfold f44_raw
      rw [Int.toNat_natCast]
      have := f44_loop (N := s + 1) (fun w0_1 w0_2 w0_3 w0_4 w0_5 => k [DV.lst IntKind.u8 1 w0_5]) n s (by omega) s 0 [] (by omega) rfl (s + 1) (by omega)
      exact this.trans h
    | false => rw [hb] at h; cases h
  · cases h

/-! ### quarter -/

def quarterL (xs : List Int) (a b c d : Nat) : List Int :=
  let v1 := xs.set a (IntKind.u32.wrap (xs.getD a 0 + xs.getD b 0))
  let v3 := v1.set d (rotl (xorI .u32 (v1.getD d 0) (v1.getD a 0)) 16)
  let v5 := v3.set c (IntKind.u32.wrap (v3.getD c 0 + v3.getD d 0))
  let v7 := v5.set b (rotl (xorI .u32 (v5.getD b 0) (v5.getD c 0)) 12)
  let v9 := v7.set a (IntKind.u32.wrap (v7.getD a 0 + v7.getD b 0))
  let v11 := v9.set d (rotl (xorI .u32 (v9.getD d 0) (v9.getD a 0)) 8)
  let v13 := v11.set c (IntKind.u32.wrap (v11.getD c 0 + v11.getD d 0))
  v13.set b (rotl (xorI .u32 (v13.getD b 0) (v13.getD c 0)) 7)

def in16 (a : Int) : Bool := decide (0 ≤ a) && decide (a < 16)

def I43 : (R : Type) → List DV → (List DV → Option R) → Option R := fun _ ds k => match ds with
  | [.obj [.ints .u32 16 xs], .v (.one (.int .i64 a)), .v (.one (.int .i64 b)), .v (.one (.int .i64 c)), .v (.one (.int .i64 d))] =>
    cond (in16 a && (in16 b && (in16 c && in16 d))) (k [.obj [.ints .u32 16 (quarterL xs a.toNat b.toNat c.toNat d.toNat)]]) none
  | _ => none

theorem c43 : Contract Try.prog 43 { sig := S43, impl := I43 } := by
  refine Contract.refine fun R ds k r h => ⟨_, f43_contract 0 G43_ok, ?_⟩
  unfold I43 at h
  split at h
  · rename_i xs a b c d
    rw [f43_raw_eq]
    cases hb : (in16 a && (in16 b && (in16 c && in16 d))) with
    | true =>
      rw [hb] at h
      simp only [Bool.and_eq_true] at hb
      obtain ⟨ha, hb, hc, hd⟩ := hb
      have ha : (decide (0 ≤ a) && decide (a < 16)) = true := ha
      have hb : (decide (0 ≤ b) && decide (b < 16)) = true := hb
      have hc : (decide (0 ≤ c) && decide (c < 16)) = true := hc
      have hd : (decide (0 ≤ d) && decide (d < 16)) = true := hd
      unfold f43_raw
      rw [ha, hb, hc, hd]
      exact h
    | false => rw [hb] at h; cases h
  · cases h

end Go.Proofs.Ytiaddnmloonhgaa
namespace Go.Proofs.Ytiaddnmloonhgaa
open Go Go.Eng

def G18 : Ctx := [(42, { sig := S42, impl := I42 }), (43, { sig := S43, impl := I43 }), (44, { sig := S44, impl := I44 })]
theorem G18_ok : CtxOk Try.prog G18 := ctxOk_cons ok42 rfl c42 (ctxOk_cons ok43 rfl c43 (ctxOk_cons ok44 rfl c44 ctxOk_nil))

end Go.Proofs.Ytiaddnmloonhgaa

/- What (rime/seal.big).carried comes to. MADE BY PROGRAM (wip/tools/mkfn.py, EngGen.lean). -/
namespace Go.Proofs.Ytiaddnmloonhgaa
open Go Go.Eng
set_option maxRecDepth 100000
set_option linter.unusedVariables false

def f94_0_sh : Shp := { n := 31, lo := 1, slots := [(1, .one (.fix (Go.Eng.At.ptr 1 0 Go.Eng.Off.z 5))), (2, .one (.fix (Go.Eng.At.ptr 2 0 Go.Eng.Off.z 5))), (3, .one (.int Go.IntKind.u64)), (5, .one (.int Go.IntKind.i64))], items := [(1, .obj [.ints Go.IntKind.u64 5]), (2, .obj [.ints Go.IntKind.u64 5])] }
def f94_0_ex1 : Shp := { n := 31, lo := 1, slots := [(6, .one (.bool)), (1, .one (.fix (Go.Eng.At.ptr 1 0 Go.Eng.Off.z 5))), (2, .one (.fix (Go.Eng.At.ptr 2 0 Go.Eng.Off.z 5))), (3, .one (.int Go.IntKind.u64)), (5, .one (.int Go.IntKind.i64))], items := [(1, .obj [.ints Go.IntKind.u64 5]), (2, .obj [.ints Go.IntKind.u64 5])] }
def f94_0_st {R : Type} (N : Nat) (self : Int → Int → List Int → List Int → Option R) (k1 : Bool → Int → Int → List Int → List Int → Option R) (x1 : Int) (x2 : Int) (x3 : List Int) (x4 : List Int) : Option R :=
  bif Decidable.decide (x2 < 5) then
  bif Decidable.decide (0 ≤ x2) && Decidable.decide (x2 < ↑5) then
    bif Decidable.decide (0 ≤ x2) && Decidable.decide (x2 < ↑5) then
      bif Decidable.decide (0 ≤ x2) && Decidable.decide (x2 < ↑5) then
        bif Decidable.decide (0 ≤ x2) && Decidable.decide (x2 < ↑5) then
          bif Decidable.decide (0 ≤ x2) && Decidable.decide (x2 < ↑5) then
            let v0 : Int := Go.IntKind.u64.wrap (x3.getD (Go.Eng.mulE x2.toNat 1) 0 + x1);
            let v1 : List Int := x3.set (Go.Eng.mulE x2.toNat 1) v0;
            let v2 : Int := Go.Eng.shrI Go.IntKind.u64 (v1.getD (Go.Eng.mulE x2.toNat 1) 0) 26;
            let v3 : Int := Go.IntKind.i64.wrap (x2 + 1);
            let v4 : Int := Go.Eng.andI Go.IntKind.u64 (v1.getD (Go.Eng.mulE x2.toNat 1) 0) 67108863;
            let v5 : List Int := v1.set (Go.Eng.mulE x2.toNat 1) v4;
            self v2 v3 v5 x4
          else Option.none
        else Option.none
      else Option.none
    else Option.none
  else Option.none
else k1 (Decidable.decide (x2 < 5)) x1 x2 x3 x4
def f94_0_lp {R : Type} (N : Nat) (k1 : Bool → Int → Int → List Int → List Int → Option R) : Nat → Int → Int → List Int → List Int → Option R
  | 0, _, _, _, _ => none
  | n + 1, x1, x2, x3, x4 => f94_0_st N (f94_0_lp N k1 n) k1 x1 x2 x3 x4
def f94_0_F (N : Nat) : (R : Type) → List Leaf → (X → AS → Option R) → Option R := fun _ ls K => match ls with
  | [.i x1, .i x2, .l x3, .l x4] => f94_0_lp N (fun y1 y2 y3 y4 y5 => K (Go.Eng.X.normal) (fill f94_0_ex1 [.b y1, .i y2, .i y3, .l y4, .l y5])) N x1 x2 x3 x4
  | _ => none
def f94_raw {R : Type} (N : Nat) (a : List Int) (k : List DV → Option R) : Option R :=
 f94_0_lp N
 (fun w0_1 w0_2 w0_3 w0_4 w0_5 =>
 let v1 : Int := Go.IntKind.u64.wrap (5 * w0_2);
 let v2 : Int := Go.IntKind.u64.wrap (w0_4.getD (Go.Eng.mulE (Int.toNat 0) 1) 0 + v1);
 let v3 : List Int := w0_4.set (Go.Eng.mulE (Int.toNat 0) 1) v2;
 k [Go.Eng.DV.v (Go.Eng.SV.one (Go.Eng.At.ints Go.IntKind.u64 5 v3))])
 N 0 0 a (List.replicate 5 0)


noncomputable def E94 (N : Nat) : Env := { Θ := Th, Γ := [], K := K94, ν := N94, fuel := 0, lp := [(0, mkL N94_0 f94_0_sh (f94_0_F N))] }

theorem f94_0_st_eq {R : Type} (N : Nat) (K : X → AS → Option R) (n : Nat) (x1 : Int) (x2 : Int) (x3 : List Int) (x4 : List Int) : roundsOf (E94 N) N94_0 0 B94_0 K (n + 1) (fill f94_0_sh [.i x1, .i x2, .l x3, .l x4]) = f94_0_st N (fun x1 x2 x3 x4 => roundsOf (E94 N) N94_0 0 B94_0 K n (fill f94_0_sh [.i x1, .i x2, .l x3, .l x4])) (fun y1 y2 y3 y4 y5 => K (Go.Eng.X.normal) (fill f94_0_ex1 [.b y1, .i y2, .i y3, .l y4, .l y5])) x1 x2 x3 x4 := by kernel_rfl
theorem f94_0_lp_eq {R : Type} (N : Nat) (K : X → AS → Option R) : ∀ (n : Nat) (x1 : Int) (x2 : Int) (x3 : List Int) (x4 : List Int), roundsOf (E94 N) N94_0 0 B94_0 K n (fill f94_0_sh [.i x1, .i x2, .l x3, .l x4]) = f94_0_lp N (fun y1 y2 y3 y4 y5 => K (Go.Eng.X.normal) (fill f94_0_ex1 [.b y1, .i y2, .i y3, .l y4, .l y5])) n x1 x2 x3 x4
  | 0, _, _, _, _ => rfl
  | n + 1, x1, x2, x3, x4 => by
    rw [f94_0_st_eq, f94_0_lp, show (fun x1 x2 x3 x4 => roundsOf (E94 N) N94_0 0 B94_0 K n (fill f94_0_sh [.i x1, .i x2, .l x3, .l x4])) = f94_0_lp N (fun y1 y2 y3 y4 y5 => K (Go.Eng.X.normal) (fill f94_0_ex1 [.b y1, .i y2, .i y3, .l y4, .l y5])) n from by funext x1 x2 x3 x4; exact f94_0_lp_eq N K n x1 x2 x3 x4]
theorem f94_0_ok (N : Nat) (hlp : LoopsOk Try.prog (E94 N).lp B94_0) (hΓ : CtxOk Try.prog (E94 N).Γ) : LoopOk Try.prog (mkL N94_0 f94_0_sh (f94_0_F N)) 0 B94_0 := by
  refine loopOk_of (E := E94 N) thOk hΓ mixed hlp ?_
  intro R ls K r h
  unfold f94_0_F at h
  split at h
  · exact ⟨N, by rw [f94_0_lp_eq]; exact h⟩
  · cases h

theorem lok94_0 (N : Nat) (hΓ : CtxOk Try.prog []) : LoopOk Try.prog (mkL N94_0 f94_0_sh (f94_0_F N)) 0 B94_0 := f94_0_ok N (loopsOk_of (l := []) (by kernel_rfl) trivial) hΓ
theorem f94_contract (N : Nat) (hΓ : CtxOk Try.prog []) : Contract Try.prog 94 { sig := S94, impl := fun _ ds k => call (E94 N) S94 31 B94 R94 ds k } :=
  call_contract (E := E94 N) thOk hΓ mixed ok94.look ok94.body ok94.n ok94.rv rfl (by decide) (loopsOk_of (l := [(0, B94_0)]) (by kernel_rfl) (allOk_cons (L := mkL N94_0 f94_0_sh (f94_0_F N)) rfl (lok94_0 N hΓ) trivial))
theorem f94_raw_eq {R : Type} (N : Nat) (a : List Int) (k : List DV → Option R) : call (E94 N) S94 31 B94 R94 [.v (.one (.ints .u64 5 a))] k = f94_raw N a k := by kernel_rfl
end Go.Proofs.Ytiaddnmloonhgaa

/- What rime/seal.limbs comes to. MADE BY PROGRAM (wip/tools/mkfn.py, EngGen.lean). -/
namespace Go.Proofs.Ytiaddnmloonhgaa
open Go Go.Eng
set_option maxRecDepth 100000
set_option linter.unusedVariables false

def f61_0_sh : Shp := { n := 32, lo := 1, slots := [(1, .one (.fix (At.ptr 1 0 Off.z 17))), (2, .one (.fix (At.ptr 2 0 Off.z 5))), (3, .one (.fix (At.ptr 3 0 Off.z 5))), (5, .one (.int IntKind.i64))], items := [(1, .obj [.ints IntKind.u8 17]), (2, .obj [.ints IntKind.u64 5]), (3, .obj [.ints IntKind.u64 5])] }
def f61_0_ex1 : Shp := { n := 32, lo := 1, slots := [(6, .one (.bool)), (1, .one (.fix (At.ptr 1 0 Off.z 17))), (2, .one (.fix (At.ptr 2 0 Off.z 5))), (3, .one (.fix (At.ptr 3 0 Off.z 5))), (5, .one (.int IntKind.i64))], items := [(1, .obj [.ints IntKind.u8 17]), (2, .obj [.ints IntKind.u64 5]), (3, .obj [.ints IntKind.u64 5])] }
def f61_0_st {R : Type} (N : Nat) (self : Int → List Int → List Int → List Int → Option R) (k1 : Bool → Int → List Int → List Int → List Int → Option R) (x1 : Int) (x2 : List Int) (x3 : List Int) (x4 : List Int) : Option R :=
 bif Decidable.decide (x1 < 136) then
 bif Decidable.decide (x1 < 130) then
 let v0 : Int := IntKind.i64.wrap (x1.tdiv 8);
 bif Decidable.decide (0 ≤ v0) && Decidable.decide (v0 < 17) then
 bif Decidable.decide (0 ≤ x1.tmod 8) then
 let v1 : Int := shrI IntKind.u8 (x2.getD (mulE v0.toNat 1) 0) (x1.tmod 8);
 let v2 : Int := andI IntKind.u8 v1 1;
 let v3 : Bool := bif Bool.true then v2 == 1 else Bool.false;
 bif v3 then
 let v4 : Int := IntKind.i64.wrap (x1.tdiv 26);
 bif Decidable.decide (0 ≤ v4) && Decidable.decide (v4 < 5) then
 bif Decidable.decide (0 ≤ x1.tmod 26) then
 bif Decidable.decide (0 ≤ v4) && Decidable.decide (v4 < 5) then
 let v5 : Int := IntKind.i64.wrap (x1 + 1);
 let v6 : Int := shlI IntKind.u64 1 (x1.tmod 26);
 let v7 : Int := orI IntKind.u64 (x4.getD (mulE v4.toNat 1) 0) v6;
 let v8 : List Int := x4.set (mulE v4.toNat 1) v7;
 self v5 x2 x3 v8
 else Option.none
 else Option.none
 else Option.none
 else
 let v9 : Int := IntKind.i64.wrap (x1 + 1);
 self v9 x2 x3 x4
 else Option.none
 else Option.none
 else
 let v10 : Int := IntKind.i64.wrap (x1 + 1);
 self v10 x2 x3 x4
else k1 (Decidable.decide (x1 < 136)) x1 x2 x3 x4
def f61_0_lp {R : Type} (N : Nat) (k1 : Bool → Int → List Int → List Int → List Int → Option R) : Nat → Int → List Int → List Int → List Int → Option R
 | 0, _, _, _, _ => none
 | n + 1, x1, x2, x3, x4 => f61_0_st N (f61_0_lp N k1 n) k1 x1 x2 x3 x4
def f61_0_F (N : Nat) : (R : Type) → List Leaf → (X → AS → Option R) → Option R := fun _ ls K => match ls with
 | [.i x1, .l x2, .l x3, .l x4] => f61_0_lp N (fun y1 y2 y3 y4 y5 => K (X.normal) (fill f61_0_ex1 [.b y1, .i y2, .l y3, .l y4, .l y5])) N x1 x2 x3 x4
 | _ => none
def f61_raw {R : Type} (N : Nat) (b : List Int) (k : List DV → Option R) : Option R :=
 f61_0_lp N (fun w0_1 w0_2 w0_3 w0_4 w0_5 => k [DV.v (SV.one (At.ints IntKind.u64 5 w0_5))]) N 0 b (List.replicate 5 0) (List.replicate 5 0)


noncomputable def E61 (N : Nat) : Env := { Θ := Th, Γ := [], K := K61, ν := N61, fuel := 0, lp := [(0, mkL N61_0 f61_0_sh (f61_0_F N))] }

theorem f61_0_st_eq {R : Type} (N : Nat) (K : X → AS → Option R) (n : Nat) (x1 : Int) (x2 : List Int) (x3 : List Int) (x4 : List Int) : roundsOf (E61 N) N61_0 0 B61_0 K (n + 1) (fill f61_0_sh [.i x1, .l x2, .l x3, .l x4]) = f61_0_st N (fun x1 x2 x3 x4 => roundsOf (E61 N) N61_0 0 B61_0 K n (fill f61_0_sh [.i x1, .l x2, .l x3, .l x4])) (fun y1 y2 y3 y4 y5 => K (X.normal) (fill f61_0_ex1 [.b y1, .i y2, .l y3, .l y4, .l y5])) x1 x2 x3 x4 := by kernel_rfl
theorem f61_0_lp_eq {R : Type} (N : Nat) (K : X → AS → Option R) : ∀ (n : Nat) (x1 : Int) (x2 : List Int) (x3 : List Int) (x4 : List Int), roundsOf (E61 N) N61_0 0 B61_0 K n (fill f61_0_sh [.i x1, .l x2, .l x3, .l x4]) = f61_0_lp N (fun y1 y2 y3 y4 y5 => K (X.normal) (fill f61_0_ex1 [.b y1, .i y2, .l y3, .l y4, .l y5])) n x1 x2 x3 x4
  | 0, _, _, _, _ => rfl
  | n + 1, x1, x2, x3, x4 => by
    rw [f61_0_st_eq, f61_0_lp, show (fun x1 x2 x3 x4 => roundsOf (E61 N) N61_0 0 B61_0 K n (fill f61_0_sh [.i x1, .l x2, .l x3, .l x4])) = f61_0_lp N (fun y1 y2 y3 y4 y5 => K (X.normal) (fill f61_0_ex1 [.b y1, .i y2, .l y3, .l y4, .l y5])) n from by funext x1 x2 x3 x4; exact f61_0_lp_eq N K n x1 x2 x3 x4]
theorem f61_0_ok (N : Nat) (hlp : LoopsOk Try.prog (E61 N).lp B61_0) (hΓ : CtxOk Try.prog (E61 N).Γ) : LoopOk Try.prog (mkL N61_0 f61_0_sh (f61_0_F N)) 0 B61_0 := by
  refine loopOk_of (E := E61 N) thOk hΓ mixed hlp ?_
  intro R ls K r h
  unfold f61_0_F at h
  split at h
  · exact ⟨N, by rw [f61_0_lp_eq]; exact h⟩
  · cases h

theorem lok61_0 (N : Nat) (hΓ : CtxOk Try.prog []) : LoopOk Try.prog (mkL N61_0 f61_0_sh (f61_0_F N)) 0 B61_0 := f61_0_ok N (loopsOk_of (l := []) (by kernel_rfl) trivial) hΓ
theorem f61_contract (N : Nat) (hΓ : CtxOk Try.prog []) : Contract Try.prog 61 { sig := S61, impl := fun _ ds k => call (E61 N) S61 32 B61 R61 ds k } :=
  call_contract (E := E61 N) thOk hΓ mixed ok61.look ok61.body ok61.n ok61.rv rfl (by decide) (loopsOk_of (l := [(0, B61_0)]) (by kernel_rfl) (allOk_cons (L := mkL N61_0 f61_0_sh (f61_0_F N)) rfl (lok61_0 N hΓ) trivial))
theorem f61_raw_eq {R : Type} (N : Nat) (b : List Int) (k : List DV → Option R) : call (E61 N) S61 32 B61 R61 [.v (.one (.ints .u8 17 b))] k = f61_raw N b k := by kernel_rfl
end Go.Proofs.Ytiaddnmloonhgaa

/- Numbers in limbs, as their callers read them. -/
namespace Go.Proofs.Ytiaddnmloonhgaa
open Go Go.Eng
set_option maxRecDepth 100000

/-- the numbers of an answer that is one array -/
def answer (o : Option (List DV)) : List Int := match o with
  | some [.v (.one (.ints _ _ l))] => l
  | _ => []

/-! ### carried -/

def carriedL (a : List Int) : List Int := answer (f94_raw 6 a some)

theorem f94_spec {R : Type} (a : List Int) (k : List DV → Option R) : f94_raw 6 a k = k [.v (.one (.ints .u64 5 (carriedL a)))] := by kernel_rfl

def I94 : (R : Type) → List DV → (List DV → Option R) → Option R := fun _ ds k => match ds with
  | [.v (.one (.ints .u64 5 a))] => k [.v (.one (.ints .u64 5 (carriedL a)))]
  | _ => none

theorem c94 : Contract Try.prog 94 { sig := S94, impl := I94 } := by
  refine Contract.refine fun R ds k r h => ⟨_, f94_contract 6 ctxOk_nil, ?_⟩
  unfold I94 at h
  split at h
  · rw [f94_raw_eq, f94_spec]; exact h
  · cases h

def G62 : Ctx := [(94, { sig := S94, impl := I94 })]
theorem G62_ok : CtxOk Try.prog G62 := ctxOk_cons ok94 rfl c94 ctxOk_nil

end Go.Proofs.Ytiaddnmloonhgaa

/- What (rime/seal.big).times comes to. MADE BY PROGRAM (wip/tools/mkfn.py, EngGen.lean). -/
namespace Go.Proofs.Ytiaddnmloonhgaa
open Go Go.Eng
set_option maxRecDepth 100000
set_option linter.unusedVariables false

def f62_2_sh : Shp := { n := 53, lo := 2, slots := [(2, .one (.fix (Go.Eng.At.ptr 2 0 Go.Eng.Off.z 5))), (3, .one (.fix (Go.Eng.At.ptr 3 0 Go.Eng.Off.z 5))), (4, .one (.fix (Go.Eng.At.ptr 4 0 Go.Eng.Off.z 5))), (5, .one (.fix (Go.Eng.At.ptr 5 0 Go.Eng.Off.z 5))), (6, .one (.int Go.IntKind.i64)), (8, .one (.int Go.IntKind.i64)), (11, .one (.int Go.IntKind.i64))], items := [(2, .obj [.ints Go.IntKind.u64 5]), (3, .obj [.ints Go.IntKind.u64 5]), (4, .obj [.ints Go.IntKind.u64 5]), (5, .obj [.ints Go.IntKind.u64 5])] }
def f62_2_ex1 : Shp := { n := 53, lo := 2, slots := [(12, .one (.bool)), (2, .one (.fix (Go.Eng.At.ptr 2 0 Go.Eng.Off.z 5))), (3, .one (.fix (Go.Eng.At.ptr 3 0 Go.Eng.Off.z 5))), (4, .one (.fix (Go.Eng.At.ptr 4 0 Go.Eng.Off.z 5))), (5, .one (.fix (Go.Eng.At.ptr 5 0 Go.Eng.Off.z 5))), (6, .one (.int Go.IntKind.i64)), (8, .one (.int Go.IntKind.i64)), (11, .one (.int Go.IntKind.i64))], items := [(2, .obj [.ints Go.IntKind.u64 5]), (3, .obj [.ints Go.IntKind.u64 5]), (4, .obj [.ints Go.IntKind.u64 5]), (5, .obj [.ints Go.IntKind.u64 5])] }
def f62_2_st {R : Type} (N : Nat) (self : Int → Int → Int → List Int → List Int → List Int → List Int → Option R) (k1 : Bool → Int → Int → Int → List Int → List Int → List Int → List Int → Option R) (x1 : Int) (x2 : Int) (x3 : Int) (x4 : List Int) (x5 : List Int) (x6 : List Int) (x7 : List Int) : Option R :=
  bif Decidable.decide (x3 < 5) then
  let v0 : Int := Go.IntKind.i64.wrap (x1 + x3);
  bif Decidable.decide (v0 < 5) then
    bif Decidable.decide (0 ≤ v0) && Decidable.decide (v0 < ↑5) then
      bif Decidable.decide (0 ≤ x1) && Decidable.decide (x1 < ↑5) then
        bif Decidable.decide (0 ≤ x3) && Decidable.decide (x3 < ↑5) then
          bif Decidable.decide (0 ≤ v0) && Decidable.decide (v0 < ↑5) then
            let v1 : Int := Go.IntKind.i64.wrap (x3 + 1);
            let v2 : Int := Go.IntKind.u64.wrap (x4.getD (Go.Eng.mulE x1.toNat 1) 0 * x5.getD (Go.Eng.mulE x3.toNat 1) 0);
            let v3 : Int := Go.IntKind.u64.wrap (x7.getD (Go.Eng.mulE v0.toNat 1) 0 + v2);
            let v4 : List Int := x7.set (Go.Eng.mulE v0.toNat 1) v3;
            self x1 x2 v1 x4 x5 x6 v4
          else Option.none
        else Option.none
      else Option.none
    else Option.none
  else
    let v5 : Int := Go.IntKind.i64.wrap (v0 - 5);
    bif Decidable.decide (0 ≤ v5) && Decidable.decide (v5 < ↑5) then
      bif Decidable.decide (0 ≤ x1) && Decidable.decide (x1 < ↑5) then
        bif Decidable.decide (0 ≤ x3) && Decidable.decide (x3 < ↑5) then
          bif Decidable.decide (0 ≤ v5) && Decidable.decide (v5 < ↑5) then
            let v6 : Int := Go.IntKind.i64.wrap (x3 + 1);
            let v7 : Int := Go.IntKind.u64.wrap (5 * x4.getD (Go.Eng.mulE x1.toNat 1) 0);
            let v8 : Int := Go.IntKind.u64.wrap (v7 * x5.getD (Go.Eng.mulE x3.toNat 1) 0);
            let v9 : Int := Go.IntKind.u64.wrap (x7.getD (Go.Eng.mulE v5.toNat 1) 0 + v8);
            let v10 : List Int := x7.set (Go.Eng.mulE v5.toNat 1) v9;
            self x1 x2 v6 x4 x5 x6 v10
          else Option.none
        else Option.none
      else Option.none
    else Option.none
else k1 (Decidable.decide (x3 < 5)) x1 x2 x3 x4 x5 x6 x7
def f62_2_lp {R : Type} (N : Nat) (k1 : Bool → Int → Int → Int → List Int → List Int → List Int → List Int → Option R) : Nat → Int → Int → Int → List Int → List Int → List Int → List Int → Option R
  | 0, _, _, _, _, _, _, _ => none
  | n + 1, x1, x2, x3, x4, x5, x6, x7 => f62_2_st N (f62_2_lp N k1 n) k1 x1 x2 x3 x4 x5 x6 x7
def f62_2_F (N : Nat) : (R : Type) → List Leaf → (X → AS → Option R) → Option R := fun _ ls K => match ls with
  | [.i x1, .i x2, .i x3, .l x4, .l x5, .l x6, .l x7] => f62_2_lp N (fun y1 y2 y3 y4 y5 y6 y7 y8 => K (Go.Eng.X.normal) (fill f62_2_ex1 [.b y1, .i y2, .i y3, .i y4, .l y5, .l y6, .l y7, .l y8])) N x1 x2 x3 x4 x5 x6 x7
  | _ => none
def f62_0_sh : Shp := { n := 53, lo := 2, slots := [(2, .one (.fix (Go.Eng.At.ptr 2 0 Go.Eng.Off.z 5))), (3, .one (.fix (Go.Eng.At.ptr 3 0 Go.Eng.Off.z 5))), (4, .one (.fix (Go.Eng.At.ptr 4 0 Go.Eng.Off.z 5))), (5, .one (.fix (Go.Eng.At.ptr 5 0 Go.Eng.Off.z 5))), (8, .one (.int Go.IntKind.i64))], items := [(2, .obj [.ints Go.IntKind.u64 5]), (3, .obj [.ints Go.IntKind.u64 5]), (4, .obj [.ints Go.IntKind.u64 5]), (5, .obj [.ints Go.IntKind.u64 5])] }
def f62_0_ex1 : Shp := { n := 53, lo := 2, slots := [(9, .one (.bool)), (2, .one (.fix (Go.Eng.At.ptr 2 0 Go.Eng.Off.z 5))), (3, .one (.fix (Go.Eng.At.ptr 3 0 Go.Eng.Off.z 5))), (4, .one (.fix (Go.Eng.At.ptr 4 0 Go.Eng.Off.z 5))), (5, .one (.fix (Go.Eng.At.ptr 5 0 Go.Eng.Off.z 5))), (8, .one (.int Go.IntKind.i64))], items := [(2, .obj [.ints Go.IntKind.u64 5]), (3, .obj [.ints Go.IntKind.u64 5]), (4, .obj [.ints Go.IntKind.u64 5]), (5, .obj [.ints Go.IntKind.u64 5])] }
def f62_0_st {R : Type} (N : Nat) (self : Int → List Int → List Int → List Int → List Int → Option R) (k1 : Bool → Int → List Int → List Int → List Int → List Int → Option R) (x1 : Int) (x2 : List Int) (x3 : List Int) (x4 : List Int) (x5 : List Int) : Option R :=
  bif Decidable.decide (x1 < 5) then
  f62_2_lp N
    (fun w0_1 w0_2 w0_3 w0_4 w0_5 w0_6 w0_7 w0_8 =>
      let v1 : Int := Go.IntKind.i64.wrap (w0_3 + 1);
      self v1 w0_5 w0_6 w0_7 w0_8)
    N x1 x1 0 x2 x3 x4 x5
else k1 (Decidable.decide (x1 < 5)) x1 x2 x3 x4 x5
def f62_0_lp {R : Type} (N : Nat) (k1 : Bool → Int → List Int → List Int → List Int → List Int → Option R) : Nat → Int → List Int → List Int → List Int → List Int → Option R
  | 0, _, _, _, _, _ => none
  | n + 1, x1, x2, x3, x4, x5 => f62_0_st N (f62_0_lp N k1 n) k1 x1 x2 x3 x4 x5
def f62_0_F (N : Nat) : (R : Type) → List Leaf → (X → AS → Option R) → Option R := fun _ ls K => match ls with
  | [.i x1, .l x2, .l x3, .l x4, .l x5] => f62_0_lp N (fun y1 y2 y3 y4 y5 y6 => K (Go.Eng.X.normal) (fill f62_0_ex1 [.b y1, .i y2, .l y3, .l y4, .l y5, .l y6])) N x1 x2 x3 x4 x5
  | _ => none
def f62_raw {R : Type} (N : Nat) (a : List Int) (b : List Int) (k : List DV → Option R) : Option R :=
 f62_0_lp N (fun w0_1 w0_2 w0_3 w0_4 w0_5 w0_6 => k [Go.Eng.DV.v (Go.Eng.SV.one (Go.Eng.At.ints Go.IntKind.u64 5 (Go.Proofs.Ytiaddnmloonhgaa.carriedL (Go.Proofs.Ytiaddnmloonhgaa.carriedL w0_6))))]) N 0 a b (List.replicate 5 0) (List.replicate 5 0)


noncomputable def E62 (N : Nat) : Env := { Θ := Th, Γ := G62, K := K62, ν := N62, fuel := 0, lp := [(0, mkL N62_0 f62_0_sh (f62_0_F N)), (2, mkL N62_2 f62_2_sh (f62_2_F N))] }

theorem f62_2_st_eq {R : Type} (N : Nat) (K : X → AS → Option R) (n : Nat) (x1 : Int) (x2 : Int) (x3 : Int) (x4 : List Int) (x5 : List Int) (x6 : List Int) (x7 : List Int) : roundsOf (E62 N) N62_2 2 B62_2 K (n + 1) (fill f62_2_sh [.i x1, .i x2, .i x3, .l x4, .l x5, .l x6, .l x7]) = f62_2_st N (fun x1 x2 x3 x4 x5 x6 x7 => roundsOf (E62 N) N62_2 2 B62_2 K n (fill f62_2_sh [.i x1, .i x2, .i x3, .l x4, .l x5, .l x6, .l x7])) (fun y1 y2 y3 y4 y5 y6 y7 y8 => K (Go.Eng.X.normal) (fill f62_2_ex1 [.b y1, .i y2, .i y3, .i y4, .l y5, .l y6, .l y7, .l y8])) x1 x2 x3 x4 x5 x6 x7 := by kernel_rfl
theorem f62_2_lp_eq {R : Type} (N : Nat) (K : X → AS → Option R) : ∀ (n : Nat) (x1 : Int) (x2 : Int) (x3 : Int) (x4 : List Int) (x5 : List Int) (x6 : List Int) (x7 : List Int), roundsOf (E62 N) N62_2 2 B62_2 K n (fill f62_2_sh [.i x1, .i x2, .i x3, .l x4, .l x5, .l x6, .l x7]) = f62_2_lp N (fun y1 y2 y3 y4 y5 y6 y7 y8 => K (Go.Eng.X.normal) (fill f62_2_ex1 [.b y1, .i y2, .i y3, .i y4, .l y5, .l y6, .l y7, .l y8])) n x1 x2 x3 x4 x5 x6 x7
  | 0, _, _, _, _, _, _, _ => rfl
  | n + 1, x1, x2, x3, x4, x5, x6, x7 => by
    rw [f62_2_st_eq, f62_2_lp, show (fun x1 x2 x3 x4 x5 x6 x7 => roundsOf (E62 N) N62_2 2 B62_2 K n (fill f62_2_sh [.i x1, .i x2, .i x3, .l x4, .l x5, .l x6, .l x7])) = f62_2_lp N (fun y1 y2 y3 y4 y5 y6 y7 y8 => K (Go.Eng.X.normal) (fill f62_2_ex1 [.b y1, .i y2, .i y3, .i y4, .l y5, .l y6, .l y7, .l y8])) n from by funext x1 x2 x3 x4 x5 x6 x7; exact f62_2_lp_eq N K n x1 x2 x3 x4 x5 x6 x7]
theorem f62_2_ok (N : Nat) (hlp : LoopsOk Try.prog (E62 N).lp B62_2) (hΓ : CtxOk Try.prog (E62 N).Γ) : LoopOk Try.prog (mkL N62_2 f62_2_sh (f62_2_F N)) 2 B62_2 := by
  refine loopOk_of (E := E62 N) thOk hΓ mixed hlp ?_
  intro R ls K r h
  unfold f62_2_F at h
  split at h
  · exact ⟨N, by rw [f62_2_lp_eq]; exact h⟩
  · cases h
theorem f62_0_st_eq {R : Type} (N : Nat) (K : X → AS → Option R) (n : Nat) (x1 : Int) (x2 : List Int) (x3 : List Int) (x4 : List Int) (x5 : List Int) : roundsOf (E62 N) N62_0 0 B62_0 K (n + 1) (fill f62_0_sh [.i x1, .l x2, .l x3, .l x4, .l x5]) = f62_0_st N (fun x1 x2 x3 x4 x5 => roundsOf (E62 N) N62_0 0 B62_0 K n (fill f62_0_sh [.i x1, .l x2, .l x3, .l x4, .l x5])) (fun y1 y2 y3 y4 y5 y6 => K (Go.Eng.X.normal) (fill f62_0_ex1 [.b y1, .i y2, .l y3, .l y4, .l y5, .l y6])) x1 x2 x3 x4 x5 := by kernel_rfl
theorem f62_0_lp_eq {R : Type} (N : Nat) (K : X → AS → Option R) : ∀ (n : Nat) (x1 : Int) (x2 : List Int) (x3 : List Int) (x4 : List Int) (x5 : List Int), roundsOf (E62 N) N62_0 0 B62_0 K n (fill f62_0_sh [.i x1, .l x2, .l x3, .l x4, .l x5]) = f62_0_lp N (fun y1 y2 y3 y4 y5 y6 => K (Go.Eng.X.normal) (fill f62_0_ex1 [.b y1, .i y2, .l y3, .l y4, .l y5, .l y6])) n x1 x2 x3 x4 x5
  | 0, _, _, _, _, _ => rfl
  | n + 1, x1, x2, x3, x4, x5 => by
    rw [f62_0_st_eq, f62_0_lp, show (fun x1 x2 x3 x4 x5 => roundsOf (E62 N) N62_0 0 B62_0 K n (fill f62_0_sh [.i x1, .l x2, .l x3, .l x4, .l x5])) = f62_0_lp N (fun y1 y2 y3 y4 y5 y6 => K (Go.Eng.X.normal) (fill f62_0_ex1 [.b y1, .i y2, .l y3, .l y4, .l y5, .l y6])) n from by funext x1 x2 x3 x4 x5; exact f62_0_lp_eq N K n x1 x2 x3 x4 x5]
theorem f62_0_ok (N : Nat) (hlp : LoopsOk Try.prog (E62 N).lp B62_0) (hΓ : CtxOk Try.prog (E62 N).Γ) : LoopOk Try.prog (mkL N62_0 f62_0_sh (f62_0_F N)) 0 B62_0 := by
  refine loopOk_of (E := E62 N) thOk hΓ mixed hlp ?_
  intro R ls K r h
  unfold f62_0_F at h
  split at h
  · exact ⟨N, by rw [f62_0_lp_eq]; exact h⟩
  · cases h

theorem lok62_2 (N : Nat) (hΓ : CtxOk Try.prog G62) : LoopOk Try.prog (mkL N62_2 f62_2_sh (f62_2_F N)) 2 B62_2 := f62_2_ok N (loopsOk_of (l := []) (by kernel_rfl) trivial) hΓ
theorem lok62_0 (N : Nat) (hΓ : CtxOk Try.prog G62) : LoopOk Try.prog (mkL N62_0 f62_0_sh (f62_0_F N)) 0 B62_0 := f62_0_ok N (loopsOk_of (l := [(2, B62_2)]) (by kernel_rfl) (allOk_cons (L := mkL N62_2 f62_2_sh (f62_2_F N)) rfl (lok62_2 N hΓ) trivial)) hΓ
theorem f62_contract (N : Nat) (hΓ : CtxOk Try.prog G62) : Contract Try.prog 62 { sig := S62, impl := fun _ ds k => call (E62 N) S62 53 B62 R62 ds k } :=
  call_contract (E := E62 N) thOk hΓ mixed ok62.look ok62.body ok62.n ok62.rv rfl (by decide) (loopsOk_of (l := [(0, B62_0), (2, B62_2)]) (by kernel_rfl) (allOk_cons (L := mkL N62_0 f62_0_sh (f62_0_F N)) rfl (lok62_0 N hΓ) (allOk_cons (L := mkL N62_2 f62_2_sh (f62_2_F N)) rfl (lok62_2 N hΓ) trivial)))
theorem f62_raw_eq {R : Type} (N : Nat) (a : List Int) (b : List Int) (k : List DV → Option R) : call (E62 N) S62 53 B62 R62 [.v (.one (.ints .u64 5 a)), .v (.one (.ints .u64 5 b))] k = f62_raw N a b k := by kernel_rfl
end Go.Proofs.Ytiaddnmloonhgaa

/- What (rime/seal.big).whole comes to. MADE BY PROGRAM (wip/tools/mkfn.py, EngGen.lean). -/
namespace Go.Proofs.Ytiaddnmloonhgaa
open Go Go.Eng
set_option maxRecDepth 100000
set_option linter.unusedVariables false

def f63_0_sh : Shp := { n := 37, lo := 1, slots := [(1, .one (.fix (Go.Eng.At.ptr 1 0 Go.Eng.Off.z 5))), (2, .one (.fix (Go.Eng.At.ptr 2 0 Go.Eng.Off.z 5))), (3, .one (.fix (Go.Eng.At.ptr 3 0 Go.Eng.Off.z 5))), (4, .one (.int Go.IntKind.u64)), (14, .one (.int Go.IntKind.i64))], items := [(1, .obj [.ints Go.IntKind.u64 5]), (2, .obj [.ints Go.IntKind.u64 5]), (3, .obj [.ints Go.IntKind.u64 5])] }
def f63_0_ex1 : Shp := { n := 37, lo := 1, slots := [(15, .one (.bool)), (1, .one (.fix (Go.Eng.At.ptr 1 0 Go.Eng.Off.z 5))), (2, .one (.fix (Go.Eng.At.ptr 2 0 Go.Eng.Off.z 5))), (3, .one (.fix (Go.Eng.At.ptr 3 0 Go.Eng.Off.z 5))), (4, .one (.int Go.IntKind.u64)), (14, .one (.int Go.IntKind.i64))], items := [(1, .obj [.ints Go.IntKind.u64 5]), (2, .obj [.ints Go.IntKind.u64 5]), (3, .obj [.ints Go.IntKind.u64 5])] }
def f63_0_st {R : Type} (N : Nat) (self : Int → Int → List Int → List Int → List Int → Option R) (k1 : Bool → Int → Int → List Int → List Int → List Int → Option R) (x1 : Int) (x2 : Int) (x3 : List Int) (x4 : List Int) (x5 : List Int) : Option R :=
  bif Decidable.decide (x2 < 5) then
  bif Decidable.decide (0 ≤ x2) && Decidable.decide (x2 < ↑5) then
    bif Decidable.decide (0 ≤ x2) && Decidable.decide (x2 < ↑5) then
      bif Decidable.decide (0 ≤ x2) && Decidable.decide (x2 < ↑5) then
        bif Decidable.decide (0 ≤ x2) && Decidable.decide (x2 < ↑5) then
          bif Decidable.decide (0 ≤ x2) && Decidable.decide (x2 < ↑5) then
            let v0 : Int := Go.IntKind.u64.wrap (x5.getD (Go.Eng.mulE x2.toNat 1) 0 + x1);
            let v1 : List Int := x5.set (Go.Eng.mulE x2.toNat 1) v0;
            let v2 : Int := Go.Eng.shrI Go.IntKind.u64 (v1.getD (Go.Eng.mulE x2.toNat 1) 0) 26;
            let v3 : Int := Go.IntKind.i64.wrap (x2 + 1);
            let v4 : Int := Go.Eng.andI Go.IntKind.u64 (v1.getD (Go.Eng.mulE x2.toNat 1) 0) 67108863;
            let v5 : List Int := v1.set (Go.Eng.mulE x2.toNat 1) v4;
            self v2 v3 x3 x4 v5
          else Option.none
        else Option.none
      else Option.none
    else Option.none
  else Option.none
else k1 (Decidable.decide (x2 < 5)) x1 x2 x3 x4 x5
def f63_0_lp {R : Type} (N : Nat) (k1 : Bool → Int → Int → List Int → List Int → List Int → Option R) : Nat → Int → Int → List Int → List Int → List Int → Option R
  | 0, _, _, _, _, _ => none
  | n + 1, x1, x2, x3, x4, x5 => f63_0_st N (f63_0_lp N k1 n) k1 x1 x2 x3 x4 x5
def f63_0_F (N : Nat) : (R : Type) → List Leaf → (X → AS → Option R) → Option R := fun _ ls K => match ls with
  | [.i x1, .i x2, .l x3, .l x4, .l x5] => f63_0_lp N (fun y1 y2 y3 y4 y5 y6 => K (Go.Eng.X.normal) (fill f63_0_ex1 [.b y1, .i y2, .i y3, .l y4, .l y5, .l y6])) N x1 x2 x3 x4 x5
  | _ => none
def f63_raw {R : Type} (N : Nat) (a : List Int) (k : List DV → Option R) : Option R :=
 let v0 : Int := Go.IntKind.u64.wrap ((Go.Proofs.Ytiaddnmloonhgaa.carriedL (Go.Proofs.Ytiaddnmloonhgaa.carriedL a)).getD (Go.Eng.mulE (Int.toNat 0) 1) 0 + 5);
let v1 : List Int := (Go.Proofs.Ytiaddnmloonhgaa.carriedL (Go.Proofs.Ytiaddnmloonhgaa.carriedL a)).set (Go.Eng.mulE (Int.toNat 0) 1) v0;
f63_0_lp N (fun w2_1 w2_2 w2_3 w2_4 w2_5 w2_6 => bif Decidable.decide (w2_2 > 0) then k [Go.Eng.DV.v (Go.Eng.SV.one (Go.Eng.At.ints Go.IntKind.u64 5 w2_6))] else k [Go.Eng.DV.v (Go.Eng.SV.one (Go.Eng.At.ints Go.IntKind.u64 5 w2_4))]) N 0 0 (Go.Proofs.Ytiaddnmloonhgaa.carriedL (Go.Proofs.Ytiaddnmloonhgaa.carriedL a)) (List.replicate 5 0) v1


noncomputable def E63 (N : Nat) : Env := { Θ := Th, Γ := G62, K := K63, ν := N63, fuel := 0, lp := [(0, mkL N63_0 f63_0_sh (f63_0_F N))] }

theorem f63_0_st_eq {R : Type} (N : Nat) (K : X → AS → Option R) (n : Nat) (x1 : Int) (x2 : Int) (x3 : List Int) (x4 : List Int) (x5 : List Int) : roundsOf (E63 N) N63_0 0 B63_0 K (n + 1) (fill f63_0_sh [.i x1, .i x2, .l x3, .l x4, .l x5]) = f63_0_st N (fun x1 x2 x3 x4 x5 => roundsOf (E63 N) N63_0 0 B63_0 K n (fill f63_0_sh [.i x1, .i x2, .l x3, .l x4, .l x5])) (fun y1 y2 y3 y4 y5 y6 => K (Go.Eng.X.normal) (fill f63_0_ex1 [.b y1, .i y2, .i y3, .l y4, .l y5, .l y6])) x1 x2 x3 x4 x5 := by kernel_rfl
theorem f63_0_lp_eq {R : Type} (N : Nat) (K : X → AS → Option R) : ∀ (n : Nat) (x1 : Int) (x2 : Int) (x3 : List Int) (x4 : List Int) (x5 : List Int), roundsOf (E63 N) N63_0 0 B63_0 K n (fill f63_0_sh [.i x1, .i x2, .l x3, .l x4, .l x5]) = f63_0_lp N (fun y1 y2 y3 y4 y5 y6 => K (Go.Eng.X.normal) (fill f63_0_ex1 [.b y1, .i y2, .i y3, .l y4, .l y5, .l y6])) n x1 x2 x3 x4 x5
  | 0, _, _, _, _, _ => rfl
  | n + 1, x1, x2, x3, x4, x5 => by
    rw [f63_0_st_eq, f63_0_lp, show (fun x1 x2 x3 x4 x5 => roundsOf (E63 N) N63_0 0 B63_0 K n (fill f63_0_sh [.i x1, .i x2, .l x3, .l x4, .l x5])) = f63_0_lp N (fun y1 y2 y3 y4 y5 y6 => K (Go.Eng.X.normal) (fill f63_0_ex1 [.b y1, .i y2, .i y3, .l y4, .l y5, .l y6])) n from by funext x1 x2 x3 x4 x5; exact f63_0_lp_eq N K n x1 x2 x3 x4 x5]
theorem f63_0_ok (N : Nat) (hlp : LoopsOk Try.prog (E63 N).lp B63_0) (hΓ : CtxOk Try.prog (E63 N).Γ) : LoopOk Try.prog (mkL N63_0 f63_0_sh (f63_0_F N)) 0 B63_0 := by
  refine loopOk_of (E := E63 N) thOk hΓ mixed hlp ?_
  intro R ls K r h
  unfold f63_0_F at h
  split at h
  · exact ⟨N, by rw [f63_0_lp_eq]; exact h⟩
  · cases h

theorem lok63_0 (N : Nat) (hΓ : CtxOk Try.prog G62) : LoopOk Try.prog (mkL N63_0 f63_0_sh (f63_0_F N)) 0 B63_0 := f63_0_ok N (loopsOk_of (l := []) (by kernel_rfl) trivial) hΓ
theorem f63_contract (N : Nat) (hΓ : CtxOk Try.prog G62) : Contract Try.prog 63 { sig := S63, impl := fun _ ds k => call (E63 N) S63 37 B63 R63 ds k } :=
  call_contract (E := E63 N) thOk hΓ mixed ok63.look ok63.body ok63.n ok63.rv rfl (by decide) (loopsOk_of (l := [(0, B63_0)]) (by kernel_rfl) (allOk_cons (L := mkL N63_0 f63_0_sh (f63_0_F N)) rfl (lok63_0 N hΓ) trivial))
theorem f63_raw_eq {R : Type} (N : Nat) (a : List Int) (k : List DV → Option R) : call (E63 N) S63 37 B63 R63 [.v (.one (.ints .u64 5 a))] k = f63_raw N a k := by kernel_rfl
end Go.Proofs.Ytiaddnmloonhgaa

/- Numbers in limbs: the product, the whole, the limbs of bytes. -/
namespace Go.Proofs.Ytiaddnmloonhgaa
open Go Go.Eng
set_option maxRecDepth 100000

/-! ### times -/

def timesL (a b : List Int) : List Int := answer (f62_raw 6 a b some)

theorem f62_spec {R : Type} (a b : List Int) (k : List DV → Option R) : f62_raw 6 a b k = k [.v (.one (.ints .u64 5 (timesL a b)))] := by kernel_rfl

def I62 : (R : Type) → List DV → (List DV → Option R) → Option R := fun _ ds k => match ds with
  | [.v (.one (.ints .u64 5 a)), .v (.one (.ints .u64 5 b))] => k [.v (.one (.ints .u64 5 (timesL a b)))]
  | _ => none

theorem c62 : Contract Try.prog 62 { sig := S62, impl := I62 } := by
  refine Contract.refine fun R ds k r h => ⟨_, f62_contract 6 G62_ok, ?_⟩
  unfold I62 at h
  split at h
  · rw [f62_raw_eq, f62_spec]; exact h
  · cases h

/-! ### whole -/

/-- where the loop of 'whole' ends -/
def wholeRun (a : List Int) : Option (Int × List Int × List Int) :=
  f63_0_lp 6 (fun _ y2 _ y4 _ y6 => some (y2, y4, y6)) 6 0 0 (carriedL (carriedL a)) (List.replicate 5 0) ((carriedL (carriedL a)).set 0 (IntKind.u64.wrap ((carriedL (carriedL a)).getD 0 0 + 5)))

theorem whole_some (a : List Int) : (wholeRun a).isSome = true := by kernel_rfl

def wholeL (a : List Int) : List Int := match wholeRun a with
  | some (c, u, g) => cond (decide (c > 0)) g u
  | none => []

theorem f63_match {R : Type} (a : List Int) (k : List DV → Option R) : f63_raw 6 a k = match wholeRun a with
  | some (c, u, g) => cond (decide (c > 0)) (k [.v (.one (.ints .u64 5 g))]) (k [.v (.one (.ints .u64 5 u))])
  | none => none := by kernel_rfl

theorem f63_spec {R : Type} (a : List Int) (k : List DV → Option R) : f63_raw 6 a k = k [.v (.one (.ints .u64 5 (wholeL a)))] := by
  rw [f63_match]
  unfold wholeL
  have := whole_some a
  cases hw : wholeRun a with
  | none => rw [hw] at this; cases this
  | some p =>
    obtain ⟨c, u, g⟩ := p
    simp only
    cases decide (c > 0) <;> rfl

def I63 : (R : Type) → List DV → (List DV → Option R) → Option R := fun _ ds k => match ds with
  | [.v (.one (.ints .u64 5 a))] => k [.v (.one (.ints .u64 5 (wholeL a)))]
  | _ => none

theorem c63 : Contract Try.prog 63 { sig := S63, impl := I63 } := by
  refine Contract.refine fun R ds k r h => ⟨_, f63_contract 6 G62_ok, ?_⟩
  unfold I63 at h
  split at h
  · rw [f63_raw_eq, f63_spec]; exact h
  · cases h

/-! ### limbs -/

def limbBit (b : List Int) (i : Nat) : Bool := andI .u8 (shrI .u8 (b.getD (i / 8) 0) ((i % 8 : Nat) : Int)) 1 == 1

def limbsStep (b : List Int) (i : Nat) (n : List Int) : List Int :=
  cond (decide (i < 130) && limbBit b i) (n.set (i / 26) (orI .u64 (n.getD (i / 26) 0) (shlI .u64 1 ((i % 26 : Nat) : Int)))) n

def limbsGo (b : List Int) : Nat → Nat → List Int → List Int
  | 0, _, n => n
  | m + 1, i, n => limbsGo b m (i + 1) (limbsStep b i n)

def limbsL (b : List Int) : List Int := limbsGo b 136 0 (List.replicate 5 0)

theorem limbs_step {R : Type} (N : Nat) (self : Int → List Int → List Int → List Int → Option R) (k1 : Bool → Int → List Int → List Int → List Int → Option R) (i : Nat) (hi : i < 136) (x2 x3 x4 : List Int) :
    f61_0_st N self k1 (i : Int) x2 x3 x4 = self ((i + 1 : Nat) : Int) x2 x3 (limbsStep x2 i x4) := by
  have h0 : decide ((i : Int) < 136) = true := by simp; omega
  have hd8 : (i : Int).tdiv 8 = ((i / 8 : Nat) : Int) := (Int.ofNat_tdiv i 8).symm
  have hd26 : (i : Int).tdiv 26 = ((i / 26 : Nat) : Int) := (Int.ofNat_tdiv i 26).symm
  have hm8 : (i : Int).tmod 8 = ((i % 8 : Nat) : Int) := (Int.ofNat_tmod i 8).symm
  have hm26 : (i : Int).tmod 26 = ((i % 26 : Nat) : Int) := (Int.ofNat_tmod i 26).symm
  have w8 : IntKind.i64.wrap ((i / 8 : Nat) : Int) = ((i / 8 : Nat) : Int) := wrap64_nat (by omega)
  have w26 : IntKind.i64.wrap ((i / 26 : Nat) : Int) = ((i / 26 : Nat) : Int) := wrap64_nat (by omega)
  have w1 : IntKind.i64.wrap ((i : Int) + 1) = ((i + 1 : Nat) : Int) := by rw [show (i : Int) + 1 = ((i + 1 : Nat) : Int) by omega]; exact wrap64_nat (by omega)
  have g1 : (decide ((0 : Int) ≤ ((i / 8 : Nat) : Int)) && decide (((i / 8 : Nat) : Int) < 17)) = true := by simp; omega
  have g3 : decide ((0 : Int) ≤ ((i % 8 : Nat) : Int)) = true := by simp; omega
  have g4 : decide ((0 : Int) ≤ ((i % 26 : Nat) : Int)) = true := by simp; omega
  unfold f61_0_st limbsStep
  rw [h0]
  by_cases hc : i < 130
  · have hc' : decide ((i : Int) < 130) = true := by simp; omega
    have hcn : decide (i < 130) = true := by simp; omega
    have g2 : (decide ((0 : Int) ≤ ((i / 26 : Nat) : Int)) && decide (((i / 26 : Nat) : Int) < 5)) = true := by simp; omega
    rw [hc', hcn, hd8, hm8, hd26, hm26]
    simp only [w8, w26, w1]
    rw [g1, g2, g3, g4]
    simp only [cond_true, Bool.true_and, mulE_one, Int.toNat_natCast]
    show cond (limbBit x2 i) _ _ = _
    cases limbBit x2 i <;> rfl
  · have hc' : decide ((i : Int) < 130) = false := by simp; omega
    have hcn : decide (i < 130) = false := by simp; omega
    rw [hc', hcn]
    simp only [w1]
    rfl

theorem limbs_loop {R : Type} {N : Nat} (k1 : Bool → Int → List Int → List Int → List Int → Option R) (b y : List Int) :
    ∀ (m i : Nat) (n : List Int), i + m = 136 → ∀ fuel, m < fuel → f61_0_lp N k1 fuel (i : Int) b y n = k1 false 136 b y (limbsGo b m i n) := by
  intro m
  induction m with
  | zero =>
    intro i n h fuel hf
    obtain ⟨f, rfl⟩ : ∃ f, fuel = f + 1 := ⟨fuel - 1, by omega⟩
    have : i = 136 := by omega
    subst this
    rfl
  | succ m ih =>
    intro i n h fuel hf
    obtain ⟨f, rfl⟩ : ∃ f, fuel = f + 1 := ⟨fuel - 1, by omega⟩
    show f61_0_st N (f61_0_lp N k1 f) k1 _ b y n = _
    rw [limbs_step N _ _ i (by omega), ih (i + 1) _ (by omega) f (by omega)]
    rfl

def I61 : (R : Type) → List DV → (List DV → Option R) → Option R := fun _ ds k => match ds with
  | [.v (.one (.ints .u8 17 b))] => k [.v (.one (.ints .u64 5 (limbsL b)))]
  | _ => none

theorem c61 : Contract Try.prog 61 { sig := S61, impl := I61 } := by
  refine Contract.refine fun R ds k r h => ⟨_, f61_contract 137 ctxOk_nil, ?_⟩
  unfold I61 at h
  split at h
  · rename_i b
    rw [f61_raw_eq]
    unfold f61_raw
    exact (limbs_loop (N := 137) (fun w0_1 w0_2 w0_3 w0_4 w0_5 => k [DV.v (SV.one (At.ints IntKind.u64 5 w0_5))]) b (List.replicate 5 0) 136 0 (List.replicate 5 0) (by omega) 137 (by omega)).trans h
  · cases h

def G24 : Ctx := [(61, { sig := S61, impl := I61 }), (62, { sig := S62, impl := I62 }), (63, { sig := S63, impl := I63 })]
theorem G24_ok : CtxOk Try.prog G24 := ctxOk_cons ok61 rfl c61 (ctxOk_cons ok62 rfl c62 (ctxOk_cons ok63 rfl c63 ctxOk_nil))

end Go.Proofs.Ytiaddnmloonhgaa

/- What rime/seal.Mac comes to. MADE BY PROGRAM (wip/tools/mkfn.py, EngGen.lean). -/
namespace Go.Proofs.Ytiaddnmloonhgaa
open Go Go.Eng
set_option maxRecDepth 100000
set_option linter.unusedVariables false

def f24_0_sh : Shp := { n := 123, lo := 2, slots := [(1, .one (.fix (Go.Eng.At.own 1))), (2, .one (.fix (Go.Eng.At.ptr 2 0 Go.Eng.Off.z 32))), (4, .one (.fix (Go.Eng.At.ptr 4 0 Go.Eng.Off.z 16))), (5, .one (.fix (Go.Eng.At.ptr 5 0 Go.Eng.Off.z 17))), (26, .one (.fix (Go.Eng.At.own 26))), (27, .one (.int Go.IntKind.i64)), (28, .one (.int Go.IntKind.i64))], items := [(1, .view Go.IntKind.u8 1), (2, .obj [.ints Go.IntKind.u8 32]), (4, .obj [.ints Go.IntKind.u8 16]), (5, .obj [.ints Go.IntKind.u8 17]), (26, .row Go.IntKind.i64 1)] }
def f24_0_ex1 : Shp := { n := 123, lo := 2, slots := [(29, .one (.bool)), (1, .one (.fix (Go.Eng.At.own 1))), (2, .one (.fix (Go.Eng.At.ptr 2 0 Go.Eng.Off.z 32))), (4, .one (.fix (Go.Eng.At.ptr 4 0 Go.Eng.Off.z 16))), (5, .one (.fix (Go.Eng.At.ptr 5 0 Go.Eng.Off.z 17))), (26, .one (.fix (Go.Eng.At.own 26))), (27, .one (.int Go.IntKind.i64)), (28, .one (.int Go.IntKind.i64))], items := [(1, .view Go.IntKind.u8 1), (2, .obj [.ints Go.IntKind.u8 32]), (4, .obj [.ints Go.IntKind.u8 16]), (5, .obj [.ints Go.IntKind.u8 17]), (26, .row Go.IntKind.i64 1)] }
def f24_0_st {R : Type} (N : Nat) (self : Int → Int → List Int → List Int → List Int → List Int → List Int → Option R) (k1 : Bool → Int → Int → List Int → List Int → List Int → List Int → List Int → Option R) (x1 : Int) (x2 : Int) (x3 : List Int) (x4 : List Int) (x5 : List Int) (x6 : List Int) (x7 : List Int) : Option R :=
  bif Decidable.decide (x2 < x1) then
  bif Decidable.decide (0 ≤ x2) && Decidable.decide (x2 < Go.Eng.nI (Go.Eng.rowLen 1 x7)) then
    bif Decidable.decide (0 ≤ x7.getD (Go.Eng.mulE x2.toNat 1) 0) && Decidable.decide (x7.getD (Go.Eng.mulE x2.toNat 1) 0 < 17) then
      bif Decidable.decide (0 ≤ x7.getD (Go.Eng.mulE x2.toNat 1) 0) && Decidable.decide (x7.getD (Go.Eng.mulE x2.toNat 1) 0 < 17) then
        let v0 : Int := Go.IntKind.i64.wrap (x2 + 1);
        let v1 : Int := Go.Eng.andI Go.IntKind.u8 (x6.getD (Go.Eng.mulE (x7.getD (Go.Eng.mulE x2.toNat 1) 0).toNat 1) 0) 15;
        let v2 : List Int := x6.set (Go.Eng.mulE (x7.getD (Go.Eng.mulE x2.toNat 1) 0).toNat 1) v1;
        self x1 v0 x3 x4 x5 v2 x7
      else Option.none
    else Option.none
  else Option.none
else k1 (Decidable.decide (x2 < x1)) x1 x2 x3 x4 x5 x6 x7
def f24_0_lp {R : Type} (N : Nat) (k1 : Bool → Int → Int → List Int → List Int → List Int → List Int → List Int → Option R) : Nat → Int → Int → List Int → List Int → List Int → List Int → List Int → Option R
  | 0, _, _, _, _, _, _, _ => none
  | n + 1, x1, x2, x3, x4, x5, x6, x7 => f24_0_st N (f24_0_lp N k1 n) k1 x1 x2 x3 x4 x5 x6 x7
def f24_0_F (N : Nat) : (R : Type) → List Leaf → (X → AS → Option R) → Option R := fun _ ls K => match ls with
  | [.i x1, .i x2, .l x3, .l x4, .l x5, .l x6, .l x7] => f24_0_lp N (fun y1 y2 y3 y4 y5 y6 y7 y8 => K (Go.Eng.X.normal) (fill f24_0_ex1 [.b y1, .i y2, .i y3, .l y4, .l y5, .l y6, .l y7, .l y8])) N x1 x2 x3 x4 x5 x6 x7
  | _ => none
def f24_2_sh : Shp := { n := 123, lo := 2, slots := [(1, .one (.fix (Go.Eng.At.own 1))), (2, .one (.fix (Go.Eng.At.ptr 2 0 Go.Eng.Off.z 32))), (4, .one (.fix (Go.Eng.At.ptr 4 0 Go.Eng.Off.z 16))), (5, .one (.fix (Go.Eng.At.ptr 5 0 Go.Eng.Off.z 17))), (38, .one (.fix (Go.Eng.At.own 38))), (39, .one (.int Go.IntKind.i64)), (40, .one (.int Go.IntKind.i64))], items := [(1, .view Go.IntKind.u8 1), (2, .obj [.ints Go.IntKind.u8 32]), (4, .obj [.ints Go.IntKind.u8 16]), (5, .obj [.ints Go.IntKind.u8 17]), (38, .row Go.IntKind.i64 1)] }
def f24_2_ex1 : Shp := { n := 123, lo := 2, slots := [(41, .one (.bool)), (1, .one (.fix (Go.Eng.At.own 1))), (2, .one (.fix (Go.Eng.At.ptr 2 0 Go.Eng.Off.z 32))), (4, .one (.fix (Go.Eng.At.ptr 4 0 Go.Eng.Off.z 16))), (5, .one (.fix (Go.Eng.At.ptr 5 0 Go.Eng.Off.z 17))), (38, .one (.fix (Go.Eng.At.own 38))), (39, .one (.int Go.IntKind.i64)), (40, .one (.int Go.IntKind.i64))], items := [(1, .view Go.IntKind.u8 1), (2, .obj [.ints Go.IntKind.u8 32]), (4, .obj [.ints Go.IntKind.u8 16]), (5, .obj [.ints Go.IntKind.u8 17]), (38, .row Go.IntKind.i64 1)] }
def f24_2_st {R : Type} (N : Nat) (self : Int → Int → List Int → List Int → List Int → List Int → List Int → Option R) (k1 : Bool → Int → Int → List Int → List Int → List Int → List Int → List Int → Option R) (x1 : Int) (x2 : Int) (x3 : List Int) (x4 : List Int) (x5 : List Int) (x6 : List Int) (x7 : List Int) : Option R :=
  bif Decidable.decide (x2 < x1) then
  bif Decidable.decide (0 ≤ x2) && Decidable.decide (x2 < Go.Eng.nI (Go.Eng.rowLen 1 x7)) then
    bif Decidable.decide (0 ≤ x7.getD (Go.Eng.mulE x2.toNat 1) 0) && Decidable.decide (x7.getD (Go.Eng.mulE x2.toNat 1) 0 < 17) then
      bif Decidable.decide (0 ≤ x7.getD (Go.Eng.mulE x2.toNat 1) 0) && Decidable.decide (x7.getD (Go.Eng.mulE x2.toNat 1) 0 < 17) then
        let v0 : Int := Go.IntKind.i64.wrap (x2 + 1);
        let v1 : Int := Go.Eng.andI Go.IntKind.u8 (x6.getD (Go.Eng.mulE (x7.getD (Go.Eng.mulE x2.toNat 1) 0).toNat 1) 0) 252;
        let v2 : List Int := x6.set (Go.Eng.mulE (x7.getD (Go.Eng.mulE x2.toNat 1) 0).toNat 1) v1;
        self x1 v0 x3 x4 x5 v2 x7
      else Option.none
    else Option.none
  else Option.none
else k1 (Decidable.decide (x2 < x1)) x1 x2 x3 x4 x5 x6 x7
def f24_2_lp {R : Type} (N : Nat) (k1 : Bool → Int → Int → List Int → List Int → List Int → List Int → List Int → Option R) : Nat → Int → Int → List Int → List Int → List Int → List Int → List Int → Option R
  | 0, _, _, _, _, _, _, _ => none
  | n + 1, x1, x2, x3, x4, x5, x6, x7 => f24_2_st N (f24_2_lp N k1 n) k1 x1 x2 x3 x4 x5 x6 x7
def f24_2_F (N : Nat) : (R : Type) → List Leaf → (X → AS → Option R) → Option R := fun _ ls K => match ls with
  | [.i x1, .i x2, .l x3, .l x4, .l x5, .l x6, .l x7] => f24_2_lp N (fun y1 y2 y3 y4 y5 y6 y7 y8 => K (Go.Eng.X.normal) (fill f24_2_ex1 [.b y1, .i y2, .i y3, .l y4, .l y5, .l y6, .l y7, .l y8])) N x1 x2 x3 x4 x5 x6 x7
  | _ => none
def f24_6_sh : Shp := { n := 123, lo := 2, slots := [(1, .one (.fix (Go.Eng.At.own 1))), (2, .one (.fix (Go.Eng.At.ptr 2 0 Go.Eng.Off.z 32))), (4, .one (.fix (Go.Eng.At.ptr 4 0 Go.Eng.Off.z 16))), (10, .one (.fix (Go.Eng.At.ptr 10 0 Go.Eng.Off.z 5))), (11, .one (.fix (Go.Eng.At.ptr 11 0 Go.Eng.Off.z 5))), (12, .one (.int Go.IntKind.i64)), (66, .one (.ints Go.IntKind.u64 5)), (67, .one (.int Go.IntKind.i64))], items := [(1, .view Go.IntKind.u8 1), (2, .obj [.ints Go.IntKind.u8 32]), (4, .obj [.ints Go.IntKind.u8 16]), (10, .obj [.ints Go.IntKind.u64 5]), (11, .obj [.ints Go.IntKind.u64 5])] }
def f24_6_ex1 : Shp := { n := 123, lo := 2, slots := [(68, .one (.bool)), (1, .one (.fix (Go.Eng.At.own 1))), (2, .one (.fix (Go.Eng.At.ptr 2 0 Go.Eng.Off.z 32))), (4, .one (.fix (Go.Eng.At.ptr 4 0 Go.Eng.Off.z 16))), (10, .one (.fix (Go.Eng.At.ptr 10 0 Go.Eng.Off.z 5))), (11, .one (.fix (Go.Eng.At.ptr 11 0 Go.Eng.Off.z 5))), (12, .one (.int Go.IntKind.i64)), (66, .one (.ints Go.IntKind.u64 5)), (67, .one (.int Go.IntKind.i64))], items := [(1, .view Go.IntKind.u8 1), (2, .obj [.ints Go.IntKind.u8 32]), (4, .obj [.ints Go.IntKind.u8 16]), (10, .obj [.ints Go.IntKind.u64 5]), (11, .obj [.ints Go.IntKind.u64 5])] }
def f24_6_st {R : Type} (N : Nat) (self : Int → List Int → Int → List Int → List Int → List Int → List Int → List Int → Option R) (k1 : Bool → Int → List Int → Int → List Int → List Int → List Int → List Int → List Int → Option R) (x1 : Int) (x2 : List Int) (x3 : Int) (x4 : List Int) (x5 : List Int) (x6 : List Int) (x7 : List Int) (x8 : List Int) : Option R :=
  bif Decidable.decide (x3 < 5) then
  bif Decidable.decide (0 ≤ x3) && Decidable.decide (x3 < 5) then
    bif Decidable.decide (0 ≤ x3) && Decidable.decide (x3 < 5) then
      bif Decidable.decide (0 ≤ x3) && Decidable.decide (x3 < 5) then
        let v0 : Int := Go.IntKind.i64.wrap (x3 + 1);
        let v1 : Int := Go.IntKind.u64.wrap (x8.getD (Go.Eng.mulE x3.toNat 1) 0 + x2.getD x3.toNat 0);
        let v2 : List Int := x8.set (Go.Eng.mulE x3.toNat 1) v1;
        self x1 x2 v0 x4 x5 x6 x7 v2
      else Option.none
    else Option.none
  else Option.none
else k1 (Decidable.decide (x3 < 5)) x1 x2 x3 x4 x5 x6 x7 x8
def f24_6_lp {R : Type} (N : Nat) (k1 : Bool → Int → List Int → Int → List Int → List Int → List Int → List Int → List Int → Option R) : Nat → Int → List Int → Int → List Int → List Int → List Int → List Int → List Int → Option R
  | 0, _, _, _, _, _, _, _, _ => none
  | n + 1, x1, x2, x3, x4, x5, x6, x7, x8 => f24_6_st N (f24_6_lp N k1 n) k1 x1 x2 x3 x4 x5 x6 x7 x8
def f24_6_F (N : Nat) : (R : Type) → List Leaf → (X → AS → Option R) → Option R := fun _ ls K => match ls with
  | [.i x1, .l x2, .i x3, .l x4, .l x5, .l x6, .l x7, .l x8] => f24_6_lp N (fun y1 y2 y3 y4 y5 y6 y7 y8 y9 => K (Go.Eng.X.normal) (fill f24_6_ex1 [.b y1, .i y2, .l y3, .i y4, .l y5, .l y6, .l y7, .l y8, .l y9])) N x1 x2 x3 x4 x5 x6 x7 x8
  | _ => none
def f24_4_sh : Shp := { n := 123, lo := 2, slots := [(1, .one (.fix (Go.Eng.At.own 1))), (2, .one (.fix (Go.Eng.At.ptr 2 0 Go.Eng.Off.z 32))), (4, .one (.fix (Go.Eng.At.ptr 4 0 Go.Eng.Off.z 16))), (10, .one (.fix (Go.Eng.At.ptr 10 0 Go.Eng.Off.z 5))), (11, .one (.fix (Go.Eng.At.ptr 11 0 Go.Eng.Off.z 5))), (12, .one (.int Go.IntKind.i64))], items := [(1, .view Go.IntKind.u8 1), (2, .obj [.ints Go.IntKind.u8 32]), (4, .obj [.ints Go.IntKind.u8 16]), (10, .obj [.ints Go.IntKind.u64 5]), (11, .obj [.ints Go.IntKind.u64 5])] }
def f24_4_ex1 : Shp := { n := 123, lo := 2, slots := [(55, .one (.bool)), (1, .one (.fix (Go.Eng.At.own 1))), (2, .one (.fix (Go.Eng.At.ptr 2 0 Go.Eng.Off.z 32))), (4, .one (.fix (Go.Eng.At.ptr 4 0 Go.Eng.Off.z 16))), (10, .one (.fix (Go.Eng.At.ptr 10 0 Go.Eng.Off.z 5))), (11, .one (.fix (Go.Eng.At.ptr 11 0 Go.Eng.Off.z 5))), (12, .one (.int Go.IntKind.i64))], items := [(1, .view Go.IntKind.u8 1), (2, .obj [.ints Go.IntKind.u8 32]), (4, .obj [.ints Go.IntKind.u8 16]), (10, .obj [.ints Go.IntKind.u64 5]), (11, .obj [.ints Go.IntKind.u64 5])] }
def f24_4_st {R : Type} (N : Nat) (self : Int → List Int → List Int → List Int → List Int → List Int → Option R) (k1 : Bool → Int → List Int → List Int → List Int → List Int → List Int → Option R) (x1 : Int) (x2 : List Int) (x3 : List Int) (x4 : List Int) (x5 : List Int) (x6 : List Int) : Option R :=
  bif Decidable.decide (x1 < Go.Eng.nI (Go.Eng.rowLen 1 x2)) then
  bif Go.Eng.loOk (Option.some x1) (Go.Eng.hiInt Option.none (Go.Eng.rowLen 1 x2)) then
    let v0 : List Int := Go.Eng.sub x2 (Go.Eng.plusO Go.Eng.Off.z 1 (Option.some x1)) (Go.Eng.mulE (Go.Eng.subN (Go.Eng.hiNat Option.none (Go.Eng.rowLen 1 x2)) (Option.some x1)) 1);
    let v1 : Nat := Min.min (Go.Eng.rowLen 1 v0) (Go.Eng.subN (Go.Eng.hiNat (Option.some 16) 17) Option.none);
    bif Decidable.decide (0 ≤ Go.Eng.nI v1) && Decidable.decide (Go.Eng.nI v1 < 17) then
      let v2 : List Int := Go.Eng.splice (List.replicate 17 0) (Go.Eng.plusO Go.Eng.Off.z 1 Option.none) (List.take (Go.Eng.mulE v1 1) v0);
      let v3 : List Int := v2.set (Go.Eng.mulE (Go.Eng.nI v1).toNat 1) 1;
      f24_6_lp N
        (fun w4_1 w4_2 w4_3 w4_4 w4_5 w4_6 w4_7 w4_8 w4_9 =>
          let v5 : Int := Go.IntKind.i64.wrap (w4_2 + 16);
          self v5 w4_5 w4_6 w4_7 w4_8 (Go.Proofs.Ytiaddnmloonhgaa.timesL w4_9 w4_8))
        N x1 (Go.Proofs.Ytiaddnmloonhgaa.limbsL v3) 0 x2 x3 x4 x5 x6
    else Option.none
  else Option.none
else k1 (Decidable.decide (x1 < Go.Eng.nI (Go.Eng.rowLen 1 x2))) x1 x2 x3 x4 x5 x6
def f24_4_lp {R : Type} (N : Nat) (k1 : Bool → Int → List Int → List Int → List Int → List Int → List Int → Option R) : Nat → Int → List Int → List Int → List Int → List Int → List Int → Option R
  | 0, _, _, _, _, _, _ => none
  | n + 1, x1, x2, x3, x4, x5, x6 => f24_4_st N (f24_4_lp N k1 n) k1 x1 x2 x3 x4 x5 x6
def f24_4_F (N : Nat) : (R : Type) → List Leaf → (X → AS → Option R) → Option R := fun _ ls K => match ls with
  | [.i x1, .l x2, .l x3, .l x4, .l x5, .l x6] => f24_4_lp N (fun y1 y2 y3 y4 y5 y6 y7 => K (Go.Eng.X.normal) (fill f24_4_ex1 [.b y1, .i y2, .l y3, .l y4, .l y5, .l y6, .l y7])) N x1 x2 x3 x4 x5 x6
  | _ => none
def f24_10_sh : Shp := { n := 123, lo := 2, slots := [(2, .one (.fix (Go.Eng.At.ptr 2 0 Go.Eng.Off.z 32))), (4, .one (.fix (Go.Eng.At.ptr 4 0 Go.Eng.Off.z 16))), (11, .one (.fix (Go.Eng.At.ptr 11 0 Go.Eng.Off.z 5))), (17, .one (.fix (Go.Eng.At.ptr 17 0 Go.Eng.Off.z 16))), (18, .one (.int Go.IntKind.u64)), (19, .one (.int Go.IntKind.i64)), (20, .one (.int Go.IntKind.u64)), (83, .one (.int Go.IntKind.i64)), (86, .one (.int Go.IntKind.i64))], items := [(2, .obj [.ints Go.IntKind.u8 32]), (4, .obj [.ints Go.IntKind.u8 16]), (11, .obj [.ints Go.IntKind.u64 5]), (17, .obj [.ints Go.IntKind.u8 16])] }
def f24_10_ex1 : Shp := { n := 123, lo := 2, slots := [(87, .one (.bool)), (2, .one (.fix (Go.Eng.At.ptr 2 0 Go.Eng.Off.z 32))), (4, .one (.fix (Go.Eng.At.ptr 4 0 Go.Eng.Off.z 16))), (11, .one (.fix (Go.Eng.At.ptr 11 0 Go.Eng.Off.z 5))), (17, .one (.fix (Go.Eng.At.ptr 17 0 Go.Eng.Off.z 16))), (18, .one (.int Go.IntKind.u64)), (19, .one (.int Go.IntKind.i64)), (20, .one (.int Go.IntKind.u64)), (83, .one (.int Go.IntKind.i64)), (86, .one (.int Go.IntKind.i64))], items := [(2, .obj [.ints Go.IntKind.u8 32]), (4, .obj [.ints Go.IntKind.u8 16]), (11, .obj [.ints Go.IntKind.u64 5]), (17, .obj [.ints Go.IntKind.u8 16])] }
def f24_10_st {R : Type} (N : Nat) (self : Int → Int → Int → Int → Int → List Int → List Int → List Int → List Int → Option R) (k1 : Bool → Int → Int → Int → Int → Int → List Int → List Int → List Int → List Int → Option R) (x1 : Int) (x2 : Int) (x3 : Int) (x4 : Int) (x5 : Int) (x6 : List Int) (x7 : List Int) (x8 : List Int) (x9 : List Int) : Option R :=
  bif Decidable.decide (x5 < 8) then
  let v0 : Int := Go.IntKind.i64.wrap (8 * x2);
  let v1 : Int := Go.IntKind.i64.wrap (v0 + x5);
  let v2 : Int := Go.IntKind.i64.wrap (v1.tdiv 26);
  bif Decidable.decide (0 ≤ v2) && Decidable.decide (v2 < 5) then
    bif Decidable.decide (0 ≤ v1.tmod 26) then
      bif Decidable.decide (0 ≤ x5) then
        let v3 : Int := Go.Eng.shrI Go.IntKind.u64 (x8.getD (Go.Eng.mulE v2.toNat 1) 0) (v1.tmod 26);
        let v4 : Int := Go.Eng.andI Go.IntKind.u64 v3 1;
        let v5 : Int := Go.Eng.shlI Go.IntKind.u64 v4 x5;
        let v6 : Int := Go.Eng.orI Go.IntKind.u64 x3 v5;
        let v7 : Int := Go.IntKind.i64.wrap (x5 + 1);
        self x1 x2 v6 x4 v7 x6 x7 x8 x9
      else Option.none
    else Option.none
  else Option.none
else k1 (Decidable.decide (x5 < 8)) x1 x2 x3 x4 x5 x6 x7 x8 x9
def f24_10_lp {R : Type} (N : Nat) (k1 : Bool → Int → Int → Int → Int → Int → List Int → List Int → List Int → List Int → Option R) : Nat → Int → Int → Int → Int → Int → List Int → List Int → List Int → List Int → Option R
  | 0, _, _, _, _, _, _, _, _, _ => none
  | n + 1, x1, x2, x3, x4, x5, x6, x7, x8, x9 => f24_10_st N (f24_10_lp N k1 n) k1 x1 x2 x3 x4 x5 x6 x7 x8 x9
def f24_10_F (N : Nat) : (R : Type) → List Leaf → (X → AS → Option R) → Option R := fun _ ls K => match ls with
  | [.i x1, .i x2, .i x3, .i x4, .i x5, .l x6, .l x7, .l x8, .l x9] => f24_10_lp N (fun y1 y2 y3 y4 y5 y6 y7 y8 y9 y10 => K (Go.Eng.X.normal) (fill f24_10_ex1 [.b y1, .i y2, .i y3, .i y4, .i y5, .i y6, .l y7, .l y8, .l y9, .l y10])) N x1 x2 x3 x4 x5 x6 x7 x8 x9
  | _ => none
def f24_8_sh : Shp := { n := 123, lo := 2, slots := [(2, .one (.fix (Go.Eng.At.ptr 2 0 Go.Eng.Off.z 32))), (4, .one (.fix (Go.Eng.At.ptr 4 0 Go.Eng.Off.z 16))), (11, .one (.fix (Go.Eng.At.ptr 11 0 Go.Eng.Off.z 5))), (17, .one (.fix (Go.Eng.At.ptr 17 0 Go.Eng.Off.z 16))), (18, .one (.int Go.IntKind.u64)), (83, .one (.int Go.IntKind.i64))], items := [(2, .obj [.ints Go.IntKind.u8 32]), (4, .obj [.ints Go.IntKind.u8 16]), (11, .obj [.ints Go.IntKind.u64 5]), (17, .obj [.ints Go.IntKind.u8 16])] }
def f24_8_ex1 : Shp := { n := 123, lo := 2, slots := [(84, .one (.bool)), (2, .one (.fix (Go.Eng.At.ptr 2 0 Go.Eng.Off.z 32))), (4, .one (.fix (Go.Eng.At.ptr 4 0 Go.Eng.Off.z 16))), (11, .one (.fix (Go.Eng.At.ptr 11 0 Go.Eng.Off.z 5))), (17, .one (.fix (Go.Eng.At.ptr 17 0 Go.Eng.Off.z 16))), (18, .one (.int Go.IntKind.u64)), (83, .one (.int Go.IntKind.i64))], items := [(2, .obj [.ints Go.IntKind.u8 32]), (4, .obj [.ints Go.IntKind.u8 16]), (11, .obj [.ints Go.IntKind.u64 5]), (17, .obj [.ints Go.IntKind.u8 16])] }
def f24_8_st {R : Type} (N : Nat) (self : Int → Int → List Int → List Int → List Int → List Int → Option R) (k1 : Bool → Int → Int → List Int → List Int → List Int → List Int → Option R) (x1 : Int) (x2 : Int) (x3 : List Int) (x4 : List Int) (x5 : List Int) (x6 : List Int) : Option R :=
  bif Decidable.decide (x2 < 16) then
  f24_10_lp N
    (fun w0_1 w0_2 w0_3 w0_4 w0_5 w0_6 w0_7 w0_8 w0_9 w0_10 =>
      let v1 : Int := Go.IntKind.i64.wrap (16 + w0_3);
      bif Decidable.decide (0 ≤ v1) && Decidable.decide (v1 < 32) then
        bif Decidable.decide (0 ≤ w0_3) && Decidable.decide (w0_3 < 16) then
          let v2 : Int := Go.IntKind.u64.wrap (w0_7.getD (Go.Eng.mulE v1.toNat 1) 0);
          let v3 : Int := Go.IntKind.u64.wrap (w0_4 + v2);
          let v4 : Int := Go.IntKind.u64.wrap (w0_2 + v3);
          let v5 : Int := Go.Eng.shrI Go.IntKind.u64 v4 8;
          let v6 : Int := Go.IntKind.i64.wrap (w0_5 + 1);
          let v7 : Int := Go.IntKind.u8.wrap v4;
          let v8 : List Int := w0_10.set (Go.Eng.mulE w0_3.toNat 1) v7;
          self v5 v6 w0_7 w0_8 w0_9 v8
        else Option.none
      else Option.none)
    N x1 x2 0 x2 0 x3 x4 x5 x6
else k1 (Decidable.decide (x2 < 16)) x1 x2 x3 x4 x5 x6
def f24_8_lp {R : Type} (N : Nat) (k1 : Bool → Int → Int → List Int → List Int → List Int → List Int → Option R) : Nat → Int → Int → List Int → List Int → List Int → List Int → Option R
  | 0, _, _, _, _, _, _ => none
  | n + 1, x1, x2, x3, x4, x5, x6 => f24_8_st N (f24_8_lp N k1 n) k1 x1 x2 x3 x4 x5 x6
def f24_8_F (N : Nat) : (R : Type) → List Leaf → (X → AS → Option R) → Option R := fun _ ls K => match ls with
  | [.i x1, .i x2, .l x3, .l x4, .l x5, .l x6] => f24_8_lp N (fun y1 y2 y3 y4 y5 y6 y7 => K (Go.Eng.X.normal) (fill f24_8_ex1 [.b y1, .i y2, .i y3, .l y4, .l y5, .l y6, .l y7])) N x1 x2 x3 x4 x5 x6
  | _ => none
def f24_raw {R : Type} (N : Nat) (key : List Int) (b : List Int) (k : List DV → Option R) : Option R :=
 let v0 : List Int := (Go.Eng.zerosOf (4 * 1)).set 0 3;
let v1 : List Int := v0.set 1 7;
let v2 : List Int := v1.set 2 11;
let v3 : List Int := v2.set 3 15;
let v4 : List Int := Go.Eng.sub key (Go.Eng.plusO Go.Eng.Off.z 1 Option.none) (Go.Eng.mulE (Go.Eng.subN (Go.Eng.hiNat (Option.some 16) 32) Option.none) 1);
let v5 : Nat := Min.min (Go.Eng.rowLen 1 v4) (Go.Eng.subN (Go.Eng.hiNat Option.none 17) Option.none);
let v6 : List Int := Go.Eng.splice (List.replicate 17 0) (Go.Eng.plusO Go.Eng.Off.z 1 Option.none) (List.take (Go.Eng.mulE v5 1) v4);
f24_0_lp N
 (fun w7_1 w7_2 w7_3 w7_4 w7_5 w7_6 w7_7 w7_8 =>
 let v8 : List Int := (Go.Eng.zerosOf (3 * 1)).set 0 4;
 let v9 : List Int := v8.set 1 8;
 let v10 : List Int := v9.set 2 12;
 f24_2_lp N (fun w11_1 w11_2 w11_3 w11_4 w11_5 w11_6 w11_7 w11_8 => f24_4_lp N (fun w12_1 w12_2 w12_3 w12_4 w12_5 w12_6 w12_7 => f24_8_lp N (fun w13_1 w13_2 w13_3 w13_4 w13_5 w13_6 w13_7 => k [Go.Eng.DV.v (Go.Eng.SV.one (Go.Eng.At.ints Go.IntKind.u8 16 w13_7))]) N 0 0 w12_4 w12_5 (Go.Proofs.Ytiaddnmloonhgaa.wholeL w12_7) (List.replicate 16 0)) N 0 w11_4 w11_5 w11_6 (Go.Proofs.Ytiaddnmloonhgaa.limbsL w11_7) (List.replicate 5 0)) N (Go.Eng.nI (Go.Eng.rowLen 1 v10)) 0 w7_4 w7_5 w7_6 w7_7 v10)
 N (Go.Eng.nI (Go.Eng.rowLen 1 v3)) 0 b key (List.replicate 16 0) v6 v3


noncomputable def E24 (N : Nat) : Env := { Θ := Th, Γ := G24, K := K24, ν := N24, fuel := 0, lp := [(0, mkL N24_0 f24_0_sh (f24_0_F N)), (2, mkL N24_2 f24_2_sh (f24_2_F N)), (4, mkL N24_4 f24_4_sh (f24_4_F N)), (6, mkL N24_6 f24_6_sh (f24_6_F N)), (8, mkL N24_8 f24_8_sh (f24_8_F N)), (10, mkL N24_10 f24_10_sh (f24_10_F N))] }

theorem f24_0_st_eq {R : Type} (N : Nat) (K : X → AS → Option R) (n : Nat) (x1 : Int) (x2 : Int) (x3 : List Int) (x4 : List Int) (x5 : List Int) (x6 : List Int) (x7 : List Int) : roundsOf (E24 N) N24_0 0 B24_0 K (n + 1) (fill f24_0_sh [.i x1, .i x2, .l x3, .l x4, .l x5, .l x6, .l x7]) = f24_0_st N (fun x1 x2 x3 x4 x5 x6 x7 => roundsOf (E24 N) N24_0 0 B24_0 K n (fill f24_0_sh [.i x1, .i x2, .l x3, .l x4, .l x5, .l x6, .l x7])) (fun y1 y2 y3 y4 y5 y6 y7 y8 => K (Go.Eng.X.normal) (fill f24_0_ex1 [.b y1, .i y2, .i y3, .l y4, .l y5, .l y6, .l y7, .l y8])) x1 x2 x3 x4 x5 x6 x7 := by kernel_rfl
theorem f24_0_lp_eq {R : Type} (N : Nat) (K : X → AS → Option R) : ∀ (n : Nat) (x1 : Int) (x2 : Int) (x3 : List Int) (x4 : List Int) (x5 : List Int) (x6 : List Int) (x7 : List Int), roundsOf (E24 N) N24_0 0 B24_0 K n (fill f24_0_sh [.i x1, .i x2, .l x3, .l x4, .l x5, .l x6, .l x7]) = f24_0_lp N (fun y1 y2 y3 y4 y5 y6 y7 y8 => K (Go.Eng.X.normal) (fill f24_0_ex1 [.b y1, .i y2, .i y3, .l y4, .l y5, .l y6, .l y7, .l y8])) n x1 x2 x3 x4 x5 x6 x7
  | 0, _, _, _, _, _, _, _ => rfl
  | n + 1, x1, x2, x3, x4, x5, x6, x7 => by
    rw [f24_0_st_eq, f24_0_lp, show (fun x1 x2 x3 x4 x5 x6 x7 => roundsOf (E24 N) N24_0 0 B24_0 K n (fill f24_0_sh [.i x1, .i x2, .l x3, .l x4, .l x5, .l x6, .l x7])) = f24_0_lp N (fun y1 y2 y3 y4 y5 y6 y7 y8 => K (Go.Eng.X.normal) (fill f24_0_ex1 [.b y1, .i y2, .i y3, .l y4, .l y5, .l y6, .l y7, .l y8])) n from by funext x1 x2 x3 x4 x5 x6 x7; exact f24_0_lp_eq N K n x1 x2 x3 x4 x5 x6 x7]
theorem f24_0_ok (N : Nat) (hlp : LoopsOk Try.prog (E24 N).lp B24_0) (hΓ : CtxOk Try.prog (E24 N).Γ) : LoopOk Try.prog (mkL N24_0 f24_0_sh (f24_0_F N)) 0 B24_0 := by
  refine loopOk_of (E := E24 N) thOk hΓ mixed hlp ?_
  intro R ls K r h
  unfold f24_0_F at h
  split at h
  · exact ⟨N, by rw [f24_0_lp_eq]; exact h⟩
  · cases h
theorem f24_2_st_eq {R : Type} (N : Nat) (K : X → AS → Option R) (n : Nat) (x1 : Int) (x2 : Int) (x3 : List Int) (x4 : List Int) (x5 : List Int) (x6 : List Int) (x7 : List Int) : roundsOf (E24 N) N24_2 2 B24_2 K (n + 1) (fill f24_2_sh [.i x1, .i x2, .l x3, .l x4, .l x5, .l x6, .l x7]) = f24_2_st N (fun x1 x2 x3 x4 x5 x6 x7 => roundsOf (E24 N) N24_2 2 B24_2 K n (fill f24_2_sh [.i x1, .i x2, .l x3, .l x4, .l x5, .l x6, .l x7])) (fun y1 y2 y3 y4 y5 y6 y7 y8 => K (Go.Eng.X.normal) (fill f24_2_ex1 [.b y1, .i y2, .i y3, .l y4, .l y5, .l y6, .l y7, .l y8])) x1 x2 x3 x4 x5 x6 x7 := by kernel_rfl
theorem f24_2_lp_eq {R : Type} (N : Nat) (K : X → AS → Option R) : ∀ (n : Nat) (x1 : Int) (x2 : Int) (x3 : List Int) (x4 : List Int) (x5 : List Int) (x6 : List Int) (x7 : List Int), roundsOf (E24 N) N24_2 2 B24_2 K n (fill f24_2_sh [.i x1, .i x2, .l x3, .l x4, .l x5, .l x6, .l x7]) = f24_2_lp N (fun y1 y2 y3 y4 y5 y6 y7 y8 => K (Go.Eng.X.normal) (fill f24_2_ex1 [.b y1, .i y2, .i y3, .l y4, .l y5, .l y6, .l y7, .l y8])) n x1 x2 x3 x4 x5 x6 x7
  | 0, _, _, _, _, _, _, _ => rfl
  | n + 1, x1, x2, x3, x4, x5, x6, x7 => by
    rw [f24_2_st_eq, f24_2_lp, show (fun x1 x2 x3 x4 x5 x6 x7 => roundsOf (E24 N) N24_2 2 B24_2 K n (fill f24_2_sh [.i x1, .i x2, .l x3, .l x4, .l x5, .l x6, .l x7])) = f24_2_lp N (fun y1 y2 y3 y4 y5 y6 y7 y8 => K (Go.Eng.X.normal) (fill f24_2_ex1 [.b y1, .i y2, .i y3, .l y4, .l y5, .l y6, .l y7, .l y8])) n from by funext x1 x2 x3 x4 x5 x6 x7; exact f24_2_lp_eq N K n x1 x2 x3 x4 x5 x6 x7]
theorem f24_2_ok (N : Nat) (hlp : LoopsOk Try.prog (E24 N).lp B24_2) (hΓ : CtxOk Try.prog (E24 N).Γ) : LoopOk Try.prog (mkL N24_2 f24_2_sh (f24_2_F N)) 2 B24_2 := by
  refine loopOk_of (E := E24 N) thOk hΓ mixed hlp ?_
  intro R ls K r h
  unfold f24_2_F at h
  split at h
  · exact ⟨N, by rw [f24_2_lp_eq]; exact h⟩
  · cases h
theorem f24_6_st_eq {R : Type} (N : Nat) (K : X → AS → Option R) (n : Nat) (x1 : Int) (x2 : List Int) (x3 : Int) (x4 : List Int) (x5 : List Int) (x6 : List Int) (x7 : List Int) (x8 : List Int) : roundsOf (E24 N) N24_6 6 B24_6 K (n + 1) (fill f24_6_sh [.i x1, .l x2, .i x3, .l x4, .l x5, .l x6, .l x7, .l x8]) = f24_6_st N (fun x1 x2 x3 x4 x5 x6 x7 x8 => roundsOf (E24 N) N24_6 6 B24_6 K n (fill f24_6_sh [.i x1, .l x2, .i x3, .l x4, .l x5, .l x6, .l x7, .l x8])) (fun y1 y2 y3 y4 y5 y6 y7 y8 y9 => K (Go.Eng.X.normal) (fill f24_6_ex1 [.b y1, .i y2, .l y3, .i y4, .l y5, .l y6, .l y7, .l y8, .l y9])) x1 x2 x3 x4 x5 x6 x7 x8 := by kernel_rfl
theorem f24_6_lp_eq {R : Type} (N : Nat) (K : X → AS → Option R) : ∀ (n : Nat) (x1 : Int) (x2 : List Int) (x3 : Int) (x4 : List Int) (x5 : List Int) (x6 : List Int) (x7 : List Int) (x8 : List Int), roundsOf (E24 N) N24_6 6 B24_6 K n (fill f24_6_sh [.i x1, .l x2, .i x3, .l x4, .l x5, .l x6, .l x7, .l x8]) = f24_6_lp N (fun y1 y2 y3 y4 y5 y6 y7 y8 y9 => K (Go.Eng.X.normal) (fill f24_6_ex1 [.b y1, .i y2, .l y3, .i y4, .l y5, .l y6, .l y7, .l y8, .l y9])) n x1 x2 x3 x4 x5 x6 x7 x8
  | 0, _, _, _, _, _, _, _, _ => rfl
  | n + 1, x1, x2, x3, x4, x5, x6, x7, x8 => by
    rw [f24_6_st_eq, f24_6_lp, show (fun x1 x2 x3 x4 x5 x6 x7 x8 => roundsOf (E24 N) N24_6 6 B24_6 K n (fill f24_6_sh [.i x1, .l x2, .i x3, .l x4, .l x5, .l x6, .l x7, .l x8])) = f24_6_lp N (fun y1 y2 y3 y4 y5 y6 y7 y8 y9 => K (Go.Eng.X.normal) (fill f24_6_ex1 [.b y1, .i y2, .l y3, .i y4, .l y5, .l y6, .l y7, .l y8, .l y9])) n from by funext x1 x2 x3 x4 x5 x6 x7 x8; exact f24_6_lp_eq N K n x1 x2 x3 x4 x5 x6 x7 x8]
theorem f24_6_ok (N : Nat) (hlp : LoopsOk Try.prog (E24 N).lp B24_6) (hΓ : CtxOk Try.prog (E24 N).Γ) : LoopOk Try.prog (mkL N24_6 f24_6_sh (f24_6_F N)) 6 B24_6 := by
  refine loopOk_of (E := E24 N) thOk hΓ mixed hlp ?_
  intro R ls K r h
  unfold f24_6_F at h
  split at h
  · exact ⟨N, by rw [f24_6_lp_eq]; exact h⟩
  · cases h
theorem f24_4_st_eq {R : Type} (N : Nat) (K : X → AS → Option R) (n : Nat) (x1 : Int) (x2 : List Int) (x3 : List Int) (x4 : List Int) (x5 : List Int) (x6 : List Int) : roundsOf (E24 N) N24_4 4 B24_4 K (n + 1) (fill f24_4_sh [.i x1, .l x2, .l x3, .l x4, .l x5, .l x6]) = f24_4_st N (fun x1 x2 x3 x4 x5 x6 => roundsOf (E24 N) N24_4 4 B24_4 K n (fill f24_4_sh [.i x1, .l x2, .l x3, .l x4, .l x5, .l x6])) (fun y1 y2 y3 y4 y5 y6 y7 => K (Go.Eng.X.normal) (fill f24_4_ex1 [.b y1, .i y2, .l y3, .l y4, .l y5, .l y6, .l y7])) x1 x2 x3 x4 x5 x6 := by kernel_rfl
theorem f24_4_lp_eq {R : Type} (N : Nat) (K : X → AS → Option R) : ∀ (n : Nat) (x1 : Int) (x2 : List Int) (x3 : List Int) (x4 : List Int) (x5 : List Int) (x6 : List Int), roundsOf (E24 N) N24_4 4 B24_4 K n (fill f24_4_sh [.i x1, .l x2, .l x3, .l x4, .l x5, .l x6]) = f24_4_lp N (fun y1 y2 y3 y4 y5 y6 y7 => K (Go.Eng.X.normal) (fill f24_4_ex1 [.b y1, .i y2, .l y3, .l y4, .l y5, .l y6, .l y7])) n x1 x2 x3 x4 x5 x6
  | 0, _, _, _, _, _, _ => rfl
  | n + 1, x1, x2, x3, x4, x5, x6 => by
    rw [f24_4_st_eq, f24_4_lp, show (fun x1 x2 x3 x4 x5 x6 => roundsOf (E24 N) N24_4 4 B24_4 K n (fill f24_4_sh [.i x1, .l x2, .l x3, .l x4, .l x5, .l x6])) = f24_4_lp N (fun y1 y2 y3 y4 y5 y6 y7 => K (Go.Eng.X.normal) (fill f24_4_ex1 [.b y1, .i y2, .l y3, .l y4, .l y5, .l y6, .l y7])) n from by funext x1 x2 x3 x4 x5 x6; exact f24_4_lp_eq N K n x1 x2 x3 x4 x5 x6]
theorem f24_4_ok (N : Nat) (hlp : LoopsOk Try.prog (E24 N).lp B24_4) (hΓ : CtxOk Try.prog (E24 N).Γ) : LoopOk Try.prog (mkL N24_4 f24_4_sh (f24_4_F N)) 4 B24_4 := by
  refine loopOk_of (E := E24 N) thOk hΓ mixed hlp ?_
  intro R ls K r h
  unfold f24_4_F at h
  split at h
  · exact ⟨N, by rw [f24_4_lp_eq]; exact h⟩
  · cases h
theorem f24_10_st_eq {R : Type} (N : Nat) (K : X → AS → Option R) (n : Nat) (x1 : Int) (x2 : Int) (x3 : Int) (x4 : Int) (x5 : Int) (x6 : List Int) (x7 : List Int) (x8 : List Int) (x9 : List Int) : roundsOf (E24 N) N24_10 10 B24_10 K (n + 1) (fill f24_10_sh [.i x1, .i x2, .i x3, .i x4, .i x5, .l x6, .l x7, .l x8, .l x9]) = f24_10_st N (fun x1 x2 x3 x4 x5 x6 x7 x8 x9 => roundsOf (E24 N) N24_10 10 B24_10 K n (fill f24_10_sh [.i x1, .i x2, .i x3, .i x4, .i x5, .l x6, .l x7, .l x8, .l x9])) (fun y1 y2 y3 y4 y5 y6 y7 y8 y9 y10 => K (Go.Eng.X.normal) (fill f24_10_ex1 [.b y1, .i y2, .i y3, .i y4, .i y5, .i y6, .l y7, .l y8, .l y9, .l y10])) x1 x2 x3 x4 x5 x6 x7 x8 x9 := by kernel_rfl
theorem f24_10_lp_eq {R : Type} (N : Nat) (K : X → AS → Option R) : ∀ (n : Nat) (x1 : Int) (x2 : Int) (x3 : Int) (x4 : Int) (x5 : Int) (x6 : List Int) (x7 : List Int) (x8 : List Int) (x9 : List Int), roundsOf (E24 N) N24_10 10 B24_10 K n (fill f24_10_sh [.i x1, .i x2, .i x3, .i x4, .i x5, .l x6, .l x7, .l x8, .l x9]) = f24_10_lp N (fun y1 y2 y3 y4 y5 y6 y7 y8 y9 y10 => K (Go.Eng.X.normal) (fill f24_10_ex1 [.b y1, .i y2, .i y3, .i y4, .i y5, .i y6, .l y7, .l y8, .l y9, .l y10])) n x1 x2 x3 x4 x5 x6 x7 x8 x9
  | 0, _, _, _, _, _, _, _, _, _ => rfl
  | n + 1, x1, x2, x3, x4, x5, x6, x7, x8, x9 => by
    rw [f24_10_st_eq, f24_10_lp, show (fun x1 x2 x3 x4 x5 x6 x7 x8 x9 => roundsOf (E24 N) N24_10 10 B24_10 K n (fill f24_10_sh [.i x1, .i x2, .i x3, .i x4, .i x5, .l x6, .l x7, .l x8, .l x9])) = f24_10_lp N (fun y1 y2 y3 y4 y5 y6 y7 y8 y9 y10 => K (Go.Eng.X.normal) (fill f24_10_ex1 [.b y1, .i y2, .i y3, .i y4, .i y5, .i y6, .l y7, .l y8, .l y9, .l y10])) n from by funext x1 x2 x3 x4 x5 x6 x7 x8 x9; exact f24_10_lp_eq N K n x1 x2 x3 x4 x5 x6 x7 x8 x9]
theorem f24_10_ok (N : Nat) (hlp : LoopsOk Try.prog (E24 N).lp B24_10) (hΓ : CtxOk Try.prog (E24 N).Γ) : LoopOk Try.prog (mkL N24_10 f24_10_sh (f24_10_F N)) 10 B24_10 := by
  refine loopOk_of (E := E24 N) thOk hΓ mixed hlp ?_
  intro R ls K r h
  unfold f24_10_F at h
  split at h
  · exact ⟨N, by rw [f24_10_lp_eq]; exact h⟩
  · cases h
theorem f24_8_st_eq {R : Type} (N : Nat) (K : X → AS → Option R) (n : Nat) (x1 : Int) (x2 : Int) (x3 : List Int) (x4 : List Int) (x5 : List Int) (x6 : List Int) : roundsOf (E24 N) N24_8 8 B24_8 K (n + 1) (fill f24_8_sh [.i x1, .i x2, .l x3, .l x4, .l x5, .l x6]) = f24_8_st N (fun x1 x2 x3 x4 x5 x6 => roundsOf (E24 N) N24_8 8 B24_8 K n (fill f24_8_sh [.i x1, .i x2, .l x3, .l x4, .l x5, .l x6])) (fun y1 y2 y3 y4 y5 y6 y7 => K (Go.Eng.X.normal) (fill f24_8_ex1 [.b y1, .i y2, .i y3, .l y4, .l y5, .l y6, .l y7])) x1 x2 x3 x4 x5 x6 := by kernel_rfl
theorem f24_8_lp_eq {R : Type} (N : Nat) (K : X → AS → Option R) : ∀ (n : Nat) (x1 : Int) (x2 : Int) (x3 : List Int) (x4 : List Int) (x5 : List Int) (x6 : List Int), roundsOf (E24 N) N24_8 8 B24_8 K n (fill f24_8_sh [.i x1, .i x2, .l x3, .l x4, .l x5, .l x6]) = f24_8_lp N (fun y1 y2 y3 y4 y5 y6 y7 => K (Go.Eng.X.normal) (fill f24_8_ex1 [.b y1, .i y2, .i y3, .l y4, .l y5, .l y6, .l y7])) n x1 x2 x3 x4 x5 x6
  | 0, _, _, _, _, _, _ => rfl
  | n + 1, x1, x2, x3, x4, x5, x6 => by
    rw [f24_8_st_eq, f24_8_lp, show (fun x1 x2 x3 x4 x5 x6 => roundsOf (E24 N) N24_8 8 B24_8 K n (fill f24_8_sh [.i x1, .i x2, .l x3, .l x4, .l x5, .l x6])) = f24_8_lp N (fun y1 y2 y3 y4 y5 y6 y7 => K (Go.Eng.X.normal) (fill f24_8_ex1 [.b y1, .i y2, .i y3, .l y4, .l y5, .l y6, .l y7])) n from by funext x1 x2 x3 x4 x5 x6; exact f24_8_lp_eq N K n x1 x2 x3 x4 x5 x6]
theorem f24_8_ok (N : Nat) (hlp : LoopsOk Try.prog (E24 N).lp B24_8) (hΓ : CtxOk Try.prog (E24 N).Γ) : LoopOk Try.prog (mkL N24_8 f24_8_sh (f24_8_F N)) 8 B24_8 := by
  refine loopOk_of (E := E24 N) thOk hΓ mixed hlp ?_
  intro R ls K r h
  unfold f24_8_F at h
  split at h
  · exact ⟨N, by rw [f24_8_lp_eq]; exact h⟩
  · cases h

theorem lok24_10 (N : Nat) (hΓ : CtxOk Try.prog G24) : LoopOk Try.prog (mkL N24_10 f24_10_sh (f24_10_F N)) 10 B24_10 := f24_10_ok N (loopsOk_of (l := []) (by kernel_rfl) trivial) hΓ
theorem lok24_8 (N : Nat) (hΓ : CtxOk Try.prog G24) : LoopOk Try.prog (mkL N24_8 f24_8_sh (f24_8_F N)) 8 B24_8 := f24_8_ok N (loopsOk_of (l := [(10, B24_10)]) (by kernel_rfl) (allOk_cons (L := mkL N24_10 f24_10_sh (f24_10_F N)) rfl (lok24_10 N hΓ) trivial)) hΓ
theorem lok24_6 (N : Nat) (hΓ : CtxOk Try.prog G24) : LoopOk Try.prog (mkL N24_6 f24_6_sh (f24_6_F N)) 6 B24_6 := f24_6_ok N (loopsOk_of (l := []) (by kernel_rfl) trivial) hΓ
theorem lok24_4 (N : Nat) (hΓ : CtxOk Try.prog G24) : LoopOk Try.prog (mkL N24_4 f24_4_sh (f24_4_F N)) 4 B24_4 := f24_4_ok N (loopsOk_of (l := [(6, B24_6)]) (by kernel_rfl) (allOk_cons (L := mkL N24_6 f24_6_sh (f24_6_F N)) rfl (lok24_6 N hΓ) trivial)) hΓ
theorem lok24_2 (N : Nat) (hΓ : CtxOk Try.prog G24) : LoopOk Try.prog (mkL N24_2 f24_2_sh (f24_2_F N)) 2 B24_2 := f24_2_ok N (loopsOk_of (l := []) (by kernel_rfl) trivial) hΓ
theorem lok24_0 (N : Nat) (hΓ : CtxOk Try.prog G24) : LoopOk Try.prog (mkL N24_0 f24_0_sh (f24_0_F N)) 0 B24_0 := f24_0_ok N (loopsOk_of (l := []) (by kernel_rfl) trivial) hΓ
theorem f24_contract (N : Nat) (hΓ : CtxOk Try.prog G24) : Contract Try.prog 24 { sig := S24, impl := fun _ ds k => call (E24 N) S24 123 B24 R24 ds k } :=
  call_contract (E := E24 N) thOk hΓ mixed ok24.look ok24.body ok24.n ok24.rv rfl (by decide) (loopsOk_of (l := [(0, B24_0), (2, B24_2), (4, B24_4), (6, B24_6), (8, B24_8), (10, B24_10)]) (by kernel_rfl) (allOk_cons (L := mkL N24_0 f24_0_sh (f24_0_F N)) rfl (lok24_0 N hΓ) (allOk_cons (L := mkL N24_2 f24_2_sh (f24_2_F N)) rfl (lok24_2 N hΓ) (allOk_cons (L := mkL N24_4 f24_4_sh (f24_4_F N)) rfl (lok24_4 N hΓ) (allOk_cons (L := mkL N24_6 f24_6_sh (f24_6_F N)) rfl (lok24_6 N hΓ) (allOk_cons (L := mkL N24_8 f24_8_sh (f24_8_F N)) rfl (lok24_8 N hΓ) (allOk_cons (L := mkL N24_10 f24_10_sh (f24_10_F N)) rfl (lok24_10 N hΓ) trivial)))))))
theorem f24_raw_eq {R : Type} (N : Nat) (key : List Int) (b : List Int) (k : List DV → Option R) : call (E24 N) S24 123 B24 R24 [.v (.one (.ints .u8 32 key)), .lst .u8 1 b] k = f24_raw N key b k := by kernel_rfl
end Go.Proofs.Ytiaddnmloonhgaa

/- What rime/seal.Block comes to. MADE BY PROGRAM (wip/tools/mkfn.py, EngGen.lean). -/
namespace Go.Proofs.Ytiaddnmloonhgaa
open Go Go.Eng
set_option maxRecDepth 100000
set_option linter.unusedVariables false

def f18_0_sh : Shp := { n := 100, lo := 3, slots := [(1, .one (.int Go.IntKind.u32)), (3, .one (.fix (Go.Eng.At.ptr 3 0 Go.Eng.Off.z 32))), (5, .one (.fix (Go.Eng.At.ptr 5 0 Go.Eng.Off.z 12))), (6, .one (.fix (Go.Eng.At.ptr 6 0 Go.Eng.Off.z 64))), (7, .one (.fix (Go.Eng.At.ptr 7 0 Go.Eng.Off.z 16))), (16, .one (.int Go.IntKind.i64))], items := [(3, .obj [.ints Go.IntKind.u8 32]), (5, .obj [.ints Go.IntKind.u8 12]), (6, .obj [.ints Go.IntKind.u8 64]), (7, .obj [.ints Go.IntKind.u32 16])] }
def f18_0_ex1 : Shp := { n := 100, lo := 3, slots := [(17, .one (.bool)), (1, .one (.int Go.IntKind.u32)), (3, .one (.fix (Go.Eng.At.ptr 3 0 Go.Eng.Off.z 32))), (5, .one (.fix (Go.Eng.At.ptr 5 0 Go.Eng.Off.z 12))), (6, .one (.fix (Go.Eng.At.ptr 6 0 Go.Eng.Off.z 64))), (7, .one (.fix (Go.Eng.At.ptr 7 0 Go.Eng.Off.z 16))), (16, .one (.int Go.IntKind.i64))], items := [(3, .obj [.ints Go.IntKind.u8 32]), (5, .obj [.ints Go.IntKind.u8 12]), (6, .obj [.ints Go.IntKind.u8 64]), (7, .obj [.ints Go.IntKind.u32 16])] }
def f18_0_st {R : Type} (N : Nat) (self : Int → Int → List Int → List Int → List Int → List Int → Option R) (k1 : Bool → Int → Int → List Int → List Int → List Int → List Int → Option R) (x1 : Int) (x2 : Int) (x3 : List Int) (x4 : List Int) (x5 : List Int) (x6 : List Int) : Option R :=
  bif Decidable.decide (x2 < 8) then
  let v0 : Int := Go.IntKind.i64.wrap (4 * x2);
  let v1 : Int := Go.IntKind.i64.wrap (v0 + 4);
  bif Go.Eng.hiOk (Option.some v1) 32 then
    bif Go.Eng.loOk (Option.some v0) (Go.Eng.hiInt (Option.some v1) 32) then
      bif (Go.Eng.sub x3 (Go.Eng.plusO Go.Eng.Off.z 1 (Option.some v0)) (Go.Eng.mulE (Go.Eng.subN (Go.Eng.hiNat (Option.some v1) 32) (Option.some v0)) 1)).length.ble 1048576 then
        let v2 : Int := Go.IntKind.i64.wrap (4 + x2);
        bif Decidable.decide (0 ≤ v2) && Decidable.decide (v2 < ↑16) then
          let v3 : Int := Go.IntKind.i64.wrap (x2 + 1);
          let v4 : Int := Go.IntKind.u32.wrap (Go.Proofs.Ytiaddnmloonhgaa.lowL (Go.Eng.sub x3 (Go.Eng.plusO Go.Eng.Off.z 1 (Option.some v0)) (Go.Eng.mulE (Go.Eng.subN (Go.Eng.hiNat (Option.some v1) 32) (Option.some v0)) 1)));
          let v5 : List Int := x6.set (Go.Eng.mulE v2.toNat 1) v4;
          self x1 v3 x3 x4 x5 v5
        else Option.none
      else Option.none
    else Option.none
  else Option.none
else k1 (Decidable.decide (x2 < 8)) x1 x2 x3 x4 x5 x6
def f18_0_lp {R : Type} (N : Nat) (k1 : Bool → Int → Int → List Int → List Int → List Int → List Int → Option R) : Nat → Int → Int → List Int → List Int → List Int → List Int → Option R
  | 0, _, _, _, _, _, _ => none
  | n + 1, x1, x2, x3, x4, x5, x6 => f18_0_st N (f18_0_lp N k1 n) k1 x1 x2 x3 x4 x5 x6
def f18_0_F (N : Nat) : (R : Type) → List Leaf → (X → AS → Option R) → Option R := fun _ ls K => match ls with
  | [.i x1, .i x2, .l x3, .l x4, .l x5, .l x6] => f18_0_lp N (fun y1 y2 y3 y4 y5 y6 y7 => K (Go.Eng.X.normal) (fill f18_0_ex1 [.b y1, .i y2, .i y3, .l y4, .l y5, .l y6, .l y7])) N x1 x2 x3 x4 x5 x6
  | _ => none
def f18_2_sh : Shp := { n := 100, lo := 3, slots := [(5, .one (.fix (Go.Eng.At.ptr 5 0 Go.Eng.Off.z 12))), (6, .one (.fix (Go.Eng.At.ptr 6 0 Go.Eng.Off.z 64))), (7, .one (.fix (Go.Eng.At.ptr 7 0 Go.Eng.Off.z 16))), (33, .one (.int Go.IntKind.i64))], items := [(5, .obj [.ints Go.IntKind.u8 12]), (6, .obj [.ints Go.IntKind.u8 64]), (7, .obj [.ints Go.IntKind.u32 16])] }
def f18_2_ex1 : Shp := { n := 100, lo := 3, slots := [(34, .one (.bool)), (5, .one (.fix (Go.Eng.At.ptr 5 0 Go.Eng.Off.z 12))), (6, .one (.fix (Go.Eng.At.ptr 6 0 Go.Eng.Off.z 64))), (7, .one (.fix (Go.Eng.At.ptr 7 0 Go.Eng.Off.z 16))), (33, .one (.int Go.IntKind.i64))], items := [(5, .obj [.ints Go.IntKind.u8 12]), (6, .obj [.ints Go.IntKind.u8 64]), (7, .obj [.ints Go.IntKind.u32 16])] }
def f18_2_st {R : Type} (N : Nat) (self : Int → List Int → List Int → List Int → Option R) (k1 : Bool → Int → List Int → List Int → List Int → Option R) (x1 : Int) (x2 : List Int) (x3 : List Int) (x4 : List Int) : Option R :=
  bif Decidable.decide (x1 < 3) then
  let v0 : Int := Go.IntKind.i64.wrap (4 * x1);
  let v1 : Int := Go.IntKind.i64.wrap (v0 + 4);
  bif Go.Eng.hiOk (Option.some v1) 12 then
    bif Go.Eng.loOk (Option.some v0) (Go.Eng.hiInt (Option.some v1) 12) then
      bif (Go.Eng.sub x2 (Go.Eng.plusO Go.Eng.Off.z 1 (Option.some v0)) (Go.Eng.mulE (Go.Eng.subN (Go.Eng.hiNat (Option.some v1) 12) (Option.some v0)) 1)).length.ble 1048576 then
        let v2 : Int := Go.IntKind.i64.wrap (13 + x1);
        bif Decidable.decide (0 ≤ v2) && Decidable.decide (v2 < ↑16) then
          let v3 : Int := Go.IntKind.i64.wrap (x1 + 1);
          let v4 : Int := Go.IntKind.u32.wrap (Go.Proofs.Ytiaddnmloonhgaa.lowL (Go.Eng.sub x2 (Go.Eng.plusO Go.Eng.Off.z 1 (Option.some v0)) (Go.Eng.mulE (Go.Eng.subN (Go.Eng.hiNat (Option.some v1) 12) (Option.some v0)) 1)));
          let v5 : List Int := x4.set (Go.Eng.mulE v2.toNat 1) v4;
          self v3 x2 x3 v5
        else Option.none
      else Option.none
    else Option.none
  else Option.none
else k1 (Decidable.decide (x1 < 3)) x1 x2 x3 x4
def f18_2_lp {R : Type} (N : Nat) (k1 : Bool → Int → List Int → List Int → List Int → Option R) : Nat → Int → List Int → List Int → List Int → Option R
  | 0, _, _, _, _ => none
  | n + 1, x1, x2, x3, x4 => f18_2_st N (f18_2_lp N k1 n) k1 x1 x2 x3 x4
def f18_2_F (N : Nat) : (R : Type) → List Leaf → (X → AS → Option R) → Option R := fun _ ls K => match ls with
  | [.i x1, .l x2, .l x3, .l x4] => f18_2_lp N (fun y1 y2 y3 y4 y5 => K (Go.Eng.X.normal) (fill f18_2_ex1 [.b y1, .i y2, .l y3, .l y4, .l y5])) N x1 x2 x3 x4
  | _ => none
def f18_6_sh : Shp := { n := 100, lo := 3, slots := [(6, .one (.fix (Go.Eng.At.ptr 6 0 Go.Eng.Off.z 64))), (7, .one (.fix (Go.Eng.At.ptr 7 0 Go.Eng.Off.z 16))), (10, .one (.fix (Go.Eng.At.ptr 10 0 Go.Eng.Off.z 16))), (49, .one (.int Go.IntKind.i64)), (51, .one (.int Go.IntKind.i64))], items := [(6, .obj [.ints Go.IntKind.u8 64]), (7, .obj [.ints Go.IntKind.u32 16]), (10, .obj [.ints Go.IntKind.u32 16])] }
def f18_6_ex1 : Shp := { n := 100, lo := 3, slots := [(52, .one (.bool)), (6, .one (.fix (Go.Eng.At.ptr 6 0 Go.Eng.Off.z 64))), (7, .one (.fix (Go.Eng.At.ptr 7 0 Go.Eng.Off.z 16))), (10, .one (.fix (Go.Eng.At.ptr 10 0 Go.Eng.Off.z 16))), (49, .one (.int Go.IntKind.i64)), (51, .one (.int Go.IntKind.i64))], items := [(6, .obj [.ints Go.IntKind.u8 64]), (7, .obj [.ints Go.IntKind.u32 16]), (10, .obj [.ints Go.IntKind.u32 16])] }
def f18_6_st {R : Type} (N : Nat) (self : Int → Int → List Int → List Int → List Int → Option R) (k1 : Bool → Int → Int → List Int → List Int → List Int → Option R) (x1 : Int) (x2 : Int) (x3 : List Int) (x4 : List Int) (x5 : List Int) : Option R :=
  bif Decidable.decide (x2 < 4) then
  let v0 : Int := Go.IntKind.i64.wrap (4 + x2);
  let v1 : Int := Go.IntKind.i64.wrap (8 + x2);
  let v2 : Int := Go.IntKind.i64.wrap (12 + x2);
  bif Go.Proofs.Ytiaddnmloonhgaa.in16 x2 && (Go.Proofs.Ytiaddnmloonhgaa.in16 v0 && (Go.Proofs.Ytiaddnmloonhgaa.in16 v1 && Go.Proofs.Ytiaddnmloonhgaa.in16 v2)) then
    let v3 : Int := Go.IntKind.i64.wrap (x2 + 1);
    self x1 v3 x3 x4 (Go.Proofs.Ytiaddnmloonhgaa.quarterL x5 x2.toNat v0.toNat v1.toNat v2.toNat)
  else Option.none
else k1 (Decidable.decide (x2 < 4)) x1 x2 x3 x4 x5
def f18_6_lp {R : Type} (N : Nat) (k1 : Bool → Int → Int → List Int → List Int → List Int → Option R) : Nat → Int → Int → List Int → List Int → List Int → Option R
  | 0, _, _, _, _, _ => none
  | n + 1, x1, x2, x3, x4, x5 => f18_6_st N (f18_6_lp N k1 n) k1 x1 x2 x3 x4 x5
def f18_6_F (N : Nat) : (R : Type) → List Leaf → (X → AS → Option R) → Option R := fun _ ls K => match ls with
  | [.i x1, .i x2, .l x3, .l x4, .l x5] => f18_6_lp N (fun y1 y2 y3 y4 y5 y6 => K (Go.Eng.X.normal) (fill f18_6_ex1 [.b y1, .i y2, .i y3, .l y4, .l y5, .l y6])) N x1 x2 x3 x4 x5
  | _ => none
def f18_8_sh : Shp := { n := 100, lo := 3, slots := [(6, .one (.fix (Go.Eng.At.ptr 6 0 Go.Eng.Off.z 64))), (7, .one (.fix (Go.Eng.At.ptr 7 0 Go.Eng.Off.z 16))), (10, .one (.fix (Go.Eng.At.ptr 10 0 Go.Eng.Off.z 16))), (49, .one (.int Go.IntKind.i64)), (63, .one (.int Go.IntKind.i64))], items := [(6, .obj [.ints Go.IntKind.u8 64]), (7, .obj [.ints Go.IntKind.u32 16]), (10, .obj [.ints Go.IntKind.u32 16])] }
def f18_8_ex1 : Shp := { n := 100, lo := 3, slots := [(64, .one (.bool)), (6, .one (.fix (Go.Eng.At.ptr 6 0 Go.Eng.Off.z 64))), (7, .one (.fix (Go.Eng.At.ptr 7 0 Go.Eng.Off.z 16))), (10, .one (.fix (Go.Eng.At.ptr 10 0 Go.Eng.Off.z 16))), (49, .one (.int Go.IntKind.i64)), (63, .one (.int Go.IntKind.i64))], items := [(6, .obj [.ints Go.IntKind.u8 64]), (7, .obj [.ints Go.IntKind.u32 16]), (10, .obj [.ints Go.IntKind.u32 16])] }
def f18_8_st {R : Type} (N : Nat) (self : Int → Int → List Int → List Int → List Int → Option R) (k1 : Bool → Int → Int → List Int → List Int → List Int → Option R) (x1 : Int) (x2 : Int) (x3 : List Int) (x4 : List Int) (x5 : List Int) : Option R :=
  bif Decidable.decide (x2 < 4) then
  let v0 : Int := Go.IntKind.i64.wrap (x2 + 1);
  let v1 : Int := Go.IntKind.i64.wrap (4 + v0.tmod 4);
  let v2 : Int := Go.IntKind.i64.wrap (x2 + 2);
  let v3 : Int := Go.IntKind.i64.wrap (8 + v2.tmod 4);
  let v4 : Int := Go.IntKind.i64.wrap (x2 + 3);
  let v5 : Int := Go.IntKind.i64.wrap (12 + v4.tmod 4);
  bif Go.Proofs.Ytiaddnmloonhgaa.in16 x2 && (Go.Proofs.Ytiaddnmloonhgaa.in16 v1 && (Go.Proofs.Ytiaddnmloonhgaa.in16 v3 && Go.Proofs.Ytiaddnmloonhgaa.in16 v5)) then self x1 v0 x3 x4 (Go.Proofs.Ytiaddnmloonhgaa.quarterL x5 x2.toNat v1.toNat v3.toNat v5.toNat) else Option.none
else k1 (Decidable.decide (x2 < 4)) x1 x2 x3 x4 x5
def f18_8_lp {R : Type} (N : Nat) (k1 : Bool → Int → Int → List Int → List Int → List Int → Option R) : Nat → Int → Int → List Int → List Int → List Int → Option R
  | 0, _, _, _, _, _ => none
  | n + 1, x1, x2, x3, x4, x5 => f18_8_st N (f18_8_lp N k1 n) k1 x1 x2 x3 x4 x5
def f18_8_F (N : Nat) : (R : Type) → List Leaf → (X → AS → Option R) → Option R := fun _ ls K => match ls with
  | [.i x1, .i x2, .l x3, .l x4, .l x5] => f18_8_lp N (fun y1 y2 y3 y4 y5 y6 => K (Go.Eng.X.normal) (fill f18_8_ex1 [.b y1, .i y2, .i y3, .l y4, .l y5, .l y6])) N x1 x2 x3 x4 x5
  | _ => none
def f18_4_sh : Shp := { n := 100, lo := 3, slots := [(6, .one (.fix (Go.Eng.At.ptr 6 0 Go.Eng.Off.z 64))), (7, .one (.fix (Go.Eng.At.ptr 7 0 Go.Eng.Off.z 16))), (10, .one (.fix (Go.Eng.At.ptr 10 0 Go.Eng.Off.z 16))), (49, .one (.int Go.IntKind.i64))], items := [(6, .obj [.ints Go.IntKind.u8 64]), (7, .obj [.ints Go.IntKind.u32 16]), (10, .obj [.ints Go.IntKind.u32 16])] }
def f18_4_ex1 : Shp := { n := 100, lo := 3, slots := [(50, .one (.bool)), (6, .one (.fix (Go.Eng.At.ptr 6 0 Go.Eng.Off.z 64))), (7, .one (.fix (Go.Eng.At.ptr 7 0 Go.Eng.Off.z 16))), (10, .one (.fix (Go.Eng.At.ptr 10 0 Go.Eng.Off.z 16))), (49, .one (.int Go.IntKind.i64))], items := [(6, .obj [.ints Go.IntKind.u8 64]), (7, .obj [.ints Go.IntKind.u32 16]), (10, .obj [.ints Go.IntKind.u32 16])] }
def f18_4_st {R : Type} (N : Nat) (self : Int → List Int → List Int → List Int → Option R) (k1 : Bool → Int → List Int → List Int → List Int → Option R) (x1 : Int) (x2 : List Int) (x3 : List Int) (x4 : List Int) : Option R :=
  bif Decidable.decide (x1 < 10) then
  f18_6_lp N
    (fun w0_1 w0_2 w0_3 w0_4 w0_5 w0_6 =>
      f18_8_lp N
        (fun w1_1 w1_2 w1_3 w1_4 w1_5 w1_6 =>
          let v2 : Int := Go.IntKind.i64.wrap (w1_2 + 1);
          self v2 w1_4 w1_5 w1_6)
        N w0_2 0 w0_4 w0_5 w0_6)
    N x1 0 x2 x3 x4
else k1 (Decidable.decide (x1 < 10)) x1 x2 x3 x4
def f18_4_lp {R : Type} (N : Nat) (k1 : Bool → Int → List Int → List Int → List Int → Option R) : Nat → Int → List Int → List Int → List Int → Option R
  | 0, _, _, _, _ => none
  | n + 1, x1, x2, x3, x4 => f18_4_st N (f18_4_lp N k1 n) k1 x1 x2 x3 x4
def f18_4_F (N : Nat) : (R : Type) → List Leaf → (X → AS → Option R) → Option R := fun _ ls K => match ls with
  | [.i x1, .l x2, .l x3, .l x4] => f18_4_lp N (fun y1 y2 y3 y4 y5 => K (Go.Eng.X.normal) (fill f18_4_ex1 [.b y1, .i y2, .l y3, .l y4, .l y5])) N x1 x2 x3 x4
  | _ => none
def f18_10_sh : Shp := { n := 100, lo := 3, slots := [(6, .one (.fix (Go.Eng.At.ptr 6 0 Go.Eng.Off.z 64))), (7, .one (.fix (Go.Eng.At.ptr 7 0 Go.Eng.Off.z 16))), (10, .one (.fix (Go.Eng.At.ptr 10 0 Go.Eng.Off.z 16))), (13, .one (.fix (Go.Eng.At.ptr 13 0 Go.Eng.Off.z 64))), (82, .one (.int Go.IntKind.i64))], items := [(6, .obj [.ints Go.IntKind.u8 64]), (7, .obj [.ints Go.IntKind.u32 16]), (10, .obj [.ints Go.IntKind.u32 16]), (13, .obj [.ints Go.IntKind.u8 64])] }
def f18_10_ex1 : Shp := { n := 100, lo := 3, slots := [(83, .one (.bool)), (6, .one (.fix (Go.Eng.At.ptr 6 0 Go.Eng.Off.z 64))), (7, .one (.fix (Go.Eng.At.ptr 7 0 Go.Eng.Off.z 16))), (10, .one (.fix (Go.Eng.At.ptr 10 0 Go.Eng.Off.z 16))), (13, .one (.fix (Go.Eng.At.ptr 13 0 Go.Eng.Off.z 64))), (82, .one (.int Go.IntKind.i64))], items := [(6, .obj [.ints Go.IntKind.u8 64]), (7, .obj [.ints Go.IntKind.u32 16]), (10, .obj [.ints Go.IntKind.u32 16]), (13, .obj [.ints Go.IntKind.u8 64])] }
def f18_10_st {R : Type} (N : Nat) (self : Int → List Int → List Int → List Int → List Int → Option R) (k1 : Bool → Int → List Int → List Int → List Int → List Int → Option R) (x1 : Int) (x2 : List Int) (x3 : List Int) (x4 : List Int) (x5 : List Int) : Option R :=
  bif Decidable.decide (x1 < 16) then
  let v0 : Int := Go.IntKind.i64.wrap (4 * x1);
  bif Go.Eng.loOk (Option.some v0) (Go.Eng.hiInt Option.none 64) then
    bif Decidable.decide (0 ≤ x1) && Decidable.decide (x1 < ↑16) then
      bif Decidable.decide (0 ≤ x1) && Decidable.decide (x1 < ↑16) then
        let v1 : Int := Go.IntKind.i64.wrap (x1 + 1);
        let v2 : Int := Go.IntKind.u32.wrap (x4.getD (Go.Eng.mulE x1.toNat 1) 0 + x3.getD (Go.Eng.mulE x1.toNat 1) 0);
        let v3 : Int := Go.IntKind.u64.wrap v2;
        let v4 : List Int := Go.Eng.splice x5 (Go.Eng.plusO Go.Eng.Off.z 1 (Option.some v0)) (List.take (Go.Eng.mulE (Min.min (Go.Eng.rowLen 1 (Go.Proofs.Ytiaddnmloonhgaa.bytesL v3 (Int.toNat 4))) (Go.Eng.subN (Go.Eng.hiNat Option.none 64) (Option.some v0))) 1) (Go.Proofs.Ytiaddnmloonhgaa.bytesL v3 (Int.toNat 4)));
        self v1 x2 x3 x4 v4
      else Option.none
    else Option.none
  else Option.none
else k1 (Decidable.decide (x1 < 16)) x1 x2 x3 x4 x5
def f18_10_lp {R : Type} (N : Nat) (k1 : Bool → Int → List Int → List Int → List Int → List Int → Option R) : Nat → Int → List Int → List Int → List Int → List Int → Option R
  | 0, _, _, _, _, _ => none
  | n + 1, x1, x2, x3, x4, x5 => f18_10_st N (f18_10_lp N k1 n) k1 x1 x2 x3 x4 x5
def f18_10_F (N : Nat) : (R : Type) → List Leaf → (X → AS → Option R) → Option R := fun _ ls K => match ls with
  | [.i x1, .l x2, .l x3, .l x4, .l x5] => f18_10_lp N (fun y1 y2 y3 y4 y5 y6 => K (Go.Eng.X.normal) (fill f18_10_ex1 [.b y1, .i y2, .l y3, .l y4, .l y5, .l y6])) N x1 x2 x3 x4 x5
  | _ => none
def f18_raw {R : Type} (N : Nat) (key : List Int) (ctr : Int) (nonce : List Int) (k : List DV → Option R) : Option R :=
 let v0 : List Int := (List.replicate 16 0).set 0 1634760805;
let v1 : List Int := v0.set 1 857760878;
let v2 : List Int := v1.set 2 2036477234;
let v3 : List Int := v2.set 3 1797285236;
f18_0_lp N
 (fun w4_1 w4_2 w4_3 w4_4 w4_5 w4_6 w4_7 =>
 let v5 : List Int := w4_7.set (Go.Eng.mulE (Int.toNat 12) 1) w4_2;
 f18_2_lp N (fun w6_1 w6_2 w6_3 w6_4 w6_5 => f18_4_lp N (fun w7_1 w7_2 w7_3 w7_4 w7_5 => f18_10_lp N (fun w8_1 w8_2 w8_3 w8_4 w8_5 w8_6 => k [Go.Eng.DV.v (Go.Eng.SV.one (Go.Eng.At.ints Go.IntKind.u8 64 w8_6))]) N 0 w7_3 w7_4 w7_5 (List.replicate 64 0)) N 0 w6_4 w6_5 w6_5) N 0 w4_5 w4_6 v5)
 N ctr 0 key nonce (List.replicate 64 0) v3


noncomputable def E18 (N : Nat) : Env := { Θ := Th, Γ := G18, K := K18, ν := N18, fuel := 0, lp := [(0, mkL N18_0 f18_0_sh (f18_0_F N)), (2, mkL N18_2 f18_2_sh (f18_2_F N)), (4, mkL N18_4 f18_4_sh (f18_4_F N)), (6, mkL N18_6 f18_6_sh (f18_6_F N)), (8, mkL N18_8 f18_8_sh (f18_8_F N)), (10, mkL N18_10 f18_10_sh (f18_10_F N))] }

theorem f18_0_st_eq {R : Type} (N : Nat) (K : X → AS → Option R) (n : Nat) (x1 : Int) (x2 : Int) (x3 : List Int) (x4 : List Int) (x5 : List Int) (x6 : List Int) : roundsOf (E18 N) N18_0 0 B18_0 K (n + 1) (fill f18_0_sh [.i x1, .i x2, .l x3, .l x4, .l x5, .l x6]) = f18_0_st N (fun x1 x2 x3 x4 x5 x6 => roundsOf (E18 N) N18_0 0 B18_0 K n (fill f18_0_sh [.i x1, .i x2, .l x3, .l x4, .l x5, .l x6])) (fun y1 y2 y3 y4 y5 y6 y7 => K (Go.Eng.X.normal) (fill f18_0_ex1 [.b y1, .i y2, .i y3, .l y4, .l y5, .l y6, .l y7])) x1 x2 x3 x4 x5 x6 := by kernel_rfl
theorem f18_0_lp_eq {R : Type} (N : Nat) (K : X → AS → Option R) : ∀ (n : Nat) (x1 : Int) (x2 : Int) (x3 : List Int) (x4 : List Int) (x5 : List Int) (x6 : List Int), roundsOf (E18 N) N18_0 0 B18_0 K n (fill f18_0_sh [.i x1, .i x2, .l x3, .l x4, .l x5, .l x6]) = f18_0_lp N (fun y1 y2 y3 y4 y5 y6 y7 => K (Go.Eng.X.normal) (fill f18_0_ex1 [.b y1, .i y2, .i y3, .l y4, .l y5, .l y6, .l y7])) n x1 x2 x3 x4 x5 x6
  | 0, _, _, _, _, _, _ => rfl
  | n + 1, x1, x2, x3, x4, x5, x6 => by
    rw [f18_0_st_eq, f18_0_lp, show (fun x1 x2 x3 x4 x5 x6 => roundsOf (E18 N) N18_0 0 B18_0 K n (fill f18_0_sh [.i x1, .i x2, .l x3, .l x4, .l x5, .l x6])) = f18_0_lp N (fun y1 y2 y3 y4 y5 y6 y7 => K (Go.Eng.X.normal) (fill f18_0_ex1 [.b y1, .i y2, .i y3, .l y4, .l y5, .l y6, .l y7])) n from by funext x1 x2 x3 x4 x5 x6; exact f18_0_lp_eq N K n x1 x2 x3 x4 x5 x6]
theorem f18_0_ok (N : Nat) (hlp : LoopsOk Try.prog (E18 N).lp B18_0) (hΓ : CtxOk Try.prog (E18 N).Γ) : LoopOk Try.prog (mkL N18_0 f18_0_sh (f18_0_F N)) 0 B18_0 := by
  refine loopOk_of (E := E18 N) thOk hΓ mixed hlp ?_
  intro R ls K r h
  unfold f18_0_F at h
  split at h
  · exact ⟨N, by rw [f18_0_lp_eq]; exact h⟩
  · cases h
theorem f18_2_st_eq {R : Type} (N : Nat) (K : X → AS → Option R) (n : Nat) (x1 : Int) (x2 : List Int) (x3 : List Int) (x4 : List Int) : roundsOf (E18 N) N18_2 2 B18_2 K (n + 1) (fill f18_2_sh [.i x1, .l x2, .l x3, .l x4]) = f18_2_st N (fun x1 x2 x3 x4 => roundsOf (E18 N) N18_2 2 B18_2 K n (fill f18_2_sh [.i x1, .l x2, .l x3, .l x4])) (fun y1 y2 y3 y4 y5 => K (Go.Eng.X.normal) (fill f18_2_ex1 [.b y1, .i y2, .l y3, .l y4, .l y5])) x1 x2 x3 x4 := by kernel_rfl
theorem f18_2_lp_eq {R : Type} (N : Nat) (K : X → AS → Option R) : ∀ (n : Nat) (x1 : Int) (x2 : List Int) (x3 : List Int) (x4 : List Int), roundsOf (E18 N) N18_2 2 B18_2 K n (fill f18_2_sh [.i x1, .l x2, .l x3, .l x4]) = f18_2_lp N (fun y1 y2 y3 y4 y5 => K (Go.Eng.X.normal) (fill f18_2_ex1 [.b y1, .i y2, .l y3, .l y4, .l y5])) n x1 x2 x3 x4
  | 0, _, _, _, _ => rfl
  | n + 1, x1, x2, x3, x4 => by
    rw [f18_2_st_eq, f18_2_lp, show (fun x1 x2 x3 x4 => roundsOf (E18 N) N18_2 2 B18_2 K n (fill f18_2_sh [.i x1, .l x2, .l x3, .l x4])) = f18_2_lp N (fun y1 y2 y3 y4 y5 => K (Go.Eng.X.normal) (fill f18_2_ex1 [.b y1, .i y2, .l y3, .l y4, .l y5])) n from by funext x1 x2 x3 x4; exact f18_2_lp_eq N K n x1 x2 x3 x4]
theorem f18_2_ok (N : Nat) (hlp : LoopsOk Try.prog (E18 N).lp B18_2) (hΓ : CtxOk Try.prog (E18 N).Γ) : LoopOk Try.prog (mkL N18_2 f18_2_sh (f18_2_F N)) 2 B18_2 := by
  refine loopOk_of (E := E18 N) thOk hΓ mixed hlp ?_
  intro R ls K r h
  unfold f18_2_F at h
  split at h
  · exact ⟨N, by rw [f18_2_lp_eq]; exact h⟩
  · cases h
theorem f18_6_st_eq {R : Type} (N : Nat) (K : X → AS → Option R) (n : Nat) (x1 : Int) (x2 : Int) (x3 : List Int) (x4 : List Int) (x5 : List Int) : roundsOf (E18 N) N18_6 6 B18_6 K (n + 1) (fill f18_6_sh [.i x1, .i x2, .l x3, .l x4, .l x5]) = f18_6_st N (fun x1 x2 x3 x4 x5 => roundsOf (E18 N) N18_6 6 B18_6 K n (fill f18_6_sh [.i x1, .i x2, .l x3, .l x4, .l x5])) (fun y1 y2 y3 y4 y5 y6 => K (Go.Eng.X.normal) (fill f18_6_ex1 [.b y1, .i y2, .i y3, .l y4, .l y5, .l y6])) x1 x2 x3 x4 x5 := by kernel_rfl
theorem f18_6_lp_eq {R : Type} (N : Nat) (K : X → AS → Option R) : ∀ (n : Nat) (x1 : Int) (x2 : Int) (x3 : List Int) (x4 : List Int) (x5 : List Int), roundsOf (E18 N) N18_6 6 B18_6 K n (fill f18_6_sh [.i x1, .i x2, .l x3, .l x4, .l x5]) = f18_6_lp N (fun y1 y2 y3 y4 y5 y6 => K (Go.Eng.X.normal) (fill f18_6_ex1 [.b y1, .i y2, .i y3, .l y4, .l y5, .l y6])) n x1 x2 x3 x4 x5
  | 0, _, _, _, _, _ => rfl
  | n + 1, x1, x2, x3, x4, x5 => by
    rw [f18_6_st_eq, f18_6_lp, show (fun x1 x2 x3 x4 x5 => roundsOf (E18 N) N18_6 6 B18_6 K n (fill f18_6_sh [.i x1, .i x2, .l x3, .l x4, .l x5])) = f18_6_lp N (fun y1 y2 y3 y4 y5 y6 => K (Go.Eng.X.normal) (fill f18_6_ex1 [.b y1, .i y2, .i y3, .l y4, .l y5, .l y6])) n from by funext x1 x2 x3 x4 x5; exact f18_6_lp_eq N K n x1 x2 x3 x4 x5]
theorem f18_6_ok (N : Nat) (hlp : LoopsOk Try.prog (E18 N).lp B18_6) (hΓ : CtxOk Try.prog (E18 N).Γ) : LoopOk Try.prog (mkL N18_6 f18_6_sh (f18_6_F N)) 6 B18_6 := by
  refine loopOk_of (E := E18 N) thOk hΓ mixed hlp ?_
  intro R ls K r h
  unfold f18_6_F at h
  split at h
  · exact ⟨N, by rw [f18_6_lp_eq]; exact h⟩
  · cases h
theorem f18_8_st_eq {R : Type} (N : Nat) (K : X → AS → Option R) (n : Nat) (x1 : Int) (x2 : Int) (x3 : List Int) (x4 : List Int) (x5 : List Int) : roundsOf (E18 N) N18_8 8 B18_8 K (n + 1) (fill f18_8_sh [.i x1, .i x2, .l x3, .l x4, .l x5]) = f18_8_st N (fun x1 x2 x3 x4 x5 => roundsOf (E18 N) N18_8 8 B18_8 K n (fill f18_8_sh [.i x1, .i x2, .l x3, .l x4, .l x5])) (fun y1 y2 y3 y4 y5 y6 => K (Go.Eng.X.normal) (fill f18_8_ex1 [.b y1, .i y2, .i y3, .l y4, .l y5, .l y6])) x1 x2 x3 x4 x5 := by kernel_rfl
theorem f18_8_lp_eq {R : Type} (N : Nat) (K : X → AS → Option R) : ∀ (n : Nat) (x1 : Int) (x2 : Int) (x3 : List Int) (x4 : List Int) (x5 : List Int), roundsOf (E18 N) N18_8 8 B18_8 K n (fill f18_8_sh [.i x1, .i x2, .l x3, .l x4, .l x5]) = f18_8_lp N (fun y1 y2 y3 y4 y5 y6 => K (Go.Eng.X.normal) (fill f18_8_ex1 [.b y1, .i y2, .i y3, .l y4, .l y5, .l y6])) n x1 x2 x3 x4 x5
  | 0, _, _, _, _, _ => rfl
  | n + 1, x1, x2, x3, x4, x5 => by
    rw [f18_8_st_eq, f18_8_lp, show (fun x1 x2 x3 x4 x5 => roundsOf (E18 N) N18_8 8 B18_8 K n (fill f18_8_sh [.i x1, .i x2, .l x3, .l x4, .l x5])) = f18_8_lp N (fun y1 y2 y3 y4 y5 y6 => K (Go.Eng.X.normal) (fill f18_8_ex1 [.b y1, .i y2, .i y3, .l y4, .l y5, .l y6])) n from by funext x1 x2 x3 x4 x5; exact f18_8_lp_eq N K n x1 x2 x3 x4 x5]
theorem f18_8_ok (N : Nat) (hlp : LoopsOk Try.prog (E18 N).lp B18_8) (hΓ : CtxOk Try.prog (E18 N).Γ) : LoopOk Try.prog (mkL N18_8 f18_8_sh (f18_8_F N)) 8 B18_8 := by
  refine loopOk_of (E := E18 N) thOk hΓ mixed hlp ?_
  intro R ls K r h
  unfold f18_8_F at h
  split at h
  · exact ⟨N, by rw [f18_8_lp_eq]; exact h⟩
  · cases h
theorem f18_4_st_eq {R : Type} (N : Nat) (K : X → AS → Option R) (n : Nat) (x1 : Int) (x2 : List Int) (x3 : List Int) (x4 : List Int) : roundsOf (E18 N) N18_4 4 B18_4 K (n + 1) (fill f18_4_sh [.i x1, .l x2, .l x3, .l x4]) = f18_4_st N (fun x1 x2 x3 x4 => roundsOf (E18 N) N18_4 4 B18_4 K n (fill f18_4_sh [.i x1, .l x2, .l x3, .l x4])) (fun y1 y2 y3 y4 y5 => K (Go.Eng.X.normal) (fill f18_4_ex1 [.b y1, .i y2, .l y3, .l y4, .l y5])) x1 x2 x3 x4 := by kernel_rfl
theorem f18_4_lp_eq {R : Type} (N : Nat) (K : X → AS → Option R) : ∀ (n : Nat) (x1 : Int) (x2 : List Int) (x3 : List Int) (x4 : List Int), roundsOf (E18 N) N18_4 4 B18_4 K n (fill f18_4_sh [.i x1, .l x2, .l x3, .l x4]) = f18_4_lp N (fun y1 y2 y3 y4 y5 => K (Go.Eng.X.normal) (fill f18_4_ex1 [.b y1, .i y2, .l y3, .l y4, .l y5])) n x1 x2 x3 x4
  | 0, _, _, _, _ => rfl
  | n + 1, x1, x2, x3, x4 => by
    rw [f18_4_st_eq, f18_4_lp, show (fun x1 x2 x3 x4 => roundsOf (E18 N) N18_4 4 B18_4 K n (fill f18_4_sh [.i x1, .l x2, .l x3, .l x4])) = f18_4_lp N (fun y1 y2 y3 y4 y5 => K (Go.Eng.X.normal) (fill f18_4_ex1 [.b y1, .i y2, .l y3, .l y4, .l y5])) n from by funext x1 x2 x3 x4; exact f18_4_lp_eq N K n x1 x2 x3 x4]
theorem f18_4_ok (N : Nat) (hlp : LoopsOk Try.prog (E18 N).lp B18_4) (hΓ : CtxOk Try.prog (E18 N).Γ) : LoopOk Try.prog (mkL N18_4 f18_4_sh (f18_4_F N)) 4 B18_4 := by
  refine loopOk_of (E := E18 N) thOk hΓ mixed hlp ?_
  intro R ls K r h
  unfold f18_4_F at h
  split at h
  · exact ⟨N, by rw [f18_4_lp_eq]; exact h⟩
  · cases h
theorem f18_10_st_eq {R : Type} (N : Nat) (K : X → AS → Option R) (n : Nat) (x1 : Int) (x2 : List Int) (x3 : List Int) (x4 : List Int) (x5 : List Int) : roundsOf (E18 N) N18_10 10 B18_10 K (n + 1) (fill f18_10_sh [.i x1, .l x2, .l x3, .l x4, .l x5]) = f18_10_st N (fun x1 x2 x3 x4 x5 => roundsOf (E18 N) N18_10 10 B18_10 K n (fill f18_10_sh [.i x1, .l x2, .l x3, .l x4, .l x5])) (fun y1 y2 y3 y4 y5 y6 => K (Go.Eng.X.normal) (fill f18_10_ex1 [.b y1, .i y2, .l y3, .l y4, .l y5, .l y6])) x1 x2 x3 x4 x5 := by kernel_rfl
theorem f18_10_lp_eq {R : Type} (N : Nat) (K : X → AS → Option R) : ∀ (n : Nat) (x1 : Int) (x2 : List Int) (x3 : List Int) (x4 : List Int) (x5 : List Int), roundsOf (E18 N) N18_10 10 B18_10 K n (fill f18_10_sh [.i x1, .l x2, .l x3, .l x4, .l x5]) = f18_10_lp N (fun y1 y2 y3 y4 y5 y6 => K (Go.Eng.X.normal) (fill f18_10_ex1 [.b y1, .i y2, .l y3, .l y4, .l y5, .l y6])) n x1 x2 x3 x4 x5
  | 0, _, _, _, _, _ => rfl
  | n + 1, x1, x2, x3, x4, x5 => by
    rw [f18_10_st_eq, f18_10_lp, show (fun x1 x2 x3 x4 x5 => roundsOf (E18 N) N18_10 10 B18_10 K n (fill f18_10_sh [.i x1, .l x2, .l x3, .l x4, .l x5])) = f18_10_lp N (fun y1 y2 y3 y4 y5 y6 => K (Go.Eng.X.normal) (fill f18_10_ex1 [.b y1, .i y2, .l y3, .l y4, .l y5, .l y6])) n from by funext x1 x2 x3 x4 x5; exact f18_10_lp_eq N K n x1 x2 x3 x4 x5]
theorem f18_10_ok (N : Nat) (hlp : LoopsOk Try.prog (E18 N).lp B18_10) (hΓ : CtxOk Try.prog (E18 N).Γ) : LoopOk Try.prog (mkL N18_10 f18_10_sh (f18_10_F N)) 10 B18_10 := by
  refine loopOk_of (E := E18 N) thOk hΓ mixed hlp ?_
  intro R ls K r h
  unfold f18_10_F at h
  split at h
  · exact ⟨N, by rw [f18_10_lp_eq]; exact h⟩
  · cases h

theorem lok18_10 (N : Nat) (hΓ : CtxOk Try.prog G18) : LoopOk Try.prog (mkL N18_10 f18_10_sh (f18_10_F N)) 10 B18_10 := f18_10_ok N (loopsOk_of (l := []) (by kernel_rfl) trivial) hΓ
theorem lok18_8 (N : Nat) (hΓ : CtxOk Try.prog G18) : LoopOk Try.prog (mkL N18_8 f18_8_sh (f18_8_F N)) 8 B18_8 := f18_8_ok N (loopsOk_of (l := []) (by kernel_rfl) trivial) hΓ
theorem lok18_6 (N : Nat) (hΓ : CtxOk Try.prog G18) : LoopOk Try.prog (mkL N18_6 f18_6_sh (f18_6_F N)) 6 B18_6 := f18_6_ok N (loopsOk_of (l := []) (by kernel_rfl) trivial) hΓ
theorem lok18_4 (N : Nat) (hΓ : CtxOk Try.prog G18) : LoopOk Try.prog (mkL N18_4 f18_4_sh (f18_4_F N)) 4 B18_4 := f18_4_ok N (loopsOk_of (l := [(6, B18_6), (8, B18_8)]) (by kernel_rfl) (allOk_cons (L := mkL N18_6 f18_6_sh (f18_6_F N)) rfl (lok18_6 N hΓ) (allOk_cons (L := mkL N18_8 f18_8_sh (f18_8_F N)) rfl (lok18_8 N hΓ) trivial))) hΓ
theorem lok18_2 (N : Nat) (hΓ : CtxOk Try.prog G18) : LoopOk Try.prog (mkL N18_2 f18_2_sh (f18_2_F N)) 2 B18_2 := f18_2_ok N (loopsOk_of (l := []) (by kernel_rfl) trivial) hΓ
theorem lok18_0 (N : Nat) (hΓ : CtxOk Try.prog G18) : LoopOk Try.prog (mkL N18_0 f18_0_sh (f18_0_F N)) 0 B18_0 := f18_0_ok N (loopsOk_of (l := []) (by kernel_rfl) trivial) hΓ
theorem f18_contract (N : Nat) (hΓ : CtxOk Try.prog G18) : Contract Try.prog 18 { sig := S18, impl := fun _ ds k => call (E18 N) S18 100 B18 R18 ds k } :=
  call_contract (E := E18 N) thOk hΓ mixed ok18.look ok18.body ok18.n ok18.rv rfl (by decide) (loopsOk_of (l := [(0, B18_0), (2, B18_2), (4, B18_4), (6, B18_6), (8, B18_8), (10, B18_10)]) (by kernel_rfl) (allOk_cons (L := mkL N18_0 f18_0_sh (f18_0_F N)) rfl (lok18_0 N hΓ) (allOk_cons (L := mkL N18_2 f18_2_sh (f18_2_F N)) rfl (lok18_2 N hΓ) (allOk_cons (L := mkL N18_4 f18_4_sh (f18_4_F N)) rfl (lok18_4 N hΓ) (allOk_cons (L := mkL N18_6 f18_6_sh (f18_6_F N)) rfl (lok18_6 N hΓ) (allOk_cons (L := mkL N18_8 f18_8_sh (f18_8_F N)) rfl (lok18_8 N hΓ) (allOk_cons (L := mkL N18_10 f18_10_sh (f18_10_F N)) rfl (lok18_10 N hΓ) trivial)))))))
theorem f18_raw_eq {R : Type} (N : Nat) (key : List Int) (ctr : Int) (nonce : List Int) (k : List DV → Option R) : call (E18 N) S18 100 B18 R18 [.v (.one (.ints .u8 32 key)), .v (.one (.int .u32 ctr)), .v (.one (.ints .u8 12 nonce))] k = f18_raw N key ctr nonce k := by kernel_rfl
end Go.Proofs.Ytiaddnmloonhgaa

/- The block. -/
namespace Go.Proofs.Ytiaddnmloonhgaa
open Go Go.Eng
set_option maxRecDepth 100000

theorem wrapI {x : Int} {n : Nat} (h : x = (n : Int)) (hn : n < 2 ^ 62) : IntKind.i64.wrap x = (n : Int) := by rw [h]; exact wrap64_nat hn

theorem hiOk_nat {n h : Nat} (hn : n ≤ h) : hiOk (some (n : Int)) h = true := by simp [hiOk]; omega
theorem loOk_nat {n : Nat} {h : Int} (hn : (n : Int) ≤ h) : loOk (some (n : Int)) h = true := by simp [loOk]; omega

theorem sub_nat (xs : List Int) (a b h : Nat) : Go.Eng.sub xs (plusO .z 1 (some (a : Int))) (mulE (subN (hiNat (some (b : Int)) h) (some (a : Int))) 1) = (xs.drop a).take (b - a) := by
  simp [Go.Eng.sub, plusO, Off.plus, mulE, subN, hiNat]

theorem ble_take (xs : List Int) (a n : Nat) (hn : n ≤ 1048576) : ((xs.drop a).take n).length.ble 1048576 = true := by
  rw [Nat.ble_eq]; exact Nat.le_trans (List.length_take_le _ _) hn

theorem key_step {R : Type} (N : Nat) (self : Int → Int → List Int → List Int → List Int → List Int → Option R) (k1 : Bool → Int → Int → List Int → List Int → List Int → List Int → Option R) (i : Nat) (hi : i < 8) (x1 : Int) (x3 x4 x5 x6 : List Int) :
    f18_0_st N self k1 x1 (i : Int) x3 x4 x5 x6 = self x1 ((i + 1 : Nat) : Int) x3 x4 x5 (x6.set (4 + i) (IntKind.u32.wrap (lowL ((x3.drop (4 * i)).take 4)))) := by
  unfold f18_0_st
  have h0 : decide ((i : Int) < 8) = true := by simp; omega
  have h1 : IntKind.i64.wrap (4 * (i : Int)) = ((4 * i : Nat) : Int) := wrapI (by omega) (by omega)
  have h2 : IntKind.i64.wrap (((4 * i : Nat) : Int) + 4) = ((4 * i + 4 : Nat) : Int) := wrapI (by omega) (by omega)
  have h3 : IntKind.i64.wrap (4 + (i : Int)) = ((4 + i : Nat) : Int) := wrapI (by omega) (by omega)
  have h4 : IntKind.i64.wrap ((i : Int) + 1) = ((i + 1 : Nat) : Int) := wrapI (by omega) (by omega)
  have h5 : (decide ((0 : Int) ≤ ((4 + i : Nat) : Int)) && decide (((4 + i : Nat) : Int) < 16)) = true := by simp; omega
  have h6 : 4 * i + 4 - 4 * i = 4 := by omega
  simp only [h0, h1, h2, h3, h4]
  rw [hiOk_nat (by omega), loOk_nat (by simp [hiInt]; omega), sub_nat, h6, ble_take _ _ _ (by omega), h5]
  simp only [cond_true, mulE_one, Int.toNat_natCast]

def keyGo (key : List Int) : Nat → Nat → List Int → List Int
  | 0, _, s => s
  | m + 1, i, s => keyGo key m (i + 1) (s.set (4 + i) (IntKind.u32.wrap (lowL ((key.drop (4 * i)).take 4))))

theorem key_loop {R : Type} {N : Nat} (k1 : Bool → Int → Int → List Int → List Int → List Int → List Int → Option R) (x1 : Int) (x3 x4 x5 : List Int) :
    ∀ (m i : Nat) (s : List Int), i + m = 8 → ∀ fuel, m < fuel → f18_0_lp N k1 fuel x1 (i : Int) x3 x4 x5 s = k1 false x1 8 x3 x4 x5 (keyGo x3 m i s) := by
  intro m
  induction m with
  | zero =>
    intro i n h fuel hf
    obtain ⟨f, rfl⟩ : ∃ f, fuel = f + 1 := ⟨fuel - 1, by omega⟩
    have : i = 8 := by omega
    subst this
    rfl
  | succ m ih =>
    intro i n h fuel hf
    obtain ⟨f, rfl⟩ : ∃ f, fuel = f + 1 := ⟨fuel - 1, by omega⟩
    show f18_0_st N (f18_0_lp N k1 f) k1 _ _ _ _ _ n = _
    rw [key_step N _ _ i (by omega), ih (i + 1) _ (by omega) f (by omega)]
    rfl

theorem nonce_step {R : Type} (N : Nat) (self : Int → List Int → List Int → List Int → Option R) (k1 : Bool → Int → List Int → List Int → List Int → Option R) (i : Nat) (hi : i < 3) (x2 x3 x4 : List Int) :
    f18_2_st N self k1 (i : Int) x2 x3 x4 = self ((i + 1 : Nat) : Int) x2 x3 (x4.set (13 + i) (IntKind.u32.wrap (lowL ((x2.drop (4 * i)).take 4)))) := by
  unfold f18_2_st
  have h0 : decide ((i : Int) < 3) = true := by simp; omega
  have h1 : IntKind.i64.wrap (4 * (i : Int)) = ((4 * i : Nat) : Int) := wrapI (by omega) (by omega)
  have h2 : IntKind.i64.wrap (((4 * i : Nat) : Int) + 4) = ((4 * i + 4 : Nat) : Int) := wrapI (by omega) (by omega)
  have h3 : IntKind.i64.wrap (13 + (i : Int)) = ((13 + i : Nat) : Int) := wrapI (by omega) (by omega)
  have h4 : IntKind.i64.wrap ((i : Int) + 1) = ((i + 1 : Nat) : Int) := wrapI (by omega) (by omega)
  have h5 : (decide ((0 : Int) ≤ ((13 + i : Nat) : Int)) && decide (((13 + i : Nat) : Int) < 16)) = true := by simp; omega
  have h6 : 4 * i + 4 - 4 * i = 4 := by omega
  simp only [h0, h1, h2, h3, h4]
  rw [hiOk_nat (by omega), loOk_nat (by simp [hiInt]; omega), sub_nat, h6, ble_take _ _ _ (by omega), h5]
  simp only [cond_true, mulE_one, Int.toNat_natCast]

def nonceGo (nonce : List Int) : Nat → Nat → List Int → List Int
  | 0, _, s => s
  | m + 1, i, s => nonceGo nonce m (i + 1) (s.set (13 + i) (IntKind.u32.wrap (lowL ((nonce.drop (4 * i)).take 4))))

theorem nonce_loop {R : Type} {N : Nat} (k1 : Bool → Int → List Int → List Int → List Int → Option R) (x2 x3 : List Int) :
    ∀ (m i : Nat) (s : List Int), i + m = 3 → ∀ fuel, m < fuel → f18_2_lp N k1 fuel (i : Int) x2 x3 s = k1 false 3 x2 x3 (nonceGo x2 m i s) := by
  intro m
  induction m with
  | zero =>
    intro i n h fuel hf
    obtain ⟨f, rfl⟩ : ∃ f, fuel = f + 1 := ⟨fuel - 1, by omega⟩
    have : i = 3 := by omega
    subst this
    rfl
  | succ m ih =>
    intro i n h fuel hf
    obtain ⟨f, rfl⟩ : ∃ f, fuel = f + 1 := ⟨fuel - 1, by omega⟩
    show f18_2_st N (f18_2_lp N k1 f) k1 _ _ _ n = _
    rw [nonce_step N _ _ i (by omega), ih (i + 1) _ (by omega) f (by omega)]
    rfl

/-! ### rounds -/

def columns (x : List Int) : List Int := quarterL (quarterL (quarterL (quarterL x 0 4 8 12) 1 5 9 13) 2 6 10 14) 3 7 11 15
def diagonals (x : List Int) : List Int := quarterL (quarterL (quarterL (quarterL x 0 5 10 15) 1 6 11 12) 2 7 8 13) 3 4 9 14

theorem columns_loop {R : Type} (N : Nat) (k1 : Bool → Int → Int → List Int → List Int → List Int → Option R) (x1 : Int) (x3 x4 x5 : List Int) :
    f18_6_lp N k1 20 x1 0 x3 x4 x5 = k1 false x1 4 x3 x4 (columns x5) := by kernel_rfl

theorem diagonals_loop {R : Type} (N : Nat) (k1 : Bool → Int → Int → List Int → List Int → List Int → Option R) (x1 : Int) (x3 x4 x5 : List Int) :
    f18_8_lp N k1 20 x1 0 x3 x4 x5 = k1 false x1 4 x3 x4 (diagonals x5) := by kernel_rfl

def roundsGo : Nat → List Int → List Int
  | 0, x => x
  | m + 1, x => roundsGo m (diagonals (columns x))

theorem rounds_loop {R : Type} (k1 : Bool → Int → List Int → List Int → List Int → Option R) (x2 x3 : List Int) :
    ∀ (m i : Nat) (s : List Int), i + m = 10 → ∀ fuel, m < fuel → f18_4_lp 20 k1 fuel (i : Int) x2 x3 s = k1 false 10 x2 x3 (roundsGo m s) := by
  intro m
  induction m with
  | zero =>
    intro i n h fuel hf
    obtain ⟨f, rfl⟩ : ∃ f, fuel = f + 1 := ⟨fuel - 1, by omega⟩
    have : i = 10 := by omega
    subst this
    rfl
  | succ m ih =>
    intro i n h fuel hf
    obtain ⟨f, rfl⟩ : ∃ f, fuel = f + 1 := ⟨fuel - 1, by omega⟩
    show f18_4_st 20 (f18_4_lp 20 k1 f) k1 _ _ _ n = _
    unfold f18_4_st
    have h0 : decide ((i : Int) < 10) = true := by simp; omega
    rw [h0, cond_true, columns_loop, diagonals_loop]
    simp only
    rw [wrapI (show (i : Int) + 1 = ((i + 1 : Nat) : Int) by omega) (by omega), ih (i + 1) _ (by omega) f (by omega)]
    rfl

/-! ### out -/

def outRun (t s : List Int) : Option (List Int) := f18_10_lp 20 (fun _ _ _ _ _ y6 => some y6) 20 0 [] s t (List.replicate 64 0)

theorem out_some (t s : List Int) : (outRun t s).isSome = true := by kernel_rfl

theorem out_match {R : Type} (k1 : List Int → Option R) (x2 t s : List Int) : f18_10_lp 20 (fun _ _ _ _ _ y6 => k1 y6) 20 0 x2 s t (List.replicate 64 0) = match outRun t s with | some o => k1 o | none => none := by kernel_rfl

def outL (t s : List Int) : List Int := (outRun t s).getD []

theorem out_loop {R : Type} (k1 : List Int → Option R) (x2 t s : List Int) : f18_10_lp 20 (fun _ _ _ _ _ y6 => k1 y6) 20 0 x2 s t (List.replicate 64 0) = k1 (outL t s) := by
  rw [out_match]
  have := out_some t s
  unfold outL
  cases h : outRun t s with
  | none => rw [h] at this; cases this
  | some o => rfl

/-- what the rounds begin with -/
def startL (key : List Int) (ctr : Int) (nonce : List Int) : List Int :=
  nonceGo nonce 3 0 ((keyGo key 8 0 [1634760805, 857760878, 2036477234, 1797285236, 0, 0, 0, 0, 0, 0, 0, 0, 0, 0, 0, 0]).set 12 ctr)

def blockL (key : List Int) (ctr : Int) (nonce : List Int) : List Int :=
  outL (roundsGo 10 (startL key ctr nonce)) (startL key ctr nonce)

theorem f18_spec {R : Type} (key : List Int) (ctr : Int) (nonce : List Int) (k : List DV → Option R) : f18_raw 20 key ctr nonce k = k [.v (.one (.ints .u8 64 (blockL key ctr nonce)))] := by
  unfold f18_raw
  refine (key_loop (N := 20) _ ctr key nonce (List.replicate 64 0) 8 0 _ rfl 20 (by omega)).trans ?_
  refine (nonce_loop (N := 20) _ nonce (List.replicate 64 0) 3 0 _ rfl 20 (by omega)).trans ?_
  refine (rounds_loop _ _ _ 10 0 _ rfl 20 (by omega)).trans ?_
  exact out_loop (fun o => k [.v (.one (.ints .u8 64 o))]) _ _ _

def I18 : (R : Type) → List DV → (List DV → Option R) → Option R := fun _ ds k => match ds with
  | [.v (.one (.ints .u8 32 key)), .v (.one (.int .u32 ctr)), .v (.one (.ints .u8 12 nonce))] => k [.v (.one (.ints .u8 64 (blockL key ctr nonce)))]
  | _ => none

theorem c18 : Contract Try.prog 18 { sig := S18, impl := I18 } := by
  refine Contract.refine fun R ds k r h => ⟨_, f18_contract 20 G18_ok, ?_⟩
  unfold I18 at h
  split at h
  · rw [f18_raw_eq, f18_spec]; exact h
  · cases h

def G16 : Ctx := [(18, { sig := S18, impl := I18 })]
theorem G16_ok : CtxOk Try.prog G16 := ctxOk_cons ok18 rfl c18 ctxOk_nil

end Go.Proofs.Ytiaddnmloonhgaa

/- What rime/seal.Stream comes to. MADE BY PROGRAM (wip/tools/mkfn.py, EngGen.lean). -/
namespace Go.Proofs.Ytiaddnmloonhgaa
open Go Go.Eng
set_option maxRecDepth 100000
set_option linter.unusedVariables false

def f16_2_sh : Shp := { n := 63, lo := 4, slots := [(1, .one (.int Go.IntKind.u32)), (4, .one (.fix (Go.Eng.At.ptr 4 0 Go.Eng.Off.z 32))), (6, .one (.fix (Go.Eng.At.ptr 6 0 Go.Eng.Off.z 12))), (11, .one (.fix (Go.Eng.At.own 26))), (12, .one (.int Go.IntKind.i64)), (13, .one (.fix (Go.Eng.At.ptr 13 0 Go.Eng.Off.z 64))), (14, .one (.int Go.IntKind.i64))], items := [(4, .obj [.ints Go.IntKind.u8 32]), (6, .obj [.ints Go.IntKind.u8 12]), (13, .obj [.ints Go.IntKind.u8 64]), (26, .row Go.IntKind.u8 1)] }
def f16_2_ex1 : Shp := { n := 63, lo := 4, slots := [(48, .one (.bool)), (1, .one (.int Go.IntKind.u32)), (4, .one (.fix (Go.Eng.At.ptr 4 0 Go.Eng.Off.z 32))), (6, .one (.fix (Go.Eng.At.ptr 6 0 Go.Eng.Off.z 12))), (11, .one (.fix (Go.Eng.At.own 26))), (12, .one (.int Go.IntKind.i64)), (13, .one (.fix (Go.Eng.At.ptr 13 0 Go.Eng.Off.z 64))), (14, .one (.int Go.IntKind.i64))], items := [(4, .obj [.ints Go.IntKind.u8 32]), (6, .obj [.ints Go.IntKind.u8 12]), (13, .obj [.ints Go.IntKind.u8 64]), (26, .row Go.IntKind.u8 1)] }
def f16_2_st {R : Type} (N : Nat) (self : Int → Int → Int → List Int → List Int → List Int → List Int → Option R) (k1 : Bool → Int → Int → Int → List Int → List Int → List Int → List Int → Option R) (x1 : Int) (x2 : Int) (x3 : Int) (x4 : List Int) (x5 : List Int) (x6 : List Int) (x7 : List Int) : Option R :=
  let v0 : Int := Go.IntKind.i64.wrap (x2 + 64);
bif Decidable.decide (x3 < Go.Eng.minI v0 (Go.Eng.nI (Go.Eng.rowLen 1 x7))) then
  bif Decidable.decide (0 ≤ x3) && Decidable.decide (x3 < Go.Eng.nI (Go.Eng.rowLen 1 x7)) then
    let v1 : Int := Go.IntKind.i64.wrap (x3 - x2);
    bif Decidable.decide (0 ≤ v1) && Decidable.decide (v1 < 64) then
      bif Decidable.decide (0 ≤ x3) && Decidable.decide (x3 < Go.Eng.nI (Go.Eng.rowLen 1 x7)) then
        let v2 : Int := Go.IntKind.i64.wrap (x3 + 1);
        let v3 : Int := Go.Eng.xorI Go.IntKind.u8 (x7.getD (Go.Eng.mulE x3.toNat 1) 0) (x6.getD (Go.Eng.mulE v1.toNat 1) 0);
        let v4 : List Int := x7.set (Go.Eng.mulE x3.toNat 1) v3;
        self x1 x2 v2 x4 x5 x6 v4
      else Option.none
    else Option.none
  else Option.none
else k1 (Decidable.decide (x3 < Go.Eng.minI v0 (Go.Eng.nI (Go.Eng.rowLen 1 x7)))) x1 x2 x3 x4 x5 x6 x7
def f16_2_lp {R : Type} (N : Nat) (k1 : Bool → Int → Int → Int → List Int → List Int → List Int → List Int → Option R) : Nat → Int → Int → Int → List Int → List Int → List Int → List Int → Option R
  | 0, _, _, _, _, _, _, _ => none
  | n + 1, x1, x2, x3, x4, x5, x6, x7 => f16_2_st N (f16_2_lp N k1 n) k1 x1 x2 x3 x4 x5 x6 x7
def f16_2_F (N : Nat) : (R : Type) → List Leaf → (X → AS → Option R) → Option R := fun _ ls K => match ls with
  | [.i x1, .i x2, .i x3, .l x4, .l x5, .l x6, .l x7] => f16_2_lp N (fun y1 y2 y3 y4 y5 y6 y7 y8 => K (Go.Eng.X.normal) (fill f16_2_ex1 [.b y1, .i y2, .i y3, .i y4, .l y5, .l y6, .l y7, .l y8])) N x1 x2 x3 x4 x5 x6 x7
  | _ => none
def f16_0_sh : Shp := { n := 63, lo := 4, slots := [(1, .one (.int Go.IntKind.u32)), (4, .one (.fix (Go.Eng.At.ptr 4 0 Go.Eng.Off.z 32))), (6, .one (.fix (Go.Eng.At.ptr 6 0 Go.Eng.Off.z 12))), (11, .one (.fix (Go.Eng.At.own 26))), (12, .one (.int Go.IntKind.i64))], items := [(4, .obj [.ints Go.IntKind.u8 32]), (6, .obj [.ints Go.IntKind.u8 12]), (26, .row Go.IntKind.u8 1)] }
def f16_0_ex1 : Shp := { n := 63, lo := 4, slots := [(30, .one (.bool)), (1, .one (.int Go.IntKind.u32)), (4, .one (.fix (Go.Eng.At.ptr 4 0 Go.Eng.Off.z 32))), (6, .one (.fix (Go.Eng.At.ptr 6 0 Go.Eng.Off.z 12))), (11, .one (.fix (Go.Eng.At.own 26))), (12, .one (.int Go.IntKind.i64))], items := [(4, .obj [.ints Go.IntKind.u8 32]), (6, .obj [.ints Go.IntKind.u8 12]), (26, .row Go.IntKind.u8 1)] }
def f16_0_st {R : Type} (N : Nat) (self : Int → Int → List Int → List Int → List Int → Option R) (k1 : Bool → Int → Int → List Int → List Int → List Int → Option R) (x1 : Int) (x2 : Int) (x3 : List Int) (x4 : List Int) (x5 : List Int) : Option R :=
  bif Decidable.decide (x2 < Go.Eng.nI (Go.Eng.rowLen 1 x5)) then
  let v0 : Int := Go.IntKind.i64.wrap (x2.tdiv 64);
  let v1 : Int := Go.IntKind.u32.wrap v0;
  let v2 : Int := Go.IntKind.u32.wrap (x1 + v1);
  f16_2_lp N
    (fun w3_1 w3_2 w3_3 w3_4 w3_5 w3_6 w3_7 w3_8 =>
      let v4 : Int := Go.IntKind.i64.wrap (w3_3 + 64);
      self w3_2 v4 w3_5 w3_6 w3_8)
    N x1 x2 x2 x3 x4 (Go.Proofs.Ytiaddnmloonhgaa.blockL x3 v2 x4) x5
else k1 (Decidable.decide (x2 < Go.Eng.nI (Go.Eng.rowLen 1 x5))) x1 x2 x3 x4 x5
def f16_0_lp {R : Type} (N : Nat) (k1 : Bool → Int → Int → List Int → List Int → List Int → Option R) : Nat → Int → Int → List Int → List Int → List Int → Option R
  | 0, _, _, _, _, _ => none
  | n + 1, x1, x2, x3, x4, x5 => f16_0_st N (f16_0_lp N k1 n) k1 x1 x2 x3 x4 x5
def f16_0_F (N : Nat) : (R : Type) → List Leaf → (X → AS → Option R) → Option R := fun _ ls K => match ls with
  | [.i x1, .i x2, .l x3, .l x4, .l x5] => f16_0_lp N (fun y1 y2 y3 y4 y5 y6 => K (Go.Eng.X.normal) (fill f16_0_ex1 [.b y1, .i y2, .i y3, .l y4, .l y5, .l y6])) N x1 x2 x3 x4 x5
  | _ => none
def f16_raw {R : Type} (N : Nat) (key : List Int) (ctr : Int) (nonce : List Int) (b : List Int) (k : List DV → Option R) : Option R :=
 let v0 : Int := Go.IntKind.u64.wrap ctr;
let v1 : Int := Go.IntKind.i64.wrap (Go.Eng.nI (Go.Eng.rowLen 1 b) + 63);
let v2 : Int := Go.IntKind.u64.wrap v1;
let v3 : Int := Go.IntKind.u64.wrap (v2.tdiv 64);
let v4 : Int := Go.IntKind.u64.wrap (v0 + v3);
bif Decidable.decide (v4 > 4294967296) then k [Go.Eng.DV.lst Go.IntKind.u8 1 [], Go.Eng.DV.v (Go.Eng.SV.one (Go.Eng.At.int Go.IntKind.i64 122))] else bif (Go.Eng.rowLen 1 b * 1).ble Go.Eng.big48 && (Go.Eng.rowLen 1 b).ble Go.Eng.big48 then f16_0_lp N (fun w5_1 w5_2 w5_3 w5_4 w5_5 w5_6 => k [Go.Eng.DV.lst Go.IntKind.u8 1 w5_6, Go.Eng.DV.v (Go.Eng.SV.one (Go.Eng.At.int Go.IntKind.i64 0))]) N ctr 0 key nonce b else Option.none


noncomputable def E16 (N : Nat) : Env := { Θ := Th, Γ := G16, K := K16, ν := N16, fuel := 0, lp := [(0, mkL N16_0 f16_0_sh (f16_0_F N)), (2, mkL N16_2 f16_2_sh (f16_2_F N))] }

theorem f16_2_st_eq {R : Type} (N : Nat) (K : X → AS → Option R) (n : Nat) (x1 : Int) (x2 : Int) (x3 : Int) (x4 : List Int) (x5 : List Int) (x6 : List Int) (x7 : List Int) : roundsOf (E16 N) N16_2 2 B16_2 K (n + 1) (fill f16_2_sh [.i x1, .i x2, .i x3, .l x4, .l x5, .l x6, .l x7]) = f16_2_st N (fun x1 x2 x3 x4 x5 x6 x7 => roundsOf (E16 N) N16_2 2 B16_2 K n (fill f16_2_sh [.i x1, .i x2, .i x3, .l x4, .l x5, .l x6, .l x7])) (fun y1 y2 y3 y4 y5 y6 y7 y8 => K (Go.Eng.X.normal) (fill f16_2_ex1 [.b y1, .i y2, .i y3, .i y4, .l y5, .l y6, .l y7, .l y8])) x1 x2 x3 x4 x5 x6 x7 := by kernel_rfl
theorem f16_2_lp_eq {R : Type} (N : Nat) (K : X → AS → Option R) : ∀ (n : Nat) (x1 : Int) (x2 : Int) (x3 : Int) (x4 : List Int) (x5 : List Int) (x6 : List Int) (x7 : List Int), roundsOf (E16 N) N16_2 2 B16_2 K n (fill f16_2_sh [.i x1, .i x2, .i x3, .l x4, .l x5, .l x6, .l x7]) = f16_2_lp N (fun y1 y2 y3 y4 y5 y6 y7 y8 => K (Go.Eng.X.normal) (fill f16_2_ex1 [.b y1, .i y2, .i y3, .i y4, .l y5, .l y6, .l y7, .l y8])) n x1 x2 x3 x4 x5 x6 x7
  | 0, _, _, _, _, _, _, _ => rfl
  | n + 1, x1, x2, x3, x4, x5, x6, x7 => by
    rw [f16_2_st_eq, f16_2_lp, show (fun x1 x2 x3 x4 x5 x6 x7 => roundsOf (E16 N) N16_2 2 B16_2 K n (fill f16_2_sh [.i x1, .i x2, .i x3, .l x4, .l x5, .l x6, .l x7])) = f16_2_lp N (fun y1 y2 y3 y4 y5 y6 y7 y8 => K (Go.Eng.X.normal) (fill f16_2_ex1 [.b y1, .i y2, .i y3, .i y4, .l y5, .l y6, .l y7, .l y8])) n from by funext x1 x2 x3 x4 x5 x6 x7; exact f16_2_lp_eq N K n x1 x2 x3 x4 x5 x6 x7]
theorem f16_2_ok (N : Nat) (hlp : LoopsOk Try.prog (E16 N).lp B16_2) (hΓ : CtxOk Try.prog (E16 N).Γ) : LoopOk Try.prog (mkL N16_2 f16_2_sh (f16_2_F N)) 2 B16_2 := by
  refine loopOk_of (E := E16 N) thOk hΓ mixed hlp ?_
  intro R ls K r h
  unfold f16_2_F at h
  split at h
  · exact ⟨N, by rw [f16_2_lp_eq]; exact h⟩
  · cases h
theorem f16_0_st_eq {R : Type} (N : Nat) (K : X → AS → Option R) (n : Nat) (x1 : Int) (x2 : Int) (x3 : List Int) (x4 : List Int) (x5 : List Int) : roundsOf (E16 N) N16_0 0 B16_0 K (n + 1) (fill f16_0_sh [.i x1, .i x2, .l x3, .l x4, .l x5]) = f16_0_st N (fun x1 x2 x3 x4 x5 => roundsOf (E16 N) N16_0 0 B16_0 K n (fill f16_0_sh [.i x1, .i x2, .l x3, .l x4, .l x5])) (fun y1 y2 y3 y4 y5 y6 => K (Go.Eng.X.normal) (fill f16_0_ex1 [.b y1, .i y2, .i y3, .l y4, .l y5, .l y6])) x1 x2 x3 x4 x5 := by kernel_rfl
theorem f16_0_lp_eq {R : Type} (N : Nat) (K : X → AS → Option R) : ∀ (n : Nat) (x1 : Int) (x2 : Int) (x3 : List Int) (x4 : List Int) (x5 : List Int), roundsOf (E16 N) N16_0 0 B16_0 K n (fill f16_0_sh [.i x1, .i x2, .l x3, .l x4, .l x5]) = f16_0_lp N (fun y1 y2 y3 y4 y5 y6 => K (Go.Eng.X.normal) (fill f16_0_ex1 [.b y1, .i y2, .i y3, .l y4, .l y5, .l y6])) n x1 x2 x3 x4 x5
  | 0, _, _, _, _, _ => rfl
  | n + 1, x1, x2, x3, x4, x5 => by
    rw [f16_0_st_eq, f16_0_lp, show (fun x1 x2 x3 x4 x5 => roundsOf (E16 N) N16_0 0 B16_0 K n (fill f16_0_sh [.i x1, .i x2, .l x3, .l x4, .l x5])) = f16_0_lp N (fun y1 y2 y3 y4 y5 y6 => K (Go.Eng.X.normal) (fill f16_0_ex1 [.b y1, .i y2, .i y3, .l y4, .l y5, .l y6])) n from by funext x1 x2 x3 x4 x5; exact f16_0_lp_eq N K n x1 x2 x3 x4 x5]
theorem f16_0_ok (N : Nat) (hlp : LoopsOk Try.prog (E16 N).lp B16_0) (hΓ : CtxOk Try.prog (E16 N).Γ) : LoopOk Try.prog (mkL N16_0 f16_0_sh (f16_0_F N)) 0 B16_0 := by
  refine loopOk_of (E := E16 N) thOk hΓ mixed hlp ?_
  intro R ls K r h
  unfold f16_0_F at h
  split at h
  · exact ⟨N, by rw [f16_0_lp_eq]; exact h⟩
  · cases h

theorem lok16_2 (N : Nat) (hΓ : CtxOk Try.prog G16) : LoopOk Try.prog (mkL N16_2 f16_2_sh (f16_2_F N)) 2 B16_2 := f16_2_ok N (loopsOk_of (l := []) (by kernel_rfl) trivial) hΓ
theorem lok16_0 (N : Nat) (hΓ : CtxOk Try.prog G16) : LoopOk Try.prog (mkL N16_0 f16_0_sh (f16_0_F N)) 0 B16_0 := f16_0_ok N (loopsOk_of (l := [(2, B16_2)]) (by kernel_rfl) (allOk_cons (L := mkL N16_2 f16_2_sh (f16_2_F N)) rfl (lok16_2 N hΓ) trivial)) hΓ
theorem f16_contract (N : Nat) (hΓ : CtxOk Try.prog G16) : Contract Try.prog 16 { sig := S16, impl := fun _ ds k => call (E16 N) S16 63 B16 R16 ds k } :=
  call_contract (E := E16 N) thOk hΓ mixed ok16.look ok16.body ok16.n ok16.rv rfl (by decide) (loopsOk_of (l := [(0, B16_0), (2, B16_2)]) (by kernel_rfl) (allOk_cons (L := mkL N16_0 f16_0_sh (f16_0_F N)) rfl (lok16_0 N hΓ) (allOk_cons (L := mkL N16_2 f16_2_sh (f16_2_F N)) rfl (lok16_2 N hΓ) trivial)))
theorem f16_raw_eq {R : Type} (N : Nat) (key : List Int) (ctr : Int) (nonce : List Int) (b : List Int) (k : List DV → Option R) : call (E16 N) S16 63 B16 R16 [.v (.one (.ints .u8 32 key)), .v (.one (.int .u32 ctr)), .v (.one (.ints .u8 12 nonce)), .lst .u8 1 b] k = f16_raw N key ctr nonce b k := by kernel_rfl
end Go.Proofs.Ytiaddnmloonhgaa

/- What rime/rimeplain.SameBytes comes to. MADE BY PROGRAM (wip/tools/mkfn.py, EngGen.lean). -/
namespace Go.Proofs.Ytiaddnmloonhgaa
open Go Go.Eng
set_option maxRecDepth 100000
set_option linter.unusedVariables false

def f20_0_sh : Shp := { n := 26, lo := 2, slots := [(0, .one (.fix (Go.Eng.At.own 0))), (1, .one (.fix (Go.Eng.At.own 1))), (5, .one (.int Go.IntKind.i64))], items := [(0, .view Go.IntKind.u8 1), (1, .view Go.IntKind.u8 1)] }
def f20_0_ex1 : Shp := { n := 26, lo := 2, slots := [(4, .one (.bool)), (25, .one (.bool)), (14, .one (.bool)), (0, .one (.fix (Go.Eng.At.own 0))), (1, .one (.fix (Go.Eng.At.own 1))), (5, .one (.int Go.IntKind.i64))], items := [(0, .view Go.IntKind.u8 1), (1, .view Go.IntKind.u8 1)] }
def f20_0_ex2 : Shp := { n := 26, lo := 2, slots := [(14, .one (.bool)), (0, .one (.fix (Go.Eng.At.own 0))), (1, .one (.fix (Go.Eng.At.own 1))), (5, .one (.int Go.IntKind.i64))], items := [(0, .view Go.IntKind.u8 1), (1, .view Go.IntKind.u8 1)] }
def f20_0_st {R : Type} (N : Nat) (self : Int → List Int → List Int → Option R) (k1 : Bool → Bool → Bool → Int → List Int → List Int → Option R) (k2 : Bool → Int → List Int → List Int → Option R) (x1 : Int) (x2 : List Int) (x3 : List Int) : Option R :=
  bif Decidable.decide (x1 < Go.Eng.nI (Go.Eng.rowLen 1 x2)) then
  bif Decidable.decide (0 ≤ x1) && Decidable.decide (x1 < Go.Eng.nI (Go.Eng.rowLen 1 x2)) then
    bif Decidable.decide (0 ≤ x1) && Decidable.decide (x1 < Go.Eng.nI (Go.Eng.rowLen 1 x3)) then
      bif x2.getD (Go.Eng.mulE x1.toNat 1) 0 != x3.getD (Go.Eng.mulE x1.toNat 1) 0 then k1 Bool.false (x2.getD (Go.Eng.mulE x1.toNat 1) 0 != x3.getD (Go.Eng.mulE x1.toNat 1) 0) (Decidable.decide (x1 < Go.Eng.nI (Go.Eng.rowLen 1 x2))) x1 x2 x3
      else
        let v0 : Int := Go.IntKind.i64.wrap (x1 + 1);
        self v0 x2 x3
    else Option.none
  else Option.none
else k2 (Decidable.decide (x1 < Go.Eng.nI (Go.Eng.rowLen 1 x2))) x1 x2 x3
def f20_0_lp {R : Type} (N : Nat) (k1 : Bool → Bool → Bool → Int → List Int → List Int → Option R) (k2 : Bool → Int → List Int → List Int → Option R) : Nat → Int → List Int → List Int → Option R
  | 0, _, _, _ => none
  | n + 1, x1, x2, x3 => f20_0_st N (f20_0_lp N k1 k2 n) k1 k2 x1 x2 x3
def f20_0_F (N : Nat) : (R : Type) → List Leaf → (X → AS → Option R) → Option R := fun _ ls K => match ls with
  | [.i x1, .l x2, .l x3] => f20_0_lp N (fun y1 y2 y3 y4 y5 y6 => K (Go.Eng.X.ret) (fill f20_0_ex1 [.b y1, .b y2, .b y3, .i y4, .l y5, .l y6])) (fun y1 y2 y3 y4 => K (Go.Eng.X.normal) (fill f20_0_ex2 [.b y1, .i y2, .l y3, .l y4])) N x1 x2 x3
  | _ => none
def f20_raw {R : Type} (N : Nat) (a : List Int) (b : List Int) (k : List DV → Option R) : Option R :=
 bif Go.Eng.nI (Go.Eng.rowLen 1 a) != Go.Eng.nI (Go.Eng.rowLen 1 b) then k [Go.Eng.DV.v (Go.Eng.SV.one (Go.Eng.At.bool Bool.false))] else f20_0_lp N (fun w0_1 w0_2 w0_3 w0_4 w0_5 w0_6 => k [Go.Eng.DV.v (Go.Eng.SV.one (Go.Eng.At.bool w0_1))]) (fun w1_1 w1_2 w1_3 w1_4 => k [Go.Eng.DV.v (Go.Eng.SV.one (Go.Eng.At.bool Bool.true))]) N 0 a b


noncomputable def E20 (N : Nat) : Env := { Θ := Th, Γ := [], K := K20, ν := N20, fuel := 0, lp := [(0, mkL N20_0 f20_0_sh (f20_0_F N))] }

theorem f20_0_st_eq {R : Type} (N : Nat) (K : X → AS → Option R) (n : Nat) (x1 : Int) (x2 : List Int) (x3 : List Int) : roundsOf (E20 N) N20_0 0 B20_0 K (n + 1) (fill f20_0_sh [.i x1, .l x2, .l x3]) = f20_0_st N (fun x1 x2 x3 => roundsOf (E20 N) N20_0 0 B20_0 K n (fill f20_0_sh [.i x1, .l x2, .l x3])) (fun y1 y2 y3 y4 y5 y6 => K (Go.Eng.X.ret) (fill f20_0_ex1 [.b y1, .b y2, .b y3, .i y4, .l y5, .l y6])) (fun y1 y2 y3 y4 => K (Go.Eng.X.normal) (fill f20_0_ex2 [.b y1, .i y2, .l y3, .l y4])) x1 x2 x3 := by kernel_rfl
theorem f20_0_lp_eq {R : Type} (N : Nat) (K : X → AS → Option R) : ∀ (n : Nat) (x1 : Int) (x2 : List Int) (x3 : List Int), roundsOf (E20 N) N20_0 0 B20_0 K n (fill f20_0_sh [.i x1, .l x2, .l x3]) = f20_0_lp N (fun y1 y2 y3 y4 y5 y6 => K (Go.Eng.X.ret) (fill f20_0_ex1 [.b y1, .b y2, .b y3, .i y4, .l y5, .l y6])) (fun y1 y2 y3 y4 => K (Go.Eng.X.normal) (fill f20_0_ex2 [.b y1, .i y2, .l y3, .l y4])) n x1 x2 x3
  | 0, _, _, _ => rfl
  | n + 1, x1, x2, x3 => by
    rw [f20_0_st_eq, f20_0_lp, show (fun x1 x2 x3 => roundsOf (E20 N) N20_0 0 B20_0 K n (fill f20_0_sh [.i x1, .l x2, .l x3])) = f20_0_lp N (fun y1 y2 y3 y4 y5 y6 => K (Go.Eng.X.ret) (fill f20_0_ex1 [.b y1, .b y2, .b y3, .i y4, .l y5, .l y6])) (fun y1 y2 y3 y4 => K (Go.Eng.X.normal) (fill f20_0_ex2 [.b y1, .i y2, .l y3, .l y4])) n from by funext x1 x2 x3; exact f20_0_lp_eq N K n x1 x2 x3]
theorem f20_0_ok (N : Nat) (hlp : LoopsOk Try.prog (E20 N).lp B20_0) (hΓ : CtxOk Try.prog (E20 N).Γ) : LoopOk Try.prog (mkL N20_0 f20_0_sh (f20_0_F N)) 0 B20_0 := by
  refine loopOk_of (E := E20 N) thOk hΓ mixed hlp ?_
  intro R ls K r h
  unfold f20_0_F at h
  split at h
  · exact ⟨N, by rw [f20_0_lp_eq]; exact h⟩
  · cases h

theorem lok20_0 (N : Nat) (hΓ : CtxOk Try.prog []) : LoopOk Try.prog (mkL N20_0 f20_0_sh (f20_0_F N)) 0 B20_0 := f20_0_ok N (loopsOk_of (l := []) (by kernel_rfl) trivial) hΓ
theorem f20_contract (N : Nat) (hΓ : CtxOk Try.prog []) : Contract Try.prog 20 { sig := S20, impl := fun _ ds k => call (E20 N) S20 26 B20 R20 ds k } :=
  call_contract (E := E20 N) thOk hΓ mixed ok20.look ok20.body ok20.n ok20.rv rfl (by decide) (loopsOk_of (l := [(0, B20_0)]) (by kernel_rfl) (allOk_cons (L := mkL N20_0 f20_0_sh (f20_0_F N)) rfl (lok20_0 N hΓ) trivial))
theorem f20_raw_eq {R : Type} (N : Nat) (a : List Int) (b : List Int) (k : List DV → Option R) : call (E20 N) S20 26 B20 R20 [.lst .u8 1 a, .lst .u8 1 b] k = f20_raw N a b k := by kernel_rfl
end Go.Proofs.Ytiaddnmloonhgaa

/- What rime/rimeplain.CopyBytes comes to. MADE BY PROGRAM (wip/tools/mkfn.py, EngGen.lean). -/
namespace Go.Proofs.Ytiaddnmloonhgaa
open Go Go.Eng
set_option maxRecDepth 100000
set_option linter.unusedVariables false

def f30_raw {R : Type} (N : Nat) (a : List Int) (k : List DV → Option R) : Option R :=
 bif (Go.Eng.rowLen 1 a * 1).ble Go.Eng.big48 && (Go.Eng.rowLen 1 a).ble Go.Eng.big48 then k [Go.Eng.DV.lst Go.IntKind.u8 1 a] else Option.none


noncomputable def E30 (N : Nat) : Env := { Θ := Th, Γ := [], K := K30, ν := N30, fuel := 0, lp := [] }


theorem f30_contract (N : Nat) (hΓ : CtxOk Try.prog []) : Contract Try.prog 30 { sig := S30, impl := fun _ ds k => call (E30 N) S30 8 B30 R30 ds k } :=
  call_contract (E := E30 N) thOk hΓ mixed ok30.look ok30.body ok30.n ok30.rv rfl (by decide) (loopsOk_of (l := []) (by kernel_rfl) trivial)
theorem f30_raw_eq {R : Type} (N : Nat) (a : List Int) (k : List DV → Option R) : call (E30 N) S30 8 B30 R30 [.lst .u8 1 a] k = f30_raw N a k := by kernel_rfl
end Go.Proofs.Ytiaddnmloonhgaa

/- What rime/seal.tag$1 comes to. MADE BY PROGRAM (wip/tools/mkfn.py, EngGen.lean). -/
namespace Go.Proofs.Ytiaddnmloonhgaa
open Go Go.Eng
set_option maxRecDepth 100000
set_option linter.unusedVariables false

def f96_raw {R : Type} (N : Nat) (a : List Int) (k : List DV → Option R) : Option R :=
 bif (Go.Eng.rowLen 1 a * 1).ble Go.Eng.big48 && (Go.Eng.rowLen 1 a).ble Go.Eng.big48 then
 let v0 : Int := Go.IntKind.i64.wrap (16 - (Go.Eng.nI (Go.Eng.rowLen 1 a)).tmod 16);
 bif Go.Eng.okCnt 1 (Option.some (v0.tmod 16)) then
 bif ((2 * (Go.Eng.rowLen 1 a + Go.Eng.rowLen 1 (Go.Eng.zerosOf (Go.Eng.mulE (v0.tmod 16).toNat 1))) + 192) * 1).ble Go.Eng.big48 && (Go.Eng.rowLen 1 a + Go.Eng.rowLen 1 (Go.Eng.zerosOf (Go.Eng.mulE (v0.tmod 16).toNat 1))).ble Go.Eng.big48 then
 let v1 : List Int := a ++ Go.Eng.zerosOf (Go.Eng.mulE (v0.tmod 16).toNat 1);
 k [Go.Eng.DV.lst Go.IntKind.u8 1 v1]
 else Option.none
 else Option.none
else Option.none


noncomputable def E96 (N : Nat) : Env := { Θ := Th, Γ := [], K := K96, ν := N96, fuel := 0, lp := [] }


theorem f96_contract (N : Nat) (hΓ : CtxOk Try.prog []) : Contract Try.prog 96 { sig := S96, impl := fun _ ds k => call (E96 N) S96 13 B96 R96 ds k } :=
  call_contract (E := E96 N) thOk hΓ mixed ok96.look ok96.body ok96.n ok96.rv rfl (by decide) (loopsOk_of (l := []) (by kernel_rfl) trivial)
theorem f96_raw_eq {R : Type} (N : Nat) (a : List Int) (k : List DV → Option R) : call (E96 N) S96 13 B96 R96 [.lst .u8 1 a] k = f96_raw N a k := by kernel_rfl
end Go.Proofs.Ytiaddnmloonhgaa

/- What rime/rimelaw12.num comes to. MADE BY PROGRAM (wip/tools/mkfn.py, EngGen.lean). -/
namespace Go.Proofs.Ytiaddnmloonhgaa
open Go Go.Eng
set_option maxRecDepth 100000
set_option linter.unusedVariables false

def f21_raw {R : Type} (N : Nat) (a : Int) (k : List DV → Option R) : Option R :=
 k [Go.Eng.DV.v (Go.Eng.SV.one (Go.Eng.At.int Go.IntKind.i64 a))]


noncomputable def E21 (N : Nat) : Env := { Θ := Th, Γ := [], K := K21, ν := N21, fuel := 0, lp := [] }


theorem f21_contract (N : Nat) (hΓ : CtxOk Try.prog []) : Contract Try.prog 21 { sig := S21, impl := fun _ ds k => call (E21 N) S21 4 B21 R21 ds k } :=
  call_contract (E := E21 N) thOk hΓ mixed ok21.look ok21.body ok21.n ok21.rv rfl (by decide) (loopsOk_of (l := []) (by kernel_rfl) trivial)
theorem f21_raw_eq {R : Type} (N : Nat) (a : Int) (k : List DV → Option R) : call (E21 N) S21 4 B21 R21 [.v (.one (.int .i64 a))] k = f21_raw N a k := by kernel_rfl
end Go.Proofs.Ytiaddnmloonhgaa

/- Streams; small helpers. -/
namespace Go.Proofs.Ytiaddnmloonhgaa
open Go Go.Eng
set_option maxRecDepth 100000

def lim : Nat := 1099511627776

theorem wrapU64 {n : Nat} (h : n < 2 ^ 62) : IntKind.u64.wrap (n : Int) = n := by
  unfold IntKind.wrap
  simp only [IntKind.bits, IntKind.signed]
  have e : (n : Int) % 2 ^ 64 = n := Int.emod_eq_of_lt (by omega) (by omega)
  simp only [e]
  simp

theorem wrapU32 {n : Nat} (h : n < 4294967296) : IntKind.u32.wrap (n : Int) = n := by
  unfold IntKind.wrap
  simp only [IntKind.bits, IntKind.signed]
  have e : (n : Int) % 2 ^ 32 = n := Int.emod_eq_of_lt (by omega) (by omega)
  simp only [e]
  simp

/-! ### CopyBytes, num -/

def I30 : (R : Type) → List DV → (List DV → Option R) → Option R := fun _ ds k => match ds with
  | [.lst .u8 1 a] => cond (Nat.ble a.length lim) (k [.lst .u8 1 a]) none
  | _ => none

theorem c30 : Contract Try.prog 30 { sig := S30, impl := I30 } := by
  refine Contract.refine fun R ds k r h => ⟨_, f30_contract 0 ctxOk_nil, ?_⟩
  unfold I30 at h
  split at h
  · rename_i a
    rw [f30_raw_eq]
    cases hb : Nat.ble a.length lim with
    | true =>
      rw [hb] at h
      have hb := Nat.le_of_ble_eq_true hb
      unfold f30_raw
      rw [show ((rowLen 1 a * 1).ble big48 && (rowLen 1 a).ble big48) = true by simp [rowLen_one, big48, lim] at *; omega]
      exact h
    | false => rw [hb] at h; cases h
  · cases h

def I21 : (R : Type) → List DV → (List DV → Option R) → Option R := fun _ ds k => match ds with
  | [.v (.one (.int .i64 a))] => k [.v (.one (.int .i64 a))]
  | _ => none

theorem c21 : Contract Try.prog 21 { sig := S21, impl := I21 } := by
  refine Contract.refine fun R ds k r h => ⟨_, f21_contract 0 ctxOk_nil, ?_⟩
  unfold I21 at h
  split at h
  · rw [f21_raw_eq]; exact h
  · cases h

/-! ### pad -/

def padN (n : Nat) : Nat := (16 - n % 16) % 16
def padL (a : List Int) : List Int := a ++ List.replicate (padN a.length) 0

def I96 : (R : Type) → List DV → (List DV → Option R) → Option R := fun _ ds k => match ds with
  | [.lst .u8 1 a] => cond (Nat.ble a.length lim) (k [.lst .u8 1 (padL a)]) none
  | _ => none

theorem c96 : Contract Try.prog 96 { sig := S96, impl := I96 } := by
  refine Contract.refine fun R ds k r h => ⟨_, f96_contract 0 ctxOk_nil, ?_⟩
  unfold I96 at h
  split at h
  · rename_i a
    rw [f96_raw_eq]
    cases hb : Nat.ble a.length lim with
    | true =>
      rw [hb] at h
      have hb := Nat.le_of_ble_eq_true hb
      have hb' : a.length ≤ 1099511627776 := hb
      unfold f96_raw
      have e1 : (nI (rowLen 1 a)).tmod 16 = ((a.length % 16 : Nat) : Int) := (Int.ofNat_tmod a.length 16).symm
      have e2 : IntKind.i64.wrap (16 - ((a.length % 16 : Nat) : Int)) = ((16 - a.length % 16 : Nat) : Int) := wrapI (by omega) (by omega)
      have e3 : (((16 - a.length % 16 : Nat) : Int)).tmod 16 = ((padN a.length : Nat) : Int) := (Int.ofNat_tmod (16 - a.length % 16) 16).symm
      have hp : padN a.length < 16 := Nat.mod_lt _ (by omega)
      rw [show ((rowLen 1 a * 1).ble big48 && (rowLen 1 a).ble big48) = true by simp [rowLen_one, big48]; omega]
      simp only [e1, e2, e3, cond_true, mulE_one, Int.toNat_natCast]
      rw [show okCnt 1 (some ((padN a.length : Nat) : Int)) = true by simp [okCnt]; omega]
      rw [show (((2 * (rowLen 1 a + rowLen 1 (zerosOf (padN a.length))) + 192) * 1).ble big48 && (rowLen 1 a + rowLen 1 (zerosOf (padN a.length))).ble big48) = true by
        simp [rowLen_one, big48, zerosOf]; omega]
      exact h
    | false => rw [hb] at h; cases h
  · cases h

/-! ### SameBytes -/

theorem same_loop {R : Type} {N : Nat} (k1 : Bool → Option R) (a b : List Int) (hl : a.length = b.length) (hb : a.length ≤ lim) :
    ∀ (m i : Nat), i + m = a.length → ∀ fuel, m < fuel → f20_0_lp N (fun y _ _ _ _ _ => k1 y) (fun _ _ _ _ => k1 true) fuel (i : Int) a b = k1 (decide (a.drop i = b.drop i)) := by
  have hb' : a.length ≤ 1099511627776 := hb
  intro m
  induction m with
  | zero =>
    intro i h fuel hf
    obtain ⟨f, rfl⟩ : ∃ f, fuel = f + 1 := ⟨fuel - 1, by omega⟩
    have : i = a.length := by omega
    subst this
    show f20_0_st N (f20_0_lp N _ _ f) _ _ _ a b = _
    unfold f20_0_st
    rw [show decide (((a.length : Nat) : Int) < nI (rowLen 1 a)) = false by simp [rowLen_one]]
    rw [List.drop_length, hl, List.drop_length]
    simp
  | succ m ih =>
    intro i h fuel hf
    obtain ⟨f, rfl⟩ : ∃ f, fuel = f + 1 := ⟨fuel - 1, by omega⟩
    show f20_0_st N (f20_0_lp N _ _ f) _ _ _ a b = _
    unfold f20_0_st
    have h1 : decide ((i : Int) < nI (rowLen 1 a)) = true := by simp [rowLen_one]; omega
    have h2 : (decide ((0 : Int) ≤ (i : Int)) && decide ((i : Int) < nI (rowLen 1 a))) = true := by simp [rowLen_one]; omega
    have h3 : (decide ((0 : Int) ≤ (i : Int)) && decide ((i : Int) < nI (rowLen 1 b))) = true := by simp [rowLen_one]; omega
    have h4 : IntKind.i64.wrap ((i : Int) + 1) = ((i + 1 : Nat) : Int) := wrapI (by omega) (by omega)
    rw [h2, h3, h1]
    simp only [h4, cond_true, mulE_one, Int.toNat_natCast]
    rw [ih (i + 1) (by omega) f (by omega), drop_getD (show i < a.length by omega), drop_getD (show i < b.length by omega)]
    by_cases hx : a.getD i 0 = b.getD i 0
    · rw [hx]; simp
    · have : (a.getD i 0 != b.getD i 0) = true := by simpa using hx
      rw [this]
      simp only [cond_true, List.cons.injEq, hx, false_and, decide_false]

def I20 : (R : Type) → List DV → (List DV → Option R) → Option R := fun _ ds k => match ds with
  | [.lst .u8 1 a, .lst .u8 1 b] => cond (Nat.ble a.length lim) (k [.v (.one (.bool (decide (a = b))))]) none
  | _ => none

theorem c20 : Contract Try.prog 20 { sig := S20, impl := I20 } := by
  refine Contract.refine fun R ds k r h => ?_
  unfold I20 at h
  split at h
  · rename_i a b
    refine ⟨_, f20_contract (a.length + 1) ctxOk_nil, ?_⟩
    rw [f20_raw_eq]
    cases hb : Nat.ble a.length lim with
    | true =>
      rw [hb] at h
      have hb := Nat.le_of_ble_eq_true hb
      unfold f20_raw
      by_cases hl : a.length = b.length
      · rw [show (nI (rowLen 1 a) != nI (rowLen 1 b)) = false by simp [rowLen_one, hl]]
        have := same_loop (N := a.length + 1) (fun y => k [DV.v (SV.one (At.bool y))]) a b hl hb a.length 0 (by omega) (a.length + 1) (by omega)
        exact this.trans h
      · rw [show (nI (rowLen 1 a) != nI (rowLen 1 b)) = true by simpa [rowLen_one, nI, Int.ofNat_inj] using hl]
        rw [show decide (a = b) = false by simp; intro e; exact hl (by rw [e])] at h
        exact h
    | false => rw [hb] at h; cases h
  · exact (Option.some_ne_none _ h.symm).elim

/-! ### Stream -/

/-- what lies upon the byte at i -/
def maskAt (key : List Int) (ctr : Nat) (nonce : List Int) (i : Nat) : Int := (blockL key ((ctr + i / 64 : Nat) : Int) nonce).getD (i % 64) 0

def maskL (f : Nat → Int) (b : List Int) : List Int := b.mapIdx fun i x => xorI .u8 x (f i)

/-- the first so many are done -/
def upTo (f : Nat → Int) (b : List Int) (n : Nat) : List Int := b.mapIdx fun i x => if i < n then xorI .u8 x (f i) else x

theorem upTo_zero (f : Nat → Int) (b : List Int) : upTo f b 0 = b := by
  unfold upTo
  apply List.ext_getElem?
  intro i
  simp

theorem upTo_all (f : Nat → Int) (b : List Int) : upTo f b b.length = maskL f b := by
  unfold upTo maskL
  apply List.ext_getElem?
  intro i
  simp only [List.getElem?_mapIdx]
  cases h : b[i]? with
  | none => rfl
  | some x =>
    have := (List.getElem?_eq_some_iff.1 h).1
    simp [this]

theorem upTo_length (f : Nat → Int) (b : List Int) (n : Nat) : (upTo f b n).length = b.length := by simp [upTo]

theorem upTo_getD (f : Nat → Int) (b : List Int) (n i : Nat) (h : n ≤ i) (hi : i < b.length) : (upTo f b n).getD i 0 = b.getD i 0 := by
  rw [List.getD_eq_getElem?_getD, List.getD_eq_getElem?_getD]
  unfold upTo
  rw [List.getElem?_mapIdx, List.getElem?_eq_getElem hi]
  simp; intro h'; omega

theorem upTo_set (f : Nat → Int) (b : List Int) (n : Nat) (hi : n < b.length) : (upTo f b n).set n (xorI .u8 (b.getD n 0) (f n)) = upTo f b (n + 1) := by
  apply List.ext_getElem?
  intro i
  rw [List.getElem?_set, upTo_length]
  unfold upTo
  rw [List.getElem?_mapIdx, List.getElem?_mapIdx]
  by_cases e : n = i
  · subst e
    rw [if_pos rfl, if_pos hi, List.getElem?_eq_getElem hi, List.getD_eq_getElem?_getD, List.getElem?_eq_getElem hi]
    simp
  · rw [if_neg e]
    cases h : b[i]? with
    | none => rfl
    | some x =>
      simp only [Option.map_some]
      by_cases h1 : i < n
      · rw [if_pos h1, if_pos (by omega)]
      · rw [if_neg h1, if_neg (by omega)]

theorem minI_nat (a b : Nat) : minI (a : Int) (b : Int) = ((min a b : Nat) : Int) := by
  unfold minI
  split <;> omega

theorem xor_loop {R : Type} {N : Nat} (k1 : Bool → Int → Int → Int → List Int → List Int → List Int → List Int → Option R) (f : Nat → Int) (b : List Int) (hb : b.length ≤ lim) (x1 : Int) (at_ : Nat) (hat : at_ ≤ b.length) (x4 x5 blk : List Int)
    (hf : ∀ j, at_ ≤ j → j < at_ + 64 → f j = blk.getD (j - at_) 0) :
    ∀ (m i : Nat), at_ ≤ i → i + m = min (at_ + 64) b.length → ∀ fuel, m < fuel → f16_2_lp N k1 fuel x1 (at_ : Int) (i : Int) x4 x5 blk (upTo f b i) = k1 false x1 (at_ : Int) ((min (at_ + 64) b.length : Nat) : Int) x4 x5 blk (upTo f b (min (at_ + 64) b.length)) := by
  have hb' : b.length ≤ 1099511627776 := hb
  intro m
  induction m with
  | zero =>
    intro i hai h fuel hfu
    obtain ⟨g, rfl⟩ : ∃ g, fuel = g + 1 := ⟨fuel - 1, by omega⟩
    have : i = min (at_ + 64) b.length := by omega
    subst this
    show f16_2_st N (f16_2_lp N k1 g) k1 _ _ _ _ _ _ _ = _
    unfold f16_2_st
    simp only [rowLen_one, upTo_length]
    rw [wrapI (show (at_ : Int) + 64 = ((at_ + 64 : Nat) : Int) by omega) (by omega), minI_nat]
    rw [show decide (((min (at_ + 64) b.length : Nat) : Int) < ((min (at_ + 64) b.length : Nat) : Int)) = false by simp]
    rfl
  | succ m ih =>
    intro i hai h fuel hfu
    obtain ⟨g, rfl⟩ : ∃ g, fuel = g + 1 := ⟨fuel - 1, by omega⟩
    show f16_2_st N (f16_2_lp N k1 g) k1 _ _ _ _ _ _ _ = _
    unfold f16_2_st
    simp only [rowLen_one, upTo_length]
    rw [wrapI (show (at_ : Int) + 64 = ((at_ + 64 : Nat) : Int) by omega) (by omega), minI_nat]
    have h0 : decide ((i : Int) < ((min (at_ + 64) b.length : Nat) : Int)) = true := by simp; omega
    have h1 : (decide ((0 : Int) ≤ (i : Int)) && decide ((i : Int) < nI b.length)) = true := by simp; omega
    have h2 : IntKind.i64.wrap ((i : Int) - (at_ : Int)) = ((i - at_ : Nat) : Int) := wrapI (by omega) (by omega)
    have h3 : (decide ((0 : Int) ≤ ((i - at_ : Nat) : Int)) && decide (((i - at_ : Nat) : Int) < 64)) = true := by simp; omega
    have h4 : IntKind.i64.wrap ((i : Int) + 1) = ((i + 1 : Nat) : Int) := wrapI (by omega) (by omega)
    rw [h0, h1, h2, h3, h4]
    simp only [cond_true, mulE_one, Int.toNat_natCast]
    rw [upTo_getD _ _ _ _ (Nat.le_refl _) (by omega), ← hf i hai (by omega), upTo_set _ _ _ (by omega)]
    exact ih (i + 1) (by omega) (by omega) g (by omega)

theorem stream_loop {R : Type} {N : Nat} (k1 : Bool → Int → Int → List Int → List Int → List Int → Option R) (key nonce : List Int) (ctr : Nat) (b : List Int) (hb : b.length ≤ lim) (hc : ctr + (b.length + 63) / 64 ≤ 4294967296) (hN : 65 ≤ N) :
    ∀ (m q : Nat), (b.length + 63) / 64 ≤ q + m → q ≤ (b.length + 63) / 64 → ∀ fuel, m < fuel → ∃ e : Int, f16_0_lp N k1 fuel (ctr : Int) ((64 * q : Nat) : Int) key nonce (upTo (maskAt key ctr nonce) b (64 * q)) = k1 false (ctr : Int) e key nonce (maskL (maskAt key ctr nonce) b) := by
  have hb' : b.length ≤ 1099511627776 := hb
  intro m
  induction m with
  | zero =>
    intro q h hq fuel hfu
    obtain ⟨g, rfl⟩ : ∃ g, fuel = g + 1 := ⟨fuel - 1, by omega⟩
    refine ⟨((64 * q : Nat) : Int), ?_⟩
    show f16_0_st N (f16_0_lp N k1 g) k1 _ _ _ _ _ = _
    unfold f16_0_st
    simp only [rowLen_one, upTo_length]
    rw [show decide (((64 * q : Nat) : Int) < nI b.length) = false by simp [nI]; omega]
    simp only [cond_false]
    rw [show upTo (maskAt key ctr nonce) b (64 * q) = maskL (maskAt key ctr nonce) b by
      rw [← upTo_all]
      apply List.ext_getElem?
      intro i
      unfold upTo
      rw [List.getElem?_mapIdx, List.getElem?_mapIdx]
      cases hx : b[i]? with
      | none => rfl
      | some x =>
        have := (List.getElem?_eq_some_iff.1 hx).1
        simp only [Option.map_some]
        rw [if_pos (by omega), if_pos this]]
  | succ m ih =>
    intro q h hq fuel hfu
    obtain ⟨g, rfl⟩ : ∃ g, fuel = g + 1 := ⟨fuel - 1, by omega⟩
    by_cases hlt : 64 * q < b.length
    · show ∃ e, f16_0_st N (f16_0_lp N k1 g) k1 _ _ _ _ _ = _
      unfold f16_0_st
      simp only [rowLen_one, upTo_length]
      rw [show decide (((64 * q : Nat) : Int) < nI b.length) = true by simp [nI]; omega]
      have e1 : (((64 * q : Nat) : Int)).tdiv 64 = ((q : Nat) : Int) := by
        rw [show (64 : Int) = ((64 : Nat) : Int) from rfl, ← Int.ofNat_tdiv]; congr 1; omega
      rw [e1, wrapI (n := q) rfl (by omega), wrapU32 (n := q) (by omega)]
      have e2 : IntKind.u32.wrap ((ctr : Int) + (q : Int)) = ((ctr + q : Nat) : Int) := by
        rw [show (ctr : Int) + (q : Int) = ((ctr + q : Nat) : Int) by omega]; exact wrapU32 (by omega)
      rw [e2]
      simp only [cond_true]
      have hx := xor_loop (N := N) (R := R) (fun _ w2 w3 w4 w5 w6 w7 w8 => f16_0_lp N k1 g w2 (IntKind.i64.wrap (w3 + 64)) w5 w6 w8) (maskAt key ctr nonce) b hb (ctr : Int) (64 * q) (by omega) key nonce (blockL key ((ctr + q : Nat) : Int) nonce)
        (fun j h1 h2 => by
          unfold maskAt
          rw [show j / 64 = q by omega, show j % 64 = j - 64 * q by omega])
        (min (64 * q + 64) b.length - 64 * q) (64 * q) (Nat.le_refl _) (by omega) N (by omega)
      obtain ⟨e, he⟩ := ih (q + 1) (by omega) (by omega) g (by omega)
      refine ⟨e, hx.trans ?_⟩
      rw [wrapI (show ((64 * q : Nat) : Int) + 64 = ((64 * (q + 1) : Nat) : Int) by omega) (by omega), ← he]
      congr 1
      -- what is done up to the end
      apply List.ext_getElem?
      intro i
      unfold upTo
      rw [List.getElem?_mapIdx, List.getElem?_mapIdx]
      cases hx : b[i]? with
      | none => rfl
      | some x =>
        have := (List.getElem?_eq_some_iff.1 hx).1
        simp only [Option.map_some]
        by_cases h1 : i < 64 * (q + 1)
        · rw [if_pos h1, if_pos (by omega)]
        · rw [if_neg h1, if_neg (by omega)]
    · exact ⟨((64 * q : Nat) : Int), by
        show f16_0_st N (f16_0_lp N k1 g) k1 _ _ _ _ _ = _
        unfold f16_0_st
        simp only [rowLen_one, upTo_length]
        rw [show decide (((64 * q : Nat) : Int) < nI b.length) = false by simp [nI]; omega]
        simp only [cond_false]
        rw [show upTo (maskAt key ctr nonce) b (64 * q) = maskL (maskAt key ctr nonce) b by
          rw [← upTo_all]
          apply List.ext_getElem?
          intro i
          unfold upTo
          rw [List.getElem?_mapIdx, List.getElem?_mapIdx]
          cases hx : b[i]? with
          | none => rfl
          | some x =>
            have := (List.getElem?_eq_some_iff.1 hx).1
            simp only [Option.map_some]
            rw [if_pos (by omega), if_pos this]]⟩

/-- the stream upon bytes -/
def streamL (key : List Int) (ctr : Nat) (nonce b : List Int) : List Int := maskL (maskAt key ctr nonce) b

def tooFar (ctr : Nat) (n : Nat) : Bool := decide (4294967296 < ctr + (n + 63) / 64)

def I16 : (R : Type) → List DV → (List DV → Option R) → Option R := fun _ ds k => match ds with
  | [.v (.one (.ints .u8 32 key)), .v (.one (.int .u32 ctr)), .v (.one (.ints .u8 12 nonce)), .lst .u8 1 b] =>
    cond (decide (0 ≤ ctr) && (decide (ctr < 4294967296) && Nat.ble b.length lim))
      (cond (tooFar ctr.toNat b.length) (k [.lst .u8 1 [], .v (.one (.int .i64 122))]) (k [.lst .u8 1 (streamL key ctr.toNat nonce b), .v (.one (.int .i64 0))])) none
  | _ => none

theorem c16 : Contract Try.prog 16 { sig := S16, impl := I16 } := by
  refine Contract.refine fun R ds k r h => ?_
  unfold I16 at h
  split at h
  · rename_i key ctr nonce b
    refine ⟨_, f16_contract (b.length + 65) G16_ok, ?_⟩
    rw [f16_raw_eq]
    cases hb : (decide (0 ≤ ctr) && (decide (ctr < 4294967296) && Nat.ble b.length lim)) with
    | false => rw [hb] at h; cases h
    | true =>
      rw [hb] at h
      simp only [Bool.and_eq_true, decide_eq_true_eq] at hb
      obtain ⟨h1, h2, h3⟩ := hb
      have h3 := Nat.le_of_ble_eq_true h3
      have h3' : b.length ≤ 1099511627776 := h3
      obtain ⟨c, rfl⟩ : ∃ c : Nat, ctr = c := ⟨ctr.toNat, by omega⟩
      simp only [Int.toNat_natCast, cond_true] at h
      unfold f16_raw
      have e1 : IntKind.u64.wrap (c : Int) = ((c : Nat) : Int) := wrapU64 (by omega)
      have e2 : IntKind.i64.wrap (nI (rowLen 1 b) + 63) = ((b.length + 63 : Nat) : Int) := wrapI (by simp [rowLen_one]) (by omega)
      have e3 : IntKind.u64.wrap ((b.length + 63 : Nat) : Int) = ((b.length + 63 : Nat) : Int) := wrapU64 (by omega)
      have e4 : (((b.length + 63 : Nat) : Int)).tdiv 64 = (((b.length + 63) / 64 : Nat) : Int) := (Int.ofNat_tdiv (b.length + 63) 64).symm
      have e5 : IntKind.u64.wrap (((b.length + 63) / 64 : Nat) : Int) = (((b.length + 63) / 64 : Nat) : Int) := wrapU64 (by omega)
      have e6 : IntKind.u64.wrap ((c : Int) + (((b.length + 63) / 64 : Nat) : Int)) = ((c + (b.length + 63) / 64 : Nat) : Int) := by
        rw [show (c : Int) + (((b.length + 63) / 64 : Nat) : Int) = ((c + (b.length + 63) / 64 : Nat) : Int) by omega]; exact wrapU64 (by omega)
      simp only [e1, e2, e3, e4, e5, e6]
      cases ht : tooFar c b.length with
      | true =>
        rw [ht] at h
        rw [show decide (((c + (b.length + 63) / 64 : Nat) : Int) > 4294967296) = true by simp [tooFar] at ht ⊢; omega]
        exact h
      | false =>
        rw [ht] at h
        have hc : c + (b.length + 63) / 64 ≤ 4294967296 := by simp [tooFar] at ht; exact ht
        rw [show decide (((c + (b.length + 63) / 64 : Nat) : Int) > 4294967296) = false by simp; omega]
        rw [show ((rowLen 1 b * 1).ble big48 && (rowLen 1 b).ble big48) = true by simp [rowLen_one, big48]; omega]
        simp only [cond_true, cond_false] at h ⊢
        obtain ⟨e, he⟩ := stream_loop (N := b.length + 65) (fun _ _ _ _ _ y6 => k [DV.lst IntKind.u8 1 y6, DV.v (SV.one (At.int IntKind.i64 0))]) key nonce c b h3 hc (by omega) ((b.length + 63) / 64) 0 (by omega) (by omega) (b.length + 65) (by omega)
        rw [Nat.mul_zero, upTo_zero] at he
        exact he.trans h
  · exact (Option.some_ne_none _ h.symm).elim

end Go.Proofs.Ytiaddnmloonhgaa

/- The tag of bytes. -/
namespace Go.Proofs.Ytiaddnmloonhgaa
open Go Go.Eng
set_option maxRecDepth 100000

def setAnd (x : List Int) (i : Nat) (m : Int) : List Int := x.set i (andI .u8 (x.getD i 0) m)
def clampA (x : List Int) : List Int := setAnd (setAnd (setAnd (setAnd x 3 15) 7 15) 11 15) 15 15
def clampB (x : List Int) : List Int := setAnd (setAnd (setAnd x 4 252) 8 252) 12 252

theorem clampA_loop {R : Type} (N n : Nat) (k1 : Bool → Int → Int → List Int → List Int → List Int → List Int → List Int → Option R) (x3 x4 x5 x6 : List Int) :
    f24_0_lp N k1 (n + 5) 4 0 x3 x4 x5 x6 [3, 7, 11, 15] = k1 false 4 4 x3 x4 x5 (clampA x6) [3, 7, 11, 15] := by kernel_rfl

theorem clampB_loop {R : Type} (N n : Nat) (k1 : Bool → Int → Int → List Int → List Int → List Int → List Int → List Int → Option R) (x3 x4 x5 x6 : List Int) :
    f24_2_lp N k1 (n + 4) 3 0 x3 x4 x5 x6 [4, 8, 12] = k1 false 3 3 x3 x4 x5 (clampB x6) [4, 8, 12] := by kernel_rfl

def setAdd (s p : List Int) (i : Nat) : List Int := s.set i (IntKind.u64.wrap (s.getD i 0 + p.getD i 0))
def addL (s p : List Int) : List Int := setAdd (setAdd (setAdd (setAdd (setAdd s p 0) p 1) p 2) p 3) p 4

theorem add_loop {R : Type} (N n : Nat) (k1 : Bool → Int → List Int → Int → List Int → List Int → List Int → List Int → List Int → Option R) (x1 : Int) (x2 x4 x5 x6 x7 x8 : List Int) :
    f24_6_lp N k1 (n + 6) x1 x2 0 x4 x5 x6 x7 x8 = k1 false x1 x2 5 x4 x5 x6 x7 (addL x8 x2) := by kernel_rfl

/-- a piece of at most 16 bytes, with the one behind it -/
def pieceL (c : List Int) : List Int := (c ++ (List.replicate 17 0).drop c.length).set c.length 1

def macGo (r b : List Int) : Nat → Nat → List Int → List Int
  | 0, _, s => s
  | m + 1, i, s => macGo r b m (i + 16) (timesL (addL s (limbsL (pieceL ((b.drop i).take 16)))) r)

theorem mac_loop {R : Type} {N : Nat} (k1 : Bool → Int → List Int → List Int → List Int → List Int → List Int → Option R) (b x3 x4 r : List Int) (hb : b.length ≤ lim) (hN : 6 ≤ N) :
    ∀ (m q : Nat) (s : List Int), q + m = (b.length + 15) / 16 → ∀ fuel, m < fuel → ∃ e : Int, f24_4_lp N k1 fuel ((16 * q : Nat) : Int) b x3 x4 r s = k1 false e b x3 x4 r (macGo r b m (16 * q) s) := by
  have hb' : b.length ≤ 1099511627776 := hb
  intro m
  induction m with
  | zero =>
    intro q s h fuel hfu
    obtain ⟨g, rfl⟩ : ∃ g, fuel = g + 1 := ⟨fuel - 1, by omega⟩
    refine ⟨((16 * q : Nat) : Int), ?_⟩
    show f24_4_st N (f24_4_lp N k1 g) k1 _ _ _ _ _ _ = _
    unfold f24_4_st
    rw [show decide (((16 * q : Nat) : Int) < nI (rowLen 1 b)) = false from decide_eq_false (by show ¬ ((16 * q : Nat) : Int) < (b.length : Int); omega)]
    rfl
  | succ m ih =>
    intro q s h fuel hfu
    obtain ⟨g, rfl⟩ : ∃ g, fuel = g + 1 := ⟨fuel - 1, by omega⟩
    show ∃ e, f24_4_st N (f24_4_lp N k1 g) k1 _ _ _ _ _ _ = _
    unfold f24_4_st
    have hlt : 16 * q < b.length := by omega
    rw [show decide (((16 * q : Nat) : Int) < nI (rowLen 1 b)) = true from decide_eq_true (by show ((16 * q : Nat) : Int) < (b.length : Int); omega)]
    have e0 : Go.Eng.sub b (plusO .z 1 (some ((16 * q : Nat) : Int))) (mulE (subN (hiNat none (rowLen 1 b)) (some ((16 * q : Nat) : Int))) 1) = b.drop (16 * q) := by
      show (b.drop (16 * q)).take (b.length - 16 * q) = _
      rw [List.take_of_length_le]; simp
    rw [show loOk (some ((16 * q : Nat) : Int)) (hiInt none (rowLen 1 b)) = true from loOk_nat (by simp [hiInt, rowLen_one]; omega)]
    rw [e0]
    simp only [cond_true]
    have e1 : min (rowLen 1 (b.drop (16 * q))) (subN (hiNat (some 16) 17) none) = ((b.drop (16 * q)).take 16).length := by
      rw [List.length_take, Nat.min_comm, rowLen_one]; rfl
    rw [e1]
    have hl16 : ((b.drop (16 * q)).take 16).length ≤ 16 := List.length_take_le _ _
    have e2 : List.take (mulE ((b.drop (16 * q)).take 16).length 1) (b.drop (16 * q)) = (b.drop (16 * q)).take 16 := by
      rw [mulE_one, List.length_take, List.take_eq_take_iff]; omega
    rw [show (decide ((0 : Int) ≤ nI ((b.drop (16 * q)).take 16).length) && decide (nI ((b.drop (16 * q)).take 16).length < 17)) = true by simp [nI]; omega]
    rw [e2, cond_true]
    have e3 : (splice (List.replicate 17 0) (plusO .z 1 none) ((b.drop (16 * q)).take 16)).set (mulE (nI ((b.drop (16 * q)).take 16).length).toNat 1) 1 = pieceL ((b.drop (16 * q)).take 16) := by
      rw [mulE_one, nI, Int.toNat_natCast]; rfl
    rw [e3]
    obtain ⟨e, he⟩ := ih (q + 1) (timesL (addL s (limbsL (pieceL ((b.drop (16 * q)).take 16)))) r) (by omega) g (by omega)
    refine ⟨e, ?_⟩
    obtain ⟨M, rfl⟩ : ∃ M, N = M + 6 := ⟨N - 6, by omega⟩
    refine (add_loop _ _ _ _ _ _ _ _ _ _).trans ?_
    rw [wrapI (show ((16 * q : Nat) : Int) + 16 = ((16 * (q + 1) : Nat) : Int) by omega) (by omega), he]
    rfl

/-! ### the digits -/

def digRun (key b' w : List Int) : Option (List Int) := f24_8_lp 20 (fun _ _ _ _ _ _ y7 => some y7) 20 0 0 key b' w (List.replicate 16 0)

theorem dig_some (key b' w : List Int) : (digRun key b' w).isSome = true := by kernel_rfl

theorem dig_match {R : Type} (M : Nat) (k1 : List Int → Option R) (key b' w : List Int) : f24_8_lp (M + 40) (fun _ _ _ _ _ _ y7 => k1 y7) (M + 40) 0 0 key b' w (List.replicate 16 0) = match digRun key b' w with | some o => k1 o | none => none := by kernel_rfl

def digL (key b' w : List Int) : List Int := (digRun key b' w).getD []

theorem dig_loop {R : Type} (M : Nat) (k1 : List Int → Option R) (key b' w : List Int) : f24_8_lp (M + 40) (fun _ _ _ _ _ _ y7 => k1 y7) (M + 40) 0 0 key b' w (List.replicate 16 0) = k1 (digL key b' w) := by
  rw [dig_match]
  have := dig_some key b' w
  unfold digL
  cases h : digRun key b' w with
  | none => rw [h] at this; cases this
  | some o => rfl

def halfL (key : List Int) : List Int :=
  limbsL (clampB (clampA (Go.Eng.splice (List.replicate 17 0) (plusO .z 1 none) (List.take (mulE (min (rowLen 1 (Go.Eng.sub key (plusO .z 1 none) (mulE (subN (hiNat (some 16) 32) none) 1))) (subN (hiNat none 17) none)) 1) (Go.Eng.sub key (plusO .z 1 none) (mulE (subN (hiNat (some 16) 32) none) 1))))))

def macL (key b : List Int) : List Int :=
  digL key (List.replicate 16 0) (wholeL (macGo (halfL key) b ((b.length + 15) / 16) 0 (List.replicate 5 0)))

theorem f24_spec {R : Type} (key b : List Int) (k : List DV → Option R) (hb : b.length ≤ lim) : f24_raw (b.length + 40) key b k = k [.v (.one (.ints .u8 16 (macL key b)))] := by
  unfold f24_raw
  refine (clampA_loop (b.length + 40) (b.length + 35) _ b key (List.replicate 16 0) _).trans ?_
  refine (clampB_loop (b.length + 40) (b.length + 36) _ b key (List.replicate 16 0) _).trans ?_
  obtain ⟨e, he⟩ := mac_loop (R := R) (N := b.length + 40) (fun w12_1 w12_2 w12_3 w12_4 w12_5 w12_6 w12_7 => f24_8_lp (b.length + 40) (fun w13_1 w13_2 w13_3 w13_4 w13_5 w13_6 w13_7 => k [DV.v (SV.one (At.ints IntKind.u8 16 w13_7))]) (b.length + 40) 0 0 w12_4 w12_5 (wholeL w12_7) (List.replicate 16 0)) b key (List.replicate 16 0) (halfL key) hb (by omega) ((b.length + 15) / 16) 0 (List.replicate 5 0) (by omega) (b.length + 40) (by omega)
  refine he.trans ?_
  exact dig_loop b.length (fun o => k [.v (.one (.ints .u8 16 o))]) _ _ _

def I24 : (R : Type) → List DV → (List DV → Option R) → Option R := fun _ ds k => match ds with
  | [.v (.one (.ints .u8 32 key)), .lst .u8 1 b] => cond (Nat.ble b.length lim) (k [.v (.one (.ints .u8 16 (macL key b)))]) none
  | _ => none

theorem c24 : Contract Try.prog 24 { sig := S24, impl := I24 } := by
  refine Contract.refine fun R ds k r h => ?_
  unfold I24 at h
  split at h
  · rename_i key b
    refine ⟨_, f24_contract (b.length + 40) G24_ok, ?_⟩
    rw [f24_raw_eq]
    cases hb : Nat.ble b.length lim with
    | true => rw [hb] at h; rw [f24_spec key b k (Nat.le_of_ble_eq_true hb)]; exact h
    | false => rw [hb] at h; cases h
  · exact (Option.some_ne_none _ h.symm).elim

def G67 : Ctx := [(18, { sig := S18, impl := I18 }), (24, { sig := S24, impl := I24 }), (44, { sig := S44, impl := I44 }), (96, { sig := S96, impl := I96 })]
theorem G67_ok : CtxOk Try.prog G67 := ctxOk_cons ok18 rfl c18 (ctxOk_cons ok24 rfl c24 (ctxOk_cons ok44 rfl c44 (ctxOk_cons ok96 rfl c96 ctxOk_nil)))

end Go.Proofs.Ytiaddnmloonhgaa

/- What rime/seal.tag comes to. MADE BY PROGRAM (wip/tools/mkfn.py, EngGen.lean). -/
namespace Go.Proofs.Ytiaddnmloonhgaa
open Go Go.Eng
set_option maxRecDepth 100000
set_option linter.unusedVariables false

def f67_raw {R : Type} (N : Nat) (key : List Int) (nonce : List Int) (a : List Int) (b : List Int) (k : List DV → Option R) : Option R :=
 bif a.length.ble Go.Proofs.Ytiaddnmloonhgaa.lim then
 bif b.length.ble Go.Proofs.Ytiaddnmloonhgaa.lim then
 bif ((2 * (Go.Eng.rowLen 1 (Go.Proofs.Ytiaddnmloonhgaa.padL a) + Go.Eng.rowLen 1 (Go.Proofs.Ytiaddnmloonhgaa.padL b)) + 192) * 1).ble Go.Eng.big48 && (Go.Eng.rowLen 1 (Go.Proofs.Ytiaddnmloonhgaa.padL a) + Go.Eng.rowLen 1 (Go.Proofs.Ytiaddnmloonhgaa.padL b)).ble Go.Eng.big48 then
 let v0 : List Int := Go.Proofs.Ytiaddnmloonhgaa.padL a ++ Go.Proofs.Ytiaddnmloonhgaa.padL b;
 let v1 : Int := Go.IntKind.u64.wrap (Go.Eng.nI (Go.Eng.rowLen 1 a));
 bif ((2 * (Go.Eng.rowLen 1 v0 + Go.Eng.rowLen 1 (Go.Proofs.Ytiaddnmloonhgaa.bytesL v1 (Int.toNat 8))) + 192) * 1).ble Go.Eng.big48 && (Go.Eng.rowLen 1 v0 + Go.Eng.rowLen 1 (Go.Proofs.Ytiaddnmloonhgaa.bytesL v1 (Int.toNat 8))).ble Go.Eng.big48 then
 let v2 : List Int := v0 ++ Go.Proofs.Ytiaddnmloonhgaa.bytesL v1 (Int.toNat 8);
 let v3 : Int := Go.IntKind.u64.wrap (Go.Eng.nI (Go.Eng.rowLen 1 b));
 bif ((2 * (Go.Eng.rowLen 1 v2 + Go.Eng.rowLen 1 (Go.Proofs.Ytiaddnmloonhgaa.bytesL v3 (Int.toNat 8))) + 192) * 1).ble Go.Eng.big48 && (Go.Eng.rowLen 1 v2 + Go.Eng.rowLen 1 (Go.Proofs.Ytiaddnmloonhgaa.bytesL v3 (Int.toNat 8))).ble Go.Eng.big48 then
 let v4 : List Int := v2 ++ Go.Proofs.Ytiaddnmloonhgaa.bytesL v3 (Int.toNat 8);
 bif v4.length.ble Go.Proofs.Ytiaddnmloonhgaa.lim then k [Go.Eng.DV.v (Go.Eng.SV.one (Go.Eng.At.ints Go.IntKind.u8 16 (Go.Proofs.Ytiaddnmloonhgaa.macL (List.take 32 (List.drop 0 (Go.Proofs.Ytiaddnmloonhgaa.blockL key 0 nonce))) v4)))] else Option.none
 else Option.none
 else Option.none
 else Option.none
 else Option.none
else Option.none


noncomputable def E67 (N : Nat) : Env := { Θ := Th, Γ := G67, K := K67, ν := N67, fuel := 0, lp := [] }


theorem f67_contract (N : Nat) (hΓ : CtxOk Try.prog G67) : Contract Try.prog 67 { sig := S67, impl := fun _ ds k => call (E67 N) S67 39 B67 R67 ds k } :=
  call_contract (E := E67 N) thOk hΓ mixed ok67.look ok67.body ok67.n ok67.rv rfl (by decide) (loopsOk_of (l := []) (by kernel_rfl) trivial)
theorem f67_raw_eq {R : Type} (N : Nat) (key : List Int) (nonce : List Int) (a : List Int) (b : List Int) (k : List DV → Option R) : call (E67 N) S67 39 B67 R67 [.v (.one (.ints .u8 32 key)), .v (.one (.ints .u8 12 nonce)), .lst .u8 1 a, .lst .u8 1 b] k = f67_raw N key nonce a b k := by kernel_rfl
end Go.Proofs.Ytiaddnmloonhgaa

