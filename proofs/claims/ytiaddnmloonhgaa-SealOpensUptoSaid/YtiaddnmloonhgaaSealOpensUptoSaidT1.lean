/- A part of the proof: SealOpens, for every case of bulk at most 1,048,576: what the document seals, with one byte turned, opens as the document says; as a box, too. -/
import Derived.Test.YtiaddnmloonhgaaSealOpensUptoSaidT0
import Derived.Orders
set_option linter.unusedVariables false
set_option linter.unusedSimpArgs false

/- The engine, part N: append and copy. -/
namespace Go.Eng
open Go

theorem growBy_le (newLen : Nat) : ∀ (r c : Nat), c < newLen → Builtin.growBy newLen r c ≤ newLen + (newLen + 768) / 4
  | 0, c, h => by simp only [Builtin.growBy]; omega
  | r + 1, c, h => by
    simp only [Builtin.growBy]
    rw [if_neg (by omega)]
    by_cases h2 : c + (c + 768) / 4 < newLen
    · exact growBy_le newLen r _ h2
    · cases r with
      | zero => simp only [Builtin.growBy]; omega
      | succ r =>
        simp only [Builtin.growBy]
        rw [if_pos (by omega)]; omega

theorem nextslicecap_le {need cap : Nat} (h : cap < need) : Builtin.nextslicecap need cap ≤ 2 * need + 192 := by
  unfold Builtin.nextslicecap
  split
  · omega
  · split
    · omega
    · have := growBy_le need 4 cap h; omega

theorem nextslicecap_zero {need : Nat} (h : 0 < need) : Builtin.nextslicecap need 0 = need := by
  unfold Builtin.nextslicecap
  rw [if_pos (by omega)]

theorem rl_zero (es : Nat) : rl es 0 = 0 := by unfold rl; split <;> simp

/-- what a slice's numbers are, where -/
structure SrcAt (k : IntKind) (es : Nat) (X : Value) (ys : List Int) (m : Nat) (l : Option (Nat × Nat)) (w : World) : Prop where
  val : ∃ A c, X = .slice A m c ∧ m ≤ c ∧ (0 < m → A = l.map (adr · 0))
  len : ys.length = m * es
  pos : 0 < es
  view : ViewAt k ys l w

theorem ViewAt.load {P : Program} {k : IntKind} {ys : List Int} {p : Nat × Nat} {w w' : World} (h : ViewAt k ys (some p) w) (hw : w'.heap = w.heap) : (loadCells (adr p 0) ys.length).run P w' = .ok (ys.map (Value.int k)).toArray w' := by
  have := run_loadCells_list (P := P) w' (adr p 0) (ys.map (Value.int k)) (fun j u hu => by
    rw [List.getElem?_map] at hu
    simp only [Option.map_eq_some_iff] at hu
    obtain ⟨x, hx, rfl⟩ := hu
    obtain ⟨q, e1, e2⟩ := h j x hx
    injection e1 with e1; subst e1
    rw [adr_add, Nat.zero_add]
    unfold World.cell? at e2 ⊢
    rw [hw]; exact e2)
  simpa using this

theorem SrcAt.first {P : Program} {k : IntKind} {es : Nat} {X : Value} {ys : List Int} {m : Nat} {l : Option (Nat × Nat)} {w w' : World} (h : SrcAt k es X ys m l w) (hw : w'.heap = w.heap) : (Builtin.firstCells es m X).run P w' = .ok (ys.map (Value.int k)).toArray w' := by
  obtain ⟨A, c, rfl, hc, hA⟩ := h.val
  by_cases hm : m = 0
  · subst hm
    have hy : ys = [] := List.eq_nil_of_length_eq_zero (by rw [h.len]; simp)
    subst hy
    cases A <;> simp [Builtin.firstCells, loadCells, loadCellsFrom]
  · have hA := hA (by omega)
    have hpos : 0 < ys.length := by rw [h.len]; exact Nat.mul_pos (by omega) h.pos
    obtain ⟨p, hp, _⟩ := h.view 0 ys[0] (List.getElem?_eq_getElem hpos)
    subst hp
    rw [hA]
    simp only [Option.map_some, Builtin.firstCells]
    rw [← h.len]
    exact h.view.load hw

/-- the first n elements -/
theorem SrcAt.firstN {P : Program} {k : IntKind} {es : Nat} {X : Value} {ys : List Int} {m n : Nat} {l : Option (Nat × Nat)} {w w' : World} (h : SrcAt k es X ys m l w) (hn : n ≤ m) (hw : w'.heap = w.heap) : (Builtin.firstCells es n X).run P w' = .ok ((ys.take (n * es)).map (Value.int k)).toArray w' := by
  obtain ⟨A, c, rfl, hc, hA⟩ := h.val
  by_cases hm : n = 0
  · subst hm
    cases A <;> simp [Builtin.firstCells, loadCells, loadCellsFrom]
  · have hA := hA (by omega)
    have hpos : 0 < ys.length := by rw [h.len]; exact Nat.mul_pos (by omega) h.pos
    obtain ⟨p, hp, _⟩ := h.view 0 ys[0] (List.getElem?_eq_getElem hpos)
    subst hp
    rw [hA]
    simp only [Option.map_some, Builtin.firstCells]
    have hlen : (ys.take (n * es)).length = n * es := by
      rw [List.length_take, h.len]
      have := Nat.mul_le_mul_right es hn
      omega
    have hv : ViewAt k (ys.take (n * es)) (some p) w := by
      intro i x hx
      refine h.view i x ?_
      rw [List.getElem?_take] at hx
      split at hx
      · exact hx
      · cases hx
    have := hv.load (P := P) hw
    rw [hlen] at this
    exact this

section
variable {P : Program} {Γ : Ctx} {Θ : Types} {s : AS} {o : Oper} {d : Delta} {I : Nat → Option Item}

theorem srcNil (k : IntKind) {es : Nat} (h : 0 < es) (w : World) : SrcAt k es (.slice none 0 0) [] 0 none w :=
  ⟨⟨none, 0, rfl, Nat.le_refl _, by simp⟩, by simp, h, fun i x hx => by simp at hx⟩

theorem sliceData_ok {w0 : World} {Mu : MuT} {ρ : Rho} {a : Act} {w : World} (hs : Sim w0 Mu ρ s a w) (hI : ∀ n it, I n = some it → s.I n = some it) {es : Nat} {x : At} {X : Value} {k : IntKind} {ys : List Int}
    (h : sliceData I es x = some (k, ys)) (r : RelSV ρ s.S (.one x) X) : ∃ m l, SrcAt k es X ys m l w ∧ sliceLen I es x = some m ∧ (∀ q, l = some q → ∃ n p it, n ∈ x.names ∧ s.I n = some it ∧ ρ.loc n = some p ∧ q.1 = p.1) := by
  cases x <;> simp only [sliceData] at h <;> try (cases h; done)
  · rename_i n
    have fin : ∀ it k' e zs, I n = some it → it.content 0 = some (k', zs) → sliceLen I es (.own n) = some (rowLen e zs) → e = es → 0 < e → (∃ mm, zs.length = mm * e) → k' = k → zs = ys → (∃ A c, X = .slice A (rowLen e zs) c ∧ rowLen e zs ≤ c ∧ (0 < rowLen e zs → A = (ρ.loc n).map (adr · 0))) →
        ∃ m l, SrcAt k es X ys m l w ∧ sliceLen I es (.own n) = some m ∧ (∀ q, l = some q → ∃ n' p it, n' ∈ (At.own n).names ∧ s.I n' = some it ∧ ρ.loc n' = some p ∧ q.1 = p.1) := by
      intro it k' e zs hi hc hsl he hp ⟨mm, hm⟩ hk hz ⟨A, c, hX, hc', hA⟩
      subst he; subst hk; subst hz
      have hlen : zs.length = rowLen e zs * e := by rw [rowLen_eq, hm, rl_mul hp]
      refine ⟨rowLen e zs, ρ.loc n, ⟨⟨A, c, hX, hc', hA⟩, hlen, hp, ?_⟩, hsl, ?_⟩
      · intro i x hx
        obtain ⟨p, h1, h2⟩ := ((hs.hold n it (hI _ _ hi)).content hc).2 i x hx
        exact ⟨p, h1, by rw [Nat.zero_add] at h2; exact h2⟩
      · intro q hq
        exact ⟨n, q, it, by simp [At.names], hI _ _ hi, hq, rfl⟩
    have r' : RelAt ρ s.S (.own n) [X] := r
    simp only [RelAt] at r'
    split at h
    · rename_i k' e zs hi
      split at h
      · rename_i hb
        injection h with h; injection h with h1 h2
        have hi' := hI _ _ hi
        rw [S_of hi'] at r'
        simp only [Item.shape, List.cons.injEq, and_true] at r'
        obtain ⟨c, e1, e2, e3, _⟩ := r'
        obtain ⟨p0, pm, _⟩ := hs.hold _ _ hi'
        exact fin _ k' e zs hi rfl (by simp [sliceLen, hi, hb]) (beqT hb) p0 pm h1 h2 ⟨_, c, e1, e2, fun _ => rfl⟩
      · cases h
    · rename_i k' e zs hi
      split at h
      · rename_i hb
        injection h with h; injection h with h1 h2
        have hi' := hI _ _ hi
        rw [S_of hi'] at r'
        simp only [Item.shape, List.cons.injEq, and_true] at r'
        obtain ⟨A, c, e1, e2, e3⟩ := r'
        obtain ⟨p0, pm, _⟩ := hs.hold _ _ hi'
        exact fin _ k' e zs hi rfl (by simp [sliceLen, hi, hb]) (beqT hb) p0 pm h1 h2 ⟨_, c, e1, e2, fun hp => e3 (by
          rcases Nat.eq_zero_or_pos zs.length with h0 | h0
          · rw [rowLen_eq, h0] at hp; simp [rl_zero] at hp
          · exact h0)⟩
      · cases h
    · cases h
  · rename_i n b f e len c
    split at h
    · rename_i it hi
      split at h
      · rename_i k' zs hc
        split at h
        · rename_i hb
          injection h with h; injection h with h1 h2; subst h1; subst h2
          have he := beqT hb; subst he
          obtain ⟨A, c', e1, e2, e3, e4, e5, e6⟩ := r
          simp only [List.cons.injEq, and_true] at e1
          have hi' := hI _ _ hi
          obtain ⟨hL, hcell⟩ := (hs.hold n it hi').content hc
          have hle := e6 _ (S_of hi') _ hL
          have hsub : sub zs f (mulE len e) = (zs.drop f.val).take (len * e) := by
            rw [mulE_eq]; cases f <;> simp [sub, Off.val]
          have hlen : (sub zs f (mulE len e)).length = len * e := by rw [hsub]; simp; omega
          by_cases hz : len = 0
          · subst hz
            have hnil : sub zs f (mulE 0 e) = [] := List.eq_nil_of_length_eq_zero (by rw [hlen]; simp)
            exact ⟨0, none, ⟨⟨A, c', e1, e2, by simp⟩, hlen, e5, by rw [hnil]; intro i x hx; simp at hx⟩, by simp [sliceLen], by simp⟩
          · obtain ⟨p, hp, hA⟩ := e4 (by omega)
            refine ⟨len, some (p.1, p.2 + (b + f.val)), ⟨⟨A, c', e1, e2, fun _ => by rw [hA]; simp [adr]⟩, hlen, e5, ?_⟩, by simp [sliceLen], ?_⟩
            · intro i x hx
              rw [hsub, List.getElem?_take] at hx
              split at hx
              · rw [List.getElem?_drop] at hx
                obtain ⟨q, h1, h2⟩ := hcell _ _ hx
                rw [hp] at h1; injection h1 with h1; subst h1
                refine ⟨_, rfl, ?_⟩
                rw [← h2]; congr 1; simp [adr]; omega
              · cases hx
            · intro q hq
              injection hq with hq; subst hq
              exact ⟨n, p, it, by simp [At.names], hi', hp, rfl⟩
        · cases h
      · cases h
    · cases h

/-! ### append's two ways -/

/-- what the operand to be appended is -/
structure Src (P : Program) (k : IntKind) (e : TypeId) (ei : TI) (ts : Array TypeId) (X : Value) (ys : List Int) (m : Nat) (w : World) : Prop where
  len : ys.length = m * ei.size
  slc : (∃ t1 e1, ts[1]? = some t1 ∧ P.underlying t1 = some (.slice e1) ∧ (∃ A c, X = .slice A m c) ∧ ∀ w' : World, w'.heap = w.heap → (Builtin.firstCells ei.size m X).run P w' = .ok (ys.map (Value.int k)).toArray w') ∨
    (∃ t1, ts[1]? = some t1 ∧ P.underlying t1 = some (.int .i64) ∧ X = .int .i64 m ∧ (m : Int) * ei.bytes ≤ 281474976710656 ∧ (m : Int) ≤ 281474976710656 ∧ ys = zerosOf (m * ei.size))

theorem zeroCells_eq {k : IntKind} {sz : Nat} (h : 0 < sz) (n : Nat) : Builtin.zeroCells (List.replicate sz (Value.int k 0)).toArray n = ((zerosOf (n * sz)).map (Value.int k)).toArray := by
  have := zeros_map k n sz h
  unfold Builtin.zeroCells
  rw [← this]
  simp

theorem append_room {k : IntKind} {t e : TypeId} {ei : TI} {ts : Array TypeId} {ty : TypeId} {X : Value} {ys : List Int} {m : Nat} {w : World} (h0 : ts[0]? = some t) (ht : P.underlying t = some (.slice e)) (hok : TyOk P e ei) (hk : elemKind ei = some k)
    (src : Src P k e ei ts X ys m w) (base : Option Addr) (sLen sCap : Nat) (hroom : sLen + m ≤ sCap) (w' : World)
    (hst : match base with | none => w' = w | some a => (storeCells (a.add (sLen * ei.size)) (ys.map (Value.int k))).run P w = .ok () w') :
    (Builtin.append_ ts ty #[.slice base sLen sCap, X]).run P w = .ok (.slice base (sLen + m) sCap) w' := by
  obtain ⟨i, z, h1, h2, h3, h4, h5, hpos⟩ := elemKind_zero hok hk
  rcases src.slc with ⟨t1, e1, g1, g2, ⟨A, c, rfl⟩, g4⟩ | ⟨t1, g1, g2, rfl, g4, g6, g5⟩
  · have g4 := g4 w rfl
    cases base with
    | none =>
      subst hst
      simp [Builtin.append_, h0, g1, run_underlying ht, run_underlying g2, run_sizeOf hok, Builtin.lenOf, hroom, g4]
    | some a =>
      simp only at hst
      simp [Builtin.append_, h0, g1, run_underlying ht, run_underlying g2, run_sizeOf hok, Builtin.lenOf, hroom, g4, hst]
  · have hwm : IntKind.i64.wrap (m : Int) = m := wrap_small _ (by omega) g6
    have hb : ¬ ((m : Int) * (i.bytes : Int) > 2 ^ 48) := by
      rw [h4]
      have e : (2 ^ 48 : Int) = 281474976710656 := by decide
      rw [e]; omega
    have hzc : Builtin.zeroCells z.cells m = ((zerosOf (m * ei.size)).map (Value.int k)).toArray := by rw [h5]; exact zeroCells_eq hpos m
    cases base with
    | none =>
      subst hst
      by_cases hz : m * ei.size = 0
      · simp [Builtin.append_, h0, g1, run_underlying ht, run_underlying g2, run_sizeOf hok, hroom, asInt, asIntOf, hwm, show ¬ ((m : Int) < 0) by omega, run_typeInfo h1, h4, show ¬ (281474976710656 < (m : Int) * ei.bytes) by omega, hz]
      · simp [Builtin.append_, h0, g1, run_underlying ht, run_underlying g2, run_sizeOf hok, hroom, asInt, asIntOf, hwm, show ¬ ((m : Int) < 0) by omega, run_typeInfo h1, h4, show ¬ (281474976710656 < (m : Int) * ei.bytes) by omega, hz, zeroValue, h2, hzc]
    | some a =>
      simp only at hst
      by_cases hz : m * ei.size = 0
      · have : ys = [] := List.eq_nil_of_length_eq_zero (by rw [src.len]; exact hz)
        subst this
        simp only [List.map_nil] at hst
        simp [Builtin.append_, h0, g1, run_underlying ht, run_underlying g2, run_sizeOf hok, hroom, asInt, asIntOf, hwm, show ¬ ((m : Int) < 0) by omega, run_typeInfo h1, h4, show ¬ (281474976710656 < (m : Int) * ei.bytes) by omega, hz, hst]
      · rw [g5] at hst
        simp [Builtin.append_, h0, g1, run_underlying ht, run_underlying g2, run_sizeOf hok, hroom, asInt, asIntOf, hwm, show ¬ ((m : Int) < 0) by omega, run_typeInfo h1, h4, show ¬ (281474976710656 < (m : Int) * ei.bytes) by omega, hz, zeroValue, h2, hzc, hst]

theorem append_grow {k : IntKind} {t e : TypeId} {ei : TI} {ts : Array TypeId} {ty : TypeId} {X : Value} {xs ys : List Int} {m : Nat} {w : World} (h0 : ts[0]? = some t) (ht : P.underlying t = some (.slice e)) (hok : TyOk P e ei) (hk : elemKind ei = some k)
    (src : Src P k e ei ts X ys m w) (base : Option Addr) (sLen sCap : Nat) (hgrow : sCap < sLen + m) (hsize : Builtin.nextslicecap (sLen + m) sCap * ei.bytes ≤ 281474976710656) (hneed : sLen + m ≤ 4611686018427387904)
    (hold : ∀ w' : World, w'.heap = w.heap → (Builtin.firstCells ei.size sLen (.slice base sLen sCap)).run P w' = .ok (xs.map (Value.int k)).toArray w') :
    ∃ newCap w', (Builtin.append_ ts ty #[.slice base sLen sCap, X]).run P w = .ok (.slice (some ⟨w.heap.size, 0, none⟩) (sLen + m) newCap) w' ∧ sLen + m ≤ newCap ∧
      w'.heap = w.heap.push (.cells ((xs ++ ys ++ zerosOf ((newCap - (sLen + m)) * ei.size)).map (Value.int k)).toArray e) ∧ Still w w' := by
  obtain ⟨i, z, h1, h2, h3, h4, h5, hpos⟩ := elemKind_zero hok hk
  have hzc : ∀ n, Builtin.zeroCells z.cells n = ((zerosOf (n * ei.size)).map (Value.int k)).toArray := fun n => by rw [h5]; exact zeroCells_eq hpos n
  have hfo : (Question.appendCap (sLen + m) sCap e).forced = false := rfl
  let c := (Question.appendCap (sLen + m) sCap e).cut (w.tape w.drawn (.appendCap (sLen + m) sCap e))
  have hc : sLen + m ≤ c := Nat.le_add_right _ _
  have hr : ¬ sLen + m ≤ sCap := by omega
  have hmax : ¬ (9223372036854775807 < ((sLen : Int) + (m : Int))) := by omega
  have hsz : ¬ (281474976710656 < Builtin.nextslicecap (sLen + m) sCap * ei.bytes) := by omega
  refine ⟨c, w.drew.alloc (.cells ((xs ++ ys ++ zerosOf ((c - (sLen + m)) * ei.size)).map (Value.int k)).toArray e), ?_, hc, rfl, rfl, rfl⟩
  have hcut : (Question.appendCap (sLen + m) sCap e).cut (w.tape w.drawn (.appendCap (sLen + m) sCap e)) = c := rfl
  have o1 := hold w.drew rfl
  rcases src.slc with ⟨t1, e1, g1, g2, ⟨A, cc, rfl⟩, g4⟩ | ⟨t1, g1, g2, rfl, g4, g6, g5⟩
  · have n1 := g4 w.drew rfl
    simp [Builtin.append_, h0, g1, run_underlying ht, run_underlying g2, run_sizeOf hok, Builtin.lenOf, hr, run_typeInfo h1, h4, hsz, hfo, hcut, hmax, o1, n1, zeroValue, h2, hzc, newRow]
  · have hwm : IntKind.i64.wrap (m : Int) = m := wrap_small _ (by omega) g6
    by_cases hz : m * ei.size = 0
    · have : ys = [] := List.eq_nil_of_length_eq_zero (by rw [src.len]; exact hz)
      subst this
      simp [Builtin.append_, h0, g1, run_underlying ht, run_underlying g2, run_sizeOf hok, hr, asInt, asIntOf, hwm, show ¬ ((m : Int) < 0) by omega, run_typeInfo h1, h4, show ¬ (281474976710656 < (m : Int) * ei.bytes) by omega, hz, hsz, hfo, hcut, hmax, o1, zeroValue, h2, hzc, newRow]
    · simp [Builtin.append_, h0, g1, run_underlying ht, run_underlying g2, run_sizeOf hok, hr, asInt, asIntOf, hwm, show ¬ ((m : Int) < 0) by omega, run_typeInfo h1, h4, show ¬ (281474976710656 < (m : Int) * ei.bytes) by omega, hz, hsz, hfo, hcut, hmax, o1, zeroValue, h2, hzc, newRow, g5]

theorem elemOfArg_ok (hΘ : TypesOk P Θ) {ts : Array TypeId} {i : Nat} {ei : TI} (h : elemOfArg Θ ts.toList i = some ei) : ∃ t e, ts[i]? = some t ∧ P.underlying t = some (.slice e) ∧ findTy e Θ = some ei ∧ TyOk P e ei := by
  unfold elemOfArg at h
  split at h
  · rename_i t ht
    obtain ⟨e, h1, h2, h3⟩ := elemOfSlice_ok hΘ h
    exact ⟨t, e, by simpa using ht, h1, h2, h3⟩
  · cases h

theorem argTy_ok (hΘ : TypesOk P Θ) {ts : Array TypeId} {i : Nat} {td : TD} (h : argTy Θ ts.toList i = some td) : ∃ t d, ts[i]? = some t ∧ P.underlying t = some d ∧ TDesc td d := by
  unfold argTy at h
  split at h
  · rename_i t ht
    obtain ⟨d, h1, h2⟩ := tyIs_ok hΘ h
    exact ⟨t, d, by simpa using ht, h1, h2⟩
  · cases h

theorem srcOf_ok (hΘ : TypesOk P Θ) {w0 : World} {Mu : MuT} {ρ : Rho} {a : Act} {w : World} (hs : Sim w0 Mu ρ s a w) (hI : ∀ n it, I n = some it → s.I n = some it) {e : TypeId} {ei : TI} {k : IntKind} {ts : Array TypeId} {xa : At} {X : Value} {ys : List Int} {cnt : Option Int} (hpos : 0 < ei.size)
    (h : srcOf Θ I ei k ts.toList xa = some (ys, cnt)) (hc : okCnt ei.bytes cnt = true) (r : RelSV ρ s.S (.one xa) X) : Src P k e ei ts X ys (rowLen ei.size ys) w := by
  have slices : ∀ t1 d1 e0, ts[1]? = some t1 → P.underlying t1 = some d1 → TDesc (.slice e0) d1 → ∀ m l, SrcAt k ei.size X ys m l w → Src P k e ei ts X ys (rowLen ei.size ys) w := by
    intro t1 d1 e0 h1 h2 h3 m l hsrc
    cases d1 <;> simp [TDesc] at h3
    have hm : rowLen ei.size ys = m := by rw [rowLen_eq, hsrc.len, rl_mul hpos]
    rw [hm]
    obtain ⟨A, c, hX, _⟩ := hsrc.val
    exact ⟨hsrc.len, .inl ⟨t1, _, h1, h2, ⟨A, c, hX⟩, fun w' hw => hsrc.first hw⟩⟩
  unfold srcOf at h
  split at h
  · rename_i n
    split at h
    · rename_i ht
      injection h with h; injection h with h1 h2; subst h1; subst h2
      obtain ⟨t1, d1, g1, g2, g3⟩ := argTy_ok hΘ ht
      cases d1 <;> simp [TDesc] at g3
      subst g3
      simp only [okCnt, Bool.and_eq_true, decide_eq_true_eq] at hc
      obtain ⟨hc1, hc2, hc3⟩ := hc
      have hl : (zerosOf (mulE n.toNat ei.size)).length = n.toNat * ei.size := by simp [zerosOf, mulE_eq]
      have hm : rowLen ei.size (zerosOf (mulE n.toNat ei.size)) = n.toNat := by rw [rowLen_eq, hl, rl_mul hpos]
      simp only [RelSV, RelAt, List.cons.injEq, and_true] at r
      have hn : ((n.toNat : Nat) : Int) = n := by omega
      rw [hm]
      exact ⟨hl, .inr ⟨t1, g1, g2, by rw [hn]; exact r, by rw [hn]; exact hc3, by rw [hn]; exact hc2, by rw [mulE_eq]⟩⟩
    · cases h
  · split at h
    · rename_i e0 ht
      injection h with h; injection h with h1 h2; subst h1; subst h2
      obtain ⟨t1, d1, g1, g2, g3⟩ := argTy_ok hΘ ht
      simp only [RelSV, RelAt, List.cons.injEq, and_true] at r
      subst r
      exact slices t1 d1 e0 g1 g2 g3 0 none (srcNil k hpos w)
    · cases h
  · split at h
    · rename_i e0 ht
      split at h
      · rename_i k' ys' hd
        split at h
        · rename_i hk
          injection h with h; injection h with h1 h2; subst h1; subst h2
          have := kindEq_iff.1 hk; subst this
          obtain ⟨t1, d1, g1, g2, g3⟩ := argTy_ok hΘ ht
          obtain ⟨m, l, hsrc, _⟩ := sliceData_ok hs hI hd r
          exact slices t1 d1 e0 g1 g2 g3 m l hsrc
        · cases h
      · cases h
    · cases h

theorem args_two {T : Nat → AV} {c : Call} {x y : AV} (h : evAll (evO T) c.args.toList = [x, y]) : ∃ p q, c.args = #[p, q] ∧ evO T p = x ∧ evO T q = y := by
  rw [evAll_eq] at h
  cases hl : c.args.toList with
  | nil => rw [hl] at h; cases h
  | cons p l => cases l with
    | nil => rw [hl] at h; simp at h
    | cons q l => cases l with
      | nil => rw [hl] at h; simp at h; exact ⟨p, q, by apply Array.ext'; simpa using hl, h.1, h.2⟩
      | cons z l => rw [hl] at h; simp at h

/-- a slice that has grown into a block of its own -/
theorem wp_grown {w0 : World} {Mu : MuT} {ρ : Rho} {a : Act} {w w' : World} (hs : Sim w0 Mu ρ s a w) (hst : Still w w') {n need nc es : Nat} {k : IntKind} {zs : List Int} {e : TypeId} {gone : List Nat} {Q : Exit → Act → World → Prop}
    (hd : o.dst = some n) (hlt : s.Dst n) (hpos : 0 < es) (hrun : (execOp a.eval o).run P w = .ok (.value (.slice (some ⟨w.heap.size, 0, none⟩) need nc)) w') (hnc : need ≤ nc) (hlen : zs.length = need * es)
    (hheap : w'.heap = w.heap.push (.cells ((zs ++ zerosOf ((nc - need) * es)).map (Value.int k)).toArray e)) :
    o.wp P a w (fun a' w' => ∃ ρ', Sim w0 Mu ρ' (s.apply { tmp := some (n, va (.own n)), fresh := [(n, .row k es zs)], gone := gone }) a' w') Q := by
  refine step_block hs hst (tot := nc * es) hd hlt hrun hheap ?_ ?_
  · intro S' hag hS
    refine ⟨hpos, ⟨need, hlen⟩, .inr ⟨w.heap.size, e, (zerosOf ((nc - need) * es)).map (Value.int k), Rho.set_loc _ _ _ _, ?_, ?_⟩⟩
    · rw [heap_push_new hheap]; simp
    · rw [Rho.set_tot]
      simp only [List.length_map, zerosOf, List.length_replicate]
      rw [hlen, ← Nat.add_mul]; congr 1; omega
  · intro S' hag hS
    exact rel_newrow hS (by rw [hlen, rl_mul hpos]) hnc (Nat.le_refl _)

/-! ### slices of things -/

theorem cell1_size {a : At} (h : a.cell1 = true) : a.size = 1 := by cases a <;> first | rfl | (simp [At.cell1] at h; done)
theorem sizes_cell1 : ∀ {l : List At}, (∀ a ∈ l, a.cell1 = true) → sizesL l = l.length
  | [], _ => rfl
  | a :: l, h => by
    simp only [sizesL, List.length_cons, cell1_size (h a (.head _)), sizes_cell1 fun b hb => h b (.tail _ hb)]; omega

theorem tab_first {w0 : World} {Mu : MuT} {ρ : Rho} {a : Act} {w : World} (hs : Sim w0 Mu ρ s a w) {m : Nat} {l : List At} {X : Value} (hi : s.I m = some (.tab l)) (r : RelV ρ s.S (va (.own m)) X) :
    (∀ b ∈ l, b.cell1 = true) ∧ ∃ c cs, X = .slice ((ρ.loc m).map (adr · 0)) l.length c ∧ l.length ≤ c ∧ (ρ.loc m = none → c = 0) ∧ c ≤ ρ.tot m ∧ RelL ρ s.S l cs ∧ cs.length = l.length ∧
      ((ρ.loc m = none ∧ l = [] ∧ ρ.tot m = 0) ∨ ∃ b T sp, ρ.loc m = some (b, 0) ∧ w.heap[b]? = some (.cells (cs ++ sp).toArray T (0, 0)) ∧ ρ.tot m = l.length + sp.length) ∧
      ∀ w' : World, w'.heap = w.heap → (Builtin.firstCells 1 l.length X).run P w' = .ok cs.toArray w' := by
  obtain ⟨h1, h2⟩ := hs.hold _ _ hi
  have r' : RelAt ρ s.S (.own m) [X] := r
  simp only [RelAt, S_of hi, Item.shape, List.cons.injEq, and_true] at r'
  obtain ⟨c, g1, g2, g3, g4⟩ := r'
  refine ⟨h1, ?_⟩
  rcases h2 with ⟨e1, e2, e3⟩ | ⟨b, T, cs, sp, e1, e2, e4, e5⟩
  · subst e2
    refine ⟨c, [], g1, g2, g3, g4, rfl, rfl, .inl ⟨e1, rfl, e3⟩, fun w' _ => ?_⟩
    rw [g1, e1]
    simp [Builtin.firstCells]
  · have hl : cs.length = l.length := by rw [e4.length, sizes_cell1 h1]
    refine ⟨c, cs, g1, g2, g3, g4, e4, hl, .inr ⟨b, T, sp, e1, e2, e5⟩, fun w' hw => ?_⟩
    rw [g1, e1]
    simp only [Option.map_some, Builtin.firstCells, Nat.mul_one]
    have := run_loadCells_list (P := P) w' (adr (b, 0) 0) cs (fun j u hu => by
      have e2' : w'.heap[b]? = some (.cells (cs ++ sp).toArray T (0, 0)) := by rw [hw]; exact e2
      rw [adr_add, adr, cell_of e2']
      simp only [Nat.zero_add]
      rw [List.getElem?_append_left (List.getElem?_eq_some_iff.1 hu).1]
      exact hu)
    rw [hl] at this
    exact this

theorem append_roomT {t t1 e e1 : TypeId} {ei : TI} {ts : Array TypeId} {ty : TypeId} {A : Option Addr} {ys : List Value} {m c : Nat} {w : World} (h0 : ts[0]? = some t) (ht : P.underlying t = some (.slice e)) (hok : TyOk P e ei) (hsz : ei.size = 1)
    (g1 : ts[1]? = some t1) (g2 : P.underlying t1 = some (.slice e1)) (hf : ∀ w' : World, w'.heap = w.heap → (Builtin.firstCells 1 m (.slice A m c)).run P w' = .ok ys.toArray w') (base : Option Addr) (sLen sCap : Nat) (hroom : sLen + m ≤ sCap) (w' : World)
    (hst : match base with | none => w' = w | some a => (storeCells (a.add (sLen * 1)) ys).run P w = .ok () w') :
    (Builtin.append_ ts ty #[.slice base sLen sCap, .slice A m c]).run P w = .ok (.slice base (sLen + m) sCap) w' := by
  have g4 := hf w rfl
  cases base with
  | none =>
    subst hst
    simp [Builtin.append_, h0, g1, run_underlying ht, run_underlying g2, run_sizeOf hok, hsz, Builtin.lenOf, hroom, g4]
  | some a =>
    simp only at hst
    rw [Nat.mul_one] at hst
    simp [Builtin.append_, h0, g1, run_underlying ht, run_underlying g2, run_sizeOf hok, hsz, Builtin.lenOf, hroom, g4, hst]

theorem append_growT {t t1 e e1 : TypeId} {ei : TI} {ts : Array TypeId} {ty : TypeId} {A : Option Addr} {xs ys : List Value} {m c : Nat} {w : World} (h0 : ts[0]? = some t) (ht : P.underlying t = some (.slice e)) (hok : TyOk P e ei) (hsz : ei.size = 1) (hz : sizesL ei.zero = 1)
    (g1 : ts[1]? = some t1) (g2 : P.underlying t1 = some (.slice e1)) (hf : ∀ w' : World, w'.heap = w.heap → (Builtin.firstCells 1 m (.slice A m c)).run P w' = .ok ys.toArray w') (base : Option Addr) (sLen sCap : Nat) (hgrow : sCap < sLen + m) (hsize : Builtin.nextslicecap (sLen + m) sCap * ei.bytes ≤ 281474976710656) (hneed : sLen + m ≤ 4611686018427387904)
    (hold : ∀ w' : World, w'.heap = w.heap → (Builtin.firstCells 1 sLen (.slice base sLen sCap)).run P w' = .ok xs.toArray w') :
    ∃ newCap w' sp, (Builtin.append_ ts ty #[.slice base sLen sCap, .slice A m c]).run P w = .ok (.slice (some ⟨w.heap.size, 0, none⟩) (sLen + m) newCap) w' ∧ sLen + m ≤ newCap ∧ sp.length = newCap - (sLen + m) ∧
      w'.heap = w.heap.push (.cells (xs ++ ys ++ sp).toArray e) ∧ Still w w' := by
  obtain ⟨i, h1, h2, h4, _, z, h5, h6⟩ := hok.info
  have hzs : z.cells.size = 1 := by
    have := h6.length
    rw [hz] at this
    simpa using this
  have hfo : (Question.appendCap (sLen + m) sCap e).forced = false := rfl
  let nc := (Question.appendCap (sLen + m) sCap e).cut (w.tape w.drawn (.appendCap (sLen + m) sCap e))
  have hc : sLen + m ≤ nc := Nat.le_add_right _ _
  have hr : ¬ sLen + m ≤ sCap := by omega
  have hmax : ¬ (9223372036854775807 < ((sLen : Int) + (m : Int))) := by omega
  have hsz2 : ¬ (281474976710656 < Builtin.nextslicecap (sLen + m) sCap * ei.bytes) := by omega
  have hcut : (Question.appendCap (sLen + m) sCap e).cut (w.tape w.drawn (.appendCap (sLen + m) sCap e)) = nc := rfl
  have o1 := hold w.drew rfl
  have n1 := hf w.drew rfl
  refine ⟨nc, w.drew.alloc (.cells (xs ++ ys ++ (Builtin.zeroCells z.cells (nc - (sLen + m))).toList).toArray e), (Builtin.zeroCells z.cells (nc - (sLen + m))).toList, ?_, hc, ?_, rfl, rfl, rfl⟩
  · simp [Builtin.append_, h0, g1, run_underlying ht, run_underlying g2, run_sizeOf hok, hsz, Builtin.lenOf, hr, run_typeInfo h1, h4, hsz2, hfo, hcut, hmax, o1, n1, zeroValue, h5, newRow]
    refine congrArg (fun x => w.drew.alloc (Obj.cells x e)) ?_
    apply Array.ext'; simp
  · simp [Builtin.zeroCells, hzs]

theorem wp_grownT {w0 : World} {Mu : MuT} {ρ : Rho} {a : Act} {w w' : World} (hs : Sim w0 Mu ρ s a w) (hst : Still w w') {n need nc : Nat} {l : List At} {cs sp : List Value} {e : TypeId} {gone : List Nat} {Q : Exit → Act → World → Prop}
    (hd : o.dst = some n) (hlt : s.Dst n) (hrun : (execOp a.eval o).run P w = .ok (.value (.slice (some ⟨w.heap.size, 0, none⟩) need nc)) w') (hnc : need ≤ nc) (hlen : l.length = need) (hsp : sp.length = nc - need)
    (hn : n ∉ namesL l) (hc1 : ∀ b ∈ l, b.cell1 = true) (hrel : RelL ρ s.S l cs) (hheap : w'.heap = w.heap.push (.cells (cs ++ sp).toArray e)) :
    o.wp P a w (fun a' w' => ∃ ρ', Sim w0 Mu ρ' (s.apply { tmp := some (n, va (.own n)), fresh := [(n, .tab l)], gone := gone }) a' w') Q := by
  refine step_block hs hst (tot := nc) hd hlt hrun hheap ?_ ?_
  · intro S' hag hS
    refine ⟨hc1, .inr ⟨w.heap.size, e, cs, sp, Rho.set_loc _ _ _ _, ?_, RelL.setN hn hag hrel, ?_⟩⟩
    · rw [heap_push_new hheap]
    · rw [Rho.set_tot, hlen, hsp]; omega
  · intro S' hag hS
    exact rel_newtab hS hlen hnc (Nat.le_refl _)

theorem namesL_append : ∀ (l m : List At), namesL (l ++ m) = namesL l ++ namesL m
  | [], m => rfl
  | a :: l, m => by simp [namesL, namesL_append l m]

theorem wp_appendT (hΘ : TypesOk P Θ) (hI : ∀ n it, I n = some it → s.I n = some it) {c : Call} {x y : AV} {e : TI} (hdst : ∀ n, o.dst = some n → s.Dst n) (hb : c.callee = .builtin .append) (hargs : evAll (evO s.T) c.args.toList = [x, y]) (ho : o.op = .call c)
    (he : elemOfArg Θ c.argTypes.toList 0 = some e) (h : (appendT Θ I o.dst c.argTypes.toList e x y).Out P Γ d) : WpStep P s o d := by
  obtain ⟨p, q, hA, hp, hq⟩ := args_two hargs
  have run : ∀ (a : Act) (w : World), (execOp a.eval o).run P w = ((Builtin.append_ c.argTypes o.type #[a.eval p, a.eval q]).run P w).andThen fun v w' => .ok (.value v) w' := by
    intro a w
    simp only [execOp, ho, resolve, hb, hA, Sem.run_bind, Sem.run_pure, Result.andThen_ok, invoke, builtin]
    simp
  unfold appendT at h
  split at h
  · rename_i n sa m hd
    split at h
    · rename_i ys et hm hts
      obtain ⟨t, ee, h0, ht, hte, hok⟩ := elemOfArg_ok hΘ he
      obtain ⟨t1, d1, g1, g2, g3⟩ := argTy_ok hΘ hts
      have hm' := hI _ _ hm
      obtain ⟨e1, rfl⟩ : ∃ e1, d1 = .slice e1 := by
        cases d1 <;> first | exact ⟨_, rfl⟩ | (simp [TDesc] at g3; done)
      split at h
      · -- onto nil
        split at h
        · rename_i hbb
          simp only [Bool.and_eq_true, Bool.not_eq_true'] at hbb
          obtain ⟨b1, b2, b3, b4⟩ := hbb
          have b1 := beqT b1; have b2 := beqT b2
          have b4 := memN_false.1 b4
          obtain ⟨hle, h⟩ := chk_out h
          simp only [D.Out] at h; subst h
          simp only [Bool.and_eq_true] at hle
          have hle1 := ble_iff.1 hle.1
          have hle2 := ble_iff.1 hle.2
          simp only [big48] at hle1 hle2
          intro w0 Mu ρ a w Q hs
          have hX := ev_one hs hp
          have hS : a.eval p = .slice none 0 0 := by simpa [RelV, RelSV, RelAt] using hX
          obtain ⟨k1, cm, cs, k2, k3, k4, k5, k6, k7, k8, k9⟩ := tab_first (P := P) hs hm' (ev_one hs hq)
          by_cases hy : ys.length = 0
          · have hy0 : ys = [] := List.eq_nil_of_length_eq_zero hy
            subst hy0
            have hr := append_roomT (ty := o.type) (c := cm) h0 ht hok b1 g1 g2 (fun w' hw => by have := k9 w' hw; rw [k2] at this; exact this) none 0 0 (Nat.le_refl _) w rfl
            refine step_fresh hs ⟨rfl, rfl⟩ (w' := w) (x := .slice none 0 0) (l := none) (tot := 0) hd (hdst n hd) (by rw [run, hS, k2, hr]; rfl) (fun _ _ _ _ _ _ _ => rfl) (Nat.le_refl _) (fun _ _ _ => rfl) ?_ ?_ (by simp)
            · intro S' hag hSn
              exact ⟨by simp, .inl ⟨Rho.set_loc _ _ _ _, rfl, Rho.set_tot _ _ _ _⟩⟩
            · intro S' hag hSn
              show RelAt _ S' (.own n) [_]
              simp only [RelAt, hSn, Item.shape, Rho.set_loc, Option.map_none, List.length_nil]
              exact ⟨0, rfl, Nat.le_refl _, fun _ => rfl, by simp⟩
          · obtain ⟨nc, w', sp, hr, hnc, hsp, hheap, hst⟩ := append_growT (ty := o.type) (c := cm) (xs := []) h0 ht hok b1 b2 g1 g2 (fun w' hw => by have := k9 w' hw; rw [k2] at this; exact this) none 0 0 (by omega) (by rw [Nat.zero_add, nextslicecap_zero (by omega)]; have := Nat.mul_le_mul_right e.bytes (show ys.length ≤ 2 * ys.length + 192 by omega); omega) (by omega) (fun w' _ => by simp [Builtin.firstCells])
            rw [List.nil_append] at hheap
            exact wp_grownT hs hst hd (hdst n hd) (by rw [run, hS, k2, hr]; rfl) hnc (by omega) hsp b4 k1 k6 hheap
        · exact h.elim
      · -- onto a slice of the call's own
        rename_i nm
        split at h
        · rename_i xs hi
          split at h
          · rename_i hbb
            simp only [Bool.and_eq_true, Bool.not_eq_true'] at hbb
            obtain ⟨⟨b1, b2, b3⟩, b4, b5, b6, b7⟩ := hbb
            have b1 := beqT b1; have b2 := beqT b2
            have b3 := beqN b3
            have b6 := memN_false.1 b6
            have b7 := memN_false.1 b7
            obtain ⟨hle, h⟩ := chk_out h
            simp only [D.Out] at h; subst h
            simp only [Bool.and_eq_true] at hle
            have hle1 := ble_iff.1 hle.1
            have hle2 := ble_iff.1 hle.2
            simp only [big48] at hle1 hle2
            intro w0 Mu ρ a w Q hs
            have hi' := hI _ _ hi
            obtain ⟨k1, cm, cs, k2, k3, k4, k5, k6, k7, k8, k9⟩ := tab_first (P := P) hs hm' (ev_one hs hq)
            obtain ⟨j1, cap, ds, j2, j3, j4, j5, j6, j7, j8, j9⟩ := tab_first (P := P) hs hi' (ev_one hs hp)
            have hall : ∀ b ∈ xs ++ ys, b.cell1 = true := fun b hb => by
              rcases List.mem_append.1 hb with hb | hb
              · exact j1 b hb
              · exact k1 b hb
            by_cases hroom : xs.length + ys.length ≤ cap
            · rcases j8 with ⟨hl, hx0, ht0⟩ | ⟨b, T, sp, hl, hh, htot⟩
              · have hc0 := j4 hl
                subst hx0; subst hc0
                have hy0 : ys = [] := List.eq_nil_of_length_eq_zero (by omega)
                subst hy0
                have hr := append_roomT (ty := o.type) (c := cm) h0 ht hok b1 g1 g2 (fun w' hw => by have := k9 w' hw; rw [k2] at this; exact this) none ([] : List At).length 0 (Nat.le_refl _) w rfl
                refine step_fresh hs ⟨rfl, rfl⟩ (w' := w) (x := .slice none 0 0) (l := none) (tot := 0) hd (hdst n hd) (by rw [run, j2, k2, hl]; simp only [Option.map_none]; rw [hr]; rfl) (fun _ _ _ _ _ _ _ => rfl) (Nat.le_refl _) (fun _ _ _ => rfl) ?_ ?_ (by simp)
                · intro S' hag hSn
                  exact ⟨by simp, .inl ⟨Rho.set_loc _ _ _ _, rfl, Rho.set_tot _ _ _ _⟩⟩
                · intro S' hag hSn
                  show RelAt _ S' (.own n) [_]
                  simp only [RelAt, hSn, Item.shape, Rho.set_loc, Option.map_none, List.length_nil, List.append_nil]
                  exact ⟨0, rfl, Nat.le_refl _, fun _ => rfl, by simp⟩
              · have hfit : cs.length ≤ sp.length := by omega
                have hst := run_storeCells_at (P := P) b ds.length T cs 0 _ w hh (by simp; omega) (fun v hv => k6.oneCells v hv)
                have hst2 : (storeCells ((adr (b, 0) 0).add (xs.length * 1)) cs).run P w = .ok () (w.setRow b (List.take ds.length (ds ++ sp) ++ (cs ++ List.drop (ds.length + cs.length) (ds ++ sp))).toArray) := by
                  rw [adr_add, Nat.mul_one, ← j7]
                  simpa [adr] using hst
                have hr := append_roomT (ty := o.type) (c := cm) h0 ht hok b1 g1 g2 (fun w' hw => by have := k9 w' hw; rw [k2] at this; exact this) (some (adr (b, 0) 0)) xs.length cap hroom _ hst2
                have hcells : List.take ds.length (ds ++ sp) ++ (cs ++ List.drop (ds.length + cs.length) (ds ++ sp)) = (ds ++ cs) ++ sp.drop cs.length := by
                  rw [List.take_append_of_le_length (by simp), List.take_of_length_le (by simp), List.drop_append, List.drop_of_length_le (by simp)]
                  simp
                refine step_fresh hs ⟨rfl, rfl⟩ (w' := w.setRow b ((ds ++ cs) ++ sp.drop cs.length).toArray) (x := .slice (some (adr (b, 0) 0)) (xs.length + ys.length) cap) (l := some (b, 0)) (tot := ρ.tot nm) hd (hdst n hd) ?_ ?_ (by simp) ?_ ?_ ?_ ?_
                · rw [run, j2, k2, hl]
                  simp only [Option.map_some]
                  rw [← k2] at hr ⊢
                  rw [k2] at hr ⊢
                  rw [hr, ← hcells]
                  rfl
                · intro m2 it2 p2 hm2 hne hng hp2
                  refine setRow_other w b p2.1 _ (fun e => ?_)
                  exact hs.sep nm m2 _ it2 (b, 0) p2 hi' hm2 rfl (fun e => hng (by simp [e])) hl hp2 e.symm
                · intro k2 hk2 hm2
                  rw [setRow_other w b k2]
                  rintro rfl
                  rcases hs.own nm _ (k2, 0) hi' rfl hl with h | h
                  · simp only at h; omega
                  · exact hm2 h
                · intro S' hag hSn
                  refine ⟨hall, .inr ⟨b, T, ds ++ cs, sp.drop cs.length, Rho.set_loc _ _ _ _, ?_, RelL.setN b6 hag (j6.append k6), ?_⟩⟩
                  · exact setRow_heap w b _ _ T _ hh
                  · rw [Rho.set_tot, htot]; simp; omega
                · intro S' hag hSn
                  show RelAt _ S' (.own n) [_]
                  simp only [RelAt, hSn, Item.shape, Rho.set_loc, Rho.set_tot, Option.map_some]
                  exact ⟨cap, by rw [List.length_append], by rw [List.length_append]; exact hroom, by simp, j5⟩
                · intro p2 hp2
                  injection hp2 with hp2; subst hp2
                  refine ⟨by simpa using hs.lt nm _ (b, 0) hi' hl, hs.own nm _ (b, 0) hi' rfl hl, ?_⟩
                  intro m2 it2 q2 hm2 hne hng hq2
                  exact hs.sep nm m2 _ it2 (b, 0) q2 hi' hm2 rfl (fun e => hng (by simp [e])) hl hq2
            · have hnsc := nextslicecap_le (need := xs.length + ys.length) (cap := cap) (by omega)
              have hnsc2 := Nat.mul_le_mul_right e.bytes hnsc
              obtain ⟨nc, w', sp, hr, hnc, hsp, hheap, hst⟩ := append_growT (ty := o.type) (c := cm) (xs := ds) h0 ht hok b1 b2 g1 g2 (fun w' hw => by have := k9 w' hw; rw [k2] at this; exact this) ((ρ.loc nm).map (adr · 0)) xs.length cap (by omega) (by omega) (by omega) (fun w' hw => by have := j9 w' hw; rw [j2] at this; exact this)
              exact wp_grownT hs hst hd (hdst n hd) (by rw [run, j2, k2, hr]; rfl) hnc (by rw [List.length_append]) hsp b6 hall (j6.append k6) hheap
          · exact h.elim
        · exact h.elim
      · exact h.elim
    · exact h.elim
  · exact h.elim

theorem wp_appendR (hΘ : TypesOk P Θ) (hI : ∀ n it, I n = some it → s.I n = some it) {c : Call} {x y : AV} (hdst : ∀ n, o.dst = some n → s.Dst n) (hb : c.callee = .builtin .append) (hargs : evAll (evO s.T) c.args.toList = [x, y]) (ho : o.op = .call c)
    (h : (appendR Θ I o.dst c.argTypes.toList x y).Out P Γ d) : WpStep P s o d := by
  obtain ⟨p, q, hA, hp, hq⟩ := args_two hargs
  have run : ∀ (a : Act) (w : World), (execOp a.eval o).run P w = ((Builtin.append_ c.argTypes o.type #[a.eval p, a.eval q]).run P w).andThen fun v w' => .ok (.value v) w' := by
    intro a w
    simp only [execOp, ho, resolve, hb, hA, Sem.run_bind, Sem.run_pure, Result.andThen_ok, invoke, builtin]
    simp
  unfold appendR at h
  split at h
  · rename_i n ei sa xa hd he
    split at h
    · rename_i k hk
      split at h
      · rename_i ys cnt hsrc
        obtain ⟨hcnt, h⟩ := chk_out h
        obtain ⟨t, e, h0, ht, hte, hok⟩ := elemOfArg_ok hΘ he
        obtain ⟨i, z, _, _, _, _, _, hpos⟩ := elemKind_zero hok hk
        split at h
        · -- onto nil
          obtain ⟨hle, h⟩ := chk_out h
          simp only [D.Out] at h; subst h
          simp only [Bool.and_eq_true] at hle
          have hle1 := ble_iff.1 hle.1
          have hle2 := ble_iff.1 hle.2
          intro w0 Mu ρ a w Q hs
          have hX := ev_one hs hp
          have hS : a.eval p = .slice none 0 0 := by simpa [RelV, RelSV, RelAt] using hX
          have src := srcOf_ok hΘ hs hI (e := e) hpos hsrc hcnt (ev_one hs hq)
          have hlen := src.len
          by_cases hm : rowLen ei.size ys = 0
          · have hy0 : ys = [] := List.eq_nil_of_length_eq_zero (by rw [hlen, hm]; simp)
            rw [hm] at src
            have hr := append_room (ty := o.type) h0 ht hok hk src none 0 0 (Nat.le_refl _) w rfl
            refine step_fresh hs ⟨rfl, rfl⟩ (w' := w) (x := .slice none 0 0) (l := none) (tot := 0) hd (hdst n hd) (by rw [run, hS, hr]; rfl) (fun _ _ _ _ _ _ _ => rfl) (Nat.le_refl _) (fun _ _ _ => rfl) ?_ ?_ (by simp)
            · intro S' hag hSn
              subst hy0
              exact ⟨hpos, ⟨0, by simp⟩, .inl ⟨Rho.set_loc _ _ _ _, rfl, Rho.set_tot _ _ _ _⟩⟩
            · intro S' hag hSn
              subst hy0
              show RelAt _ S' (.own n) [_]
              simp only [RelAt, hSn, Item.shape, Rho.set_loc, Option.map_none, List.length_nil, rl_zero]
              exact ⟨0, rfl, Nat.le_refl _, fun _ => rfl, by simp⟩
          · obtain ⟨nc, w', hr, hnc, hheap, hst⟩ := append_grow (ty := o.type) (xs := []) h0 ht hok hk src none 0 0 (by omega) (by rw [Nat.zero_add, nextslicecap_zero (by omega)]; exact hle1) (by simp only [big48] at hle2; omega) (fun w' _ => by simp [Builtin.firstCells])
            exact wp_grown hs hst hd (hdst n hd) hpos (by rw [run, hS, hr]; rfl) hnc (by rw [Nat.zero_add]; exact hlen) hheap
        · -- onto a slice of the call's own
          rename_i nm _
          split at h
          · rename_i k' es xs hi
            split at h
            · rename_i hbb
              simp only [Bool.and_eq_true, Bool.not_eq_true'] at hbb
              have e1 := kindEq_iff.1 hbb.1; have e2 := beqT hbb.2.1; have e3 := beqN hbb.2.2
              subst e1; subst e2
              obtain ⟨hle, h⟩ := chk_out h
              simp only [D.Out] at h; subst h
              simp only [Bool.and_eq_true] at hle
              have hle1 := ble_iff.1 hle.1
              have hle2 := ble_iff.1 hle.2
              intro w0 Mu ρ a w Q hs
              have hX := ev_one hs hp
              have src := srcOf_ok hΘ hs hI (e := e) hpos hsrc hcnt (ev_one hs hq)
              have hlen := src.len
              have hi' := hI _ _ hi
              have r' : RelAt ρ s.S (.own nm) [a.eval p] := hX
              simp only [RelAt, S_of hi', Item.shape, List.cons.injEq, and_true] at r'
              obtain ⟨cap, g1, g2, g3, g4⟩ := r'
              obtain ⟨p0, ⟨mm, pm⟩, hrow⟩ := hs.hold _ _ hi'
              have hsl : rl ei.size xs.length = mm := by rw [pm, rl_mul hpos]
              rw [hsl] at g1 g2
              have hxl : rowLen ei.size xs = mm := by rw [rowLen_eq]; exact hsl
              rw [hxl] at hle1 hle2
              by_cases hroom : mm + rowLen ei.size ys ≤ cap
              · -- there is room
                rcases hrow with ⟨hl, hx0, ht0⟩ | ⟨b, T, sp, hl, hh, htot⟩
                · have hc0 := g3 hl
                  subst hc0
                  have hy0 : ys = [] := List.eq_nil_of_length_eq_zero (by rw [hlen, show rowLen ei.size ys = 0 by omega]; simp)
                  have hr := append_room (ty := o.type) h0 ht hok hk src none mm 0 hroom w rfl
                  have hmm : mm = 0 := by omega
                  subst hmm; subst hx0; subst hy0
                  refine step_fresh hs ⟨rfl, rfl⟩ (w' := w) (x := .slice none 0 0) (l := none) (tot := 0) hd (hdst n hd) (by rw [run, g1, hl]; simp only [Option.map_none]; rw [hr]; simp [rowLen_eq, rl_zero]) (fun _ _ _ _ _ _ _ => rfl) (Nat.le_refl _) (fun _ _ _ => rfl) ?_ ?_ (by simp)
                  · intro S' hag hSn
                    exact ⟨hpos, ⟨0, by simp⟩, .inl ⟨Rho.set_loc _ _ _ _, rfl, Rho.set_tot _ _ _ _⟩⟩
                  · intro S' hag hSn
                    show RelAt _ S' (.own n) [_]
                    simp only [RelAt, hSn, Item.shape, Rho.set_loc, Option.map_none, List.length_nil, List.append_nil, rl_zero]
                    exact ⟨0, rfl, Nat.le_refl _, fun _ => rfl, by simp⟩
                · have hfit : xs.length + ys.length ≤ xs.length + sp.length := by
                    have := Nat.mul_le_mul_right ei.size hroom
                    rw [Nat.add_mul, ← pm, ← hlen] at this
                    omega
                  have hst := run_storeCells_at (P := P) b xs.length T (ys.map (Value.int k)) 0 _ w hh (by simp; omega) (by simp [Value.oneCell'])
                  have hst2 : (storeCells ((adr (b, 0) 0).add (mm * ei.size)) (ys.map (Value.int k))).run P w = .ok () (w.setRow b (List.take xs.length (xs.map (Value.int k) ++ sp) ++ (ys.map (Value.int k) ++ List.drop (xs.length + ys.length) (xs.map (Value.int k) ++ sp))).toArray) := by
                    rw [adr_add, ← pm]
                    simpa [adr] using hst
                  have hr := append_room (ty := o.type) h0 ht hok hk src (some (adr (b, 0) 0)) mm cap hroom _ hst2
                  have hcells : (List.take xs.length (xs.map (Value.int k) ++ sp) ++ (ys.map (Value.int k) ++ List.drop (xs.length + ys.length) (xs.map (Value.int k) ++ sp))) = ((xs ++ ys).map (Value.int k)) ++ sp.drop ys.length := by
                    rw [List.take_append_of_le_length (by simp), List.take_of_length_le (by simp), List.drop_append, List.drop_of_length_le (by simp)]
                    simp
                  refine step_fresh hs ⟨rfl, rfl⟩ (w' := w.setRow b (((xs ++ ys).map (Value.int k)) ++ sp.drop ys.length).toArray) (x := .slice (some (adr (b, 0) 0)) (mm + rowLen ei.size ys) cap) (l := some (b, 0)) (tot := ρ.tot nm) hd (hdst n hd) ?_ ?_ (by simp) ?_ ?_ ?_ ?_
                  · rw [run, g1, hl]
                    simp only [Option.map_some]
                    rw [hr, ← hcells]
                    rfl
                  · intro m it2 p2 hm2 hne hng hp2
                    refine setRow_other w b p2.1 _ (fun e => ?_)
                    exact hs.sep nm m _ it2 (b, 0) p2 hi' hm2 rfl (fun e => hng (by simp [e])) hl hp2 e.symm
                  · intro k2 hk2 hm2
                    rw [setRow_other w b k2]
                    rintro rfl
                    rcases hs.own nm _ (k2, 0) hi' rfl hl with h | h
                    · simp only at h; omega
                    · exact hm2 h
                  · intro S' hag hSn
                    refine ⟨hpos, ⟨mm + rowLen ei.size ys, by rw [List.length_append, pm, hlen, Nat.add_mul]⟩, .inr ⟨b, T, sp.drop ys.length, Rho.set_loc _ _ _ _, ?_, ?_⟩⟩
                    · exact setRow_heap w b _ _ T _ hh
                    · rw [Rho.set_tot, htot]; simp; omega
                  · intro S' hag hSn
                    show RelAt _ S' (.own n) [_]
                    simp only [RelAt, hSn, Item.shape, Rho.set_loc, Rho.set_tot, Option.map_some]
                    have hl2 : rl ei.size (xs ++ ys).length = mm + rowLen ei.size ys := by
                      rw [List.length_append, pm, hlen, ← Nat.add_mul, rl_mul hpos]
                    exact ⟨cap, by rw [hl2], by rw [hl2]; exact hroom, by simp, g4⟩
                  · intro p2 hp2
                    injection hp2 with hp2; subst hp2
                    refine ⟨by simpa using hs.lt nm _ (b, 0) hi' hl, hs.own nm _ (b, 0) hi' rfl hl, ?_⟩
                    intro m it2 q2 hm2 hne hng hq2
                    exact hs.sep nm m _ it2 (b, 0) q2 hi' hm2 rfl (fun e => hng (by simp [e])) hl hq2
              · -- it grows
                have hnsc := nextslicecap_le (need := mm + rowLen ei.size ys) (cap := cap) (by omega)
                have hnsc2 := Nat.mul_le_mul_right ei.bytes hnsc
                obtain ⟨nc, w', hr, hnc, hheap, hst⟩ := append_grow (ty := o.type) (xs := xs) h0 ht hok hk src ((ρ.loc nm).map (adr · 0)) mm cap (by omega) (by simp only [big48] at hle1; omega) (by simp only [big48] at hle2; omega) (fun w' hw' => by
                  have hsrc2 : SrcAt k ei.size (.slice ((ρ.loc nm).map (adr · 0)) mm cap) xs mm (ρ.loc nm) w := ⟨⟨_, cap, rfl, g2, fun _ => rfl⟩, pm, hpos, fun i x hx => by
                    obtain ⟨p2, h1, h2⟩ := ((hs.hold _ _ hi').content (base := 0) rfl).2 i x hx
                    exact ⟨p2, h1, by rw [Nat.zero_add] at h2; exact h2⟩⟩
                  exact hsrc2.first hw')
                exact wp_grown hs hst hd (hdst n hd) hpos (by rw [run, g1, hr]; rfl) hnc (by rw [List.length_append, pm, hlen, Nat.add_mul]) hheap
            · exact h.elim
          · exact h.elim
        · -- onto a cut of known capacity
          rename_i nm b f es len cap _
          split at h
          · rename_i k' xs hdat
            split at h
            · rename_i hkk
              have e1 := kindEq_iff.1 hkk
              subst e1
              obtain ⟨hlt, h⟩ := chk_out h
              obtain ⟨hle, h⟩ := chk_out h
              simp only [D.Out] at h; subst h
              simp only [Bool.and_eq_true] at hle
              have hle1 := ble_iff.1 hle.1
              have hle2 := ble_iff.1 hle.2
              intro w0 Mu ρ a w Q hs
              have hX := ev_one hs hp
              have src := srcOf_ok hΘ hs hI (e := e) hpos hsrc hcnt (ev_one hs hq)
              have hlen := src.len
              have hes : es = ei.size := by
                simp only [sliceData] at hdat
                split at hdat
                · split at hdat
                  · split at hdat
                    · rename_i hb2; exact beqT hb2
                    · cases hdat
                  · cases hdat
                · cases hdat
              subst hes
              obtain ⟨m0, l0, hsrc2, hsl, _⟩ := sliceData_ok hs hI hdat hX
              simp only [sliceLen] at hsl
              split at hsl
              · injection hsl with hsl; subst hsl
                obtain ⟨A, c2, hX2, hc2, _⟩ := hsrc2.val
                obtain ⟨A', c3, hX3, _, hcap, _⟩ := hX
                simp only [List.cons.injEq, and_true] at hX3
                rw [hX2] at hX3
                injection hX3 with hA3 _ hc3
                have hcc := hcap cap rfl
                rw [← hc3] at hcc
                subst hcc
                have hlt' : c2 < len + rowLen ei.size ys := by
                  have := ble_iff.1 (show Nat.ble (c2 + 1) (len + rowLen ei.size ys) = true from hlt)
                  omega
                have hnsc := nextslicecap_le hlt'
                have hnsc2 := Nat.mul_le_mul_right ei.bytes hnsc
                obtain ⟨nc, w', hr, hnc, hheap, hst⟩ := append_grow (ty := o.type) (xs := xs) h0 ht hok hk src A len c2 hlt' (by simp only [big48] at hle1; omega) (by simp only [big48] at hle2; omega) (fun w' hw' => by rw [← hX2]; exact hsrc2.first hw')
                exact wp_grown hs hst hd (hdst n hd) hpos (by rw [run, hX2, hr]; rfl) hnc (by rw [List.length_append, hsrc2.len, hlen, Nat.add_mul]) hheap
              · cases hsl
            · exact h.elim
          · exact h.elim
        · exact h.elim
      · exact h.elim
    · exact h.elim
  · exact h.elim

theorem wp_append (hΘ : TypesOk P Θ) (hI : ∀ n it, I n = some it → s.I n = some it) {c : Call} {x y : AV} (hdst : ∀ n, o.dst = some n → s.Dst n) (hb : c.callee = .builtin .append) (hargs : evAll (evO s.T) c.args.toList = [x, y]) (ho : o.op = .call c)
    (h : (appendD Θ I o.dst c.argTypes.toList x y).Out P Γ d) : WpStep P s o d := by
  unfold appendD at h
  split at h
  · rename_i e he
    split at h
    · exact wp_appendT hΘ hI hdst hb hargs ho he h
    · exact wp_appendR hΘ hI hdst hb hargs ho h
  · exact h.elim

end

end Go.Eng

/- The engine, part O: copy and calls. -/
namespace Go.Eng
open Go

section
variable {P : Program} {Γ : Ctx} {Θ : Types} {s : AS} {o : Oper} {d : Delta} {I : Nat → Option Item}

theorem setBase_self : ∀ {l : List At} {b : Nat} {k : IntKind} {xs : List Int}, atBase l b = some (k, xs) → setBase l b xs = l
  | [], b, k, xs, h => by simp [atBase] at h
  | a :: l, 0, k, xs, h => by
    simp only [atBase] at h
    split at h
    · injection h with h; injection h with h1 h2; subst h1; subst h2; rfl
    · cases h
  | a :: l, b + 1, k, xs, h => by
    simp only [atBase] at h
    split at h
    · rename_i hb
      simp only [setBase, hb, setBase_self h]
    · cases h

theorem setContent_self {it it' : Item} {b : Nat} {k : IntKind} {xs : List Int} (h : it.content b = some (k, xs)) (h' : it.setContent b xs = some it') : it' = it := by
  cases it with
  | obj l =>
    simp only [Item.setContent] at h'
    injection h' with h'; rw [← h', setBase_self h]
  | row k' es ys =>
    simp only [Item.setContent] at h'
    simp only [Item.content] at h
    split at h
    · injection h with h; injection h with h1 h2
      injection h' with h'; rw [← h', h2]
    · cases h
  | view k' es ys => simp [Item.setContent] at h'
  | tab l => simp [Item.setContent] at h'

/-- nothing is written -/
theorem step_same {w0 : World} {Mu : MuT} {ρ : Rho} {a : Act} {w : World} (hs : Sim w0 Mu ρ s a w) {n : Nat} {it : Item} {v : AV} {x : Value} {Q : Exit → Act → World → Prop}
    (hdst : ∀ m, o.dst = some m → s.Dst m) (hi : s.I n = some it) (hrun : (execOp a.eval o).run P w = .ok (.value x) w) (hv : RelV ρ s.S v x) :
    o.wp P a w (fun a' w' => ∃ ρ', Sim w0 Mu ρ' (s.apply { tmp := tmpOf o.dst v, put := [(n, it)] }) a' w') Q := by
  unfold Oper.wp
  rw [hrun, Oper.upon_value]
  refine ⟨ρ, ?_⟩
  have hIeq : ∀ m, (s.apply { tmp := tmpOf o.dst v, put := [(n, it)] }).I m = s.I m := by
    intro m
    unfold AS.I AS.apply
    simp only [List.nil_append, purgeAllI, dropAllI, putNames]
    rw [find_putAll, findI_cons]
    by_cases h : m = n
    · subst h; rw [if_pos rfl]; exact hi.symm
    · rw [if_neg h]; simp [findI]
  have hSeq : (s.apply { tmp := tmpOf o.dst v, put := [(n, it)] }).S = s.S := by
    funext m; unfold AS.S; rw [hIeq]
  have good : Good ρ ρ s { tmp := tmpOf o.dst v, put := [(n, it)] } w w := by
    refine ⟨trivial, fun _ _ => ⟨rfl, rfl⟩, ?_, fun _ _ _ _ _ _ _ _ => rfl, Nat.le_refl _, by simp [putNames], ⟨rfl, rfl⟩⟩
    intro m it2 h
    rw [findI_cons] at h
    split at h
    · rename_i e; injection h with h; subst h; subst e
      exact ⟨_, hi, rfl, rfl, by simp [putNames]⟩
    · simp [findI] at h
  refine sim_step hs good ?_ ?_ ?_ ?_ ?_ (fun _ _ _ => rfl)
  · intro t v' e
    rw [hSeq]
    simp only [tmpOf] at e
    split at e
    · rename_i m hm
      injection e with e; injection e with e1 e2; subst e1; subst e2
      exact ⟨(hdst _ hm).1, x, hv, put_eq hm⟩
    · cases e
  · intro e
    simp only [tmpOf] at e
    split at e
    · cases e
    · rename_i hm; rw [hm]; rfl
  · intro m it2 h; simp [findI] at h
  · intro m it2 h
    rw [hSeq]
    rw [findI_cons] at h
    split at h
    · rename_i e; injection h with h; subst h; subst e; exact hs.hold _ _ hi
    · simp [findI] at h
  · intro m it2 p h; simp [findI] at h

theorem wp_copy (hΘ : TypesOk P Θ) (hI : ∀ n it, I n = some it → s.I n = some it) {c : Call} {x y : AV} (hdst : ∀ n, o.dst = some n → s.Dst n) (hb : c.callee = .builtin .copy) (hargs : evAll (evO s.T) c.args.toList = [x, y]) (ho : o.op = .call c)
    (h : (copyD Θ I o.dst c.argTypes.toList x y).Out P Γ d) : WpStep P s o d := by
  obtain ⟨p, q, hA, hp, hq⟩ := args_two hargs
  have run : ∀ (a : Act) (w : World), (execOp a.eval o).run P w = ((Builtin.copy_ c.argTypes o.type #[a.eval p, a.eval q]).run P w).andThen fun v w' => .ok (.value v) w' := by
    intro a w
    simp only [execOp, ho, resolve, hb, hA, Sem.run_bind, Sem.run_pure, Result.andThen_ok, invoke, builtin]
    simp
  unfold copyD at h
  split at h
  · rename_i ei sa xa he
    obtain ⟨t, e, h0, ht, hte, hok⟩ := elemOfArg_ok hΘ he
    split at h
    · -- from nil
      split at h
      · rename_i len hlen
        refine ValStep.wp (fun n hn => (hdst n hn).1) ?_
        rw [retV_out h]
        refine ⟨_, rfl, fun w0 Mu ρ a w hs => ⟨.int .i64 0, ?_, by simp [vi, RelV, RelSV, RelAt]⟩⟩
        obtain ⟨A, c', hX, _⟩ := slice_rel hI hlen (ev_one hs hp)
        have hY : a.eval q = .slice none 0 0 := by simpa [RelV, RelSV, RelAt] using ev_one hs hq
        rw [run, hX, hY]
        cases A <;> simp [Builtin.copy_, h0, run_underlying ht, run_sizeOf hok, Builtin.lenOf, Builtin.firstCells, goInt, storeCells]
      · exact h.elim
    · split at h
      · rename_i k' ys hdat
        -- the common part
        have main : ∀ (n b len : Nat) (f : Off) (k : IntKind) (xs : List Int) (it it' : Item), I n = some it → it.content b = some (k, xs) → k' = k → sliceLen I ei.size sa = some len → sa.begins = some (n, b, f) →
            it.setContent b (splice xs f (ys.take (mulE (min (rowLen ei.size ys) len) ei.size))) = some it' →
            WpStep P s o { tmp := tmpOf o.dst (vi .i64 (min (rowLen ei.size ys) len : Nat)), put := [(n, it')] } := by
          intro n b len f k xs it it' hi hc hk hlen hbg hset w0 Mu ρ a w Q hs
          subst hk
          obtain ⟨m, l, hsrc, hsl, _⟩ := sliceData_ok hs hI hdat (ev_one hs hq)
          have hes := hsrc.pos
          have hm : rowLen ei.size ys = m := by rw [rowLen_eq, hsrc.len, rl_mul hes]
          rw [hm] at hset ⊢
          obtain ⟨A, c2, hY, _⟩ := hsrc.val
          have hX0 := ev_one hs hp
          obtain ⟨A1, c1, hX1, _⟩ := slice_rel hI hlen hX0
          have hfirst := hsrc.firstN (n := min m len) (Nat.min_le_left _ _) (w' := w) rfl (P := P)
          rw [mulE_eq] at hset
          have hvl : (ys.take (min m len * ei.size)).length = min m len * ei.size := by
            rw [List.length_take, hsrc.len]
            have := Nat.mul_le_mul_right ei.size (Nat.min_le_left m len)
            omega
          by_cases hz : min m len = 0
          · rw [hz] at hset hfirst ⊢
            simp only [Nat.zero_mul, List.take_zero] at hset hfirst
            have hsp : splice xs f [] = xs := by cases f <;> simp [splice]
            rw [hsp] at hset
            have := setContent_self hc hset
            subst this
            refine step_same hs (x := .int .i64 0) hdst (hI _ _ hi) ?_ (by simp [vi, RelV, RelSV, RelAt])
            rw [run, hX1, hY]
            rw [hY] at hfirst
            have hz' : Nat.min m len = 0 := hz
            simp only [List.map_nil] at hfirst
            cases A1 <;> simp [Builtin.copy_, h0, run_underlying ht, run_sizeOf hok, Builtin.lenOf, hz', hfirst, goInt, storeCells]
          · have hlpos : 0 < len := by omega
            obtain ⟨pp, c3, hloc, hX2, _, _, hbound⟩ := slice_addr hs hI hlen hbg hX0 hlpos
            have hi' := hI _ _ hi
            have hLen := (hs.hold n it hi').content hc
            have hle := hbound _ (S_of hi') _ hLen.1
            have hfit : f.val + (ys.take (min m len * ei.size)).length ≤ xs.length := by
              rw [hvl]
              have := Nat.mul_le_mul_right ei.size (Nat.min_le_right m len)
              omega
            have hvpos : 0 < min m len * ei.size := Nat.mul_pos (by omega) hes
            rw [splice_eq] at hset
            obtain ⟨g1, g2, g3, bl, T, d1, d2, g4, g5, g6, g7⟩ := (hs.hold n it hi').setContent hc (by omega) (by simp; omega) hset
            rw [g4] at hloc; injection hloc with hloc; subst hloc
            have hw := run_write (P := P) (e := f.val) (vs := ys.take (min m len * ei.size)) g5 hfit
            rw [g6] at hw
            refine step_put hs (x := .int .i64 (min m len : Nat)) (r := .value (.int .i64 (min m len : Nat))) hdst hi' g1 g4 g2 g3 ?_ (.inl rfl) (by simp [vi, RelV, RelSV, RelAt]) g7
            rw [run, hX2, hY]
            rw [hY] at hfirst
            have hmm : Nat.min m len = min m len := rfl
            simp only [Builtin.copy_, Sem.run_bind, Sem.run_pure, Result.andThen_ok, run_underlying ht, run_sizeOf hok, Builtin.lenOf, hmm, hfirst, hw, goInt, h0, List.getElem?_toArray, List.getElem?_cons_zero, List.getElem?_cons_succ]
        split at h
        · rename_i n
          split at h
          · rename_i k es xs hi
            split at h
            · rename_i hbb
              simp only [Bool.and_eq_true] at hbb
              have e1 := kindEq_iff.1 hbb.1; have e2 := beqT hbb.2
              subst e2
              have := main n 0 (rowLen ei.size xs) .z k xs _ (.row k ei.size (splice xs .z (ys.take (mulE (min (rowLen ei.size ys) (rowLen ei.size xs)) ei.size)))) hi rfl e1.symm (by simp [sliceLen, hi]) rfl rfl
              simp only [D.Out] at h; subst h
              exact this
            · exact h.elim
          · exact h.elim
        · rename_i n b f es len cc
          split at h
          · rename_i it hi
            split at h
            · rename_i k xs hc
              split at h
              · rename_i hbb
                simp only [Bool.and_eq_true] at hbb
                have e1 := kindEq_iff.1 hbb.1; have e2 := beqT hbb.2
                subst e2
                split at h
                · rename_i it' hset
                  have := main n b len f k xs it it' hi hc e1.symm (by simp [sliceLen]) rfl hset
                  simp only [D.Out] at h; subst h
                  exact this
                · exact h.elim
              · exact h.elim
            · exact h.elim
          · exact h.elim
        · exact h.elim
      · exact h.elim
  · exact h.elim

end

end Go.Eng

/- The engine, part P: calls. -/
namespace Go.Eng
open Go

theorem disj_iff {l m : List Nat} : disj l m = true ↔ ∀ n ∈ l, n ∉ m := by
  induction l with
  | nil => simp [disj]
  | cons a l ih =>
    simp only [disj]
    split
    · rename_i h; simp [memN_iff.1 h]
    · rename_i h; simp [ih, memN_false.1 h]

section
variable {P : Program} {Γ : Ctx} {Θ : Types} {s : AS} {o : Oper} {d : Delta} {I : Nat → Option Item}

theorem nameless {ρ : Rho} {S : Sh} {v : SV} {x : Value} (h : v.names = []) (r : RelSV ρ S v x) : RelSV rho0 sh0 v x := r.frame (by rw [h]; simp)
theorem namelessL {ρ : Rho} {S : Sh} {l : List At} {cs : List Value} (h : namesL l = []) (r : RelL ρ S l cs) : RelL rho0 sh0 l cs := r.frame (by rw [h]; simp)

def LocIn (s : AS) (ρ : Rho) (owned : Bool) (names : List Nat) (l : Option (Nat × Nat)) : Prop :=
  ∀ q, l = some q → ∃ n p it, n ∈ names ∧ s.I n = some it ∧ ρ.loc n = some p ∧ q.1 = p.1 ∧ (owned = true → it.owned = true)

theorem argOf_ok {w0 : World} {Mu : MuT} {ρ : Rho} {a : Act} {w : World} (hs : Sim w0 Mu ρ s a w) (hI : ∀ n it, I n = some it → s.I n = some it) {p : PM} {x : AV} {X : Value} {dv : DV} {vs ts : List Nat}
    (hpos : ∀ k es, (p = .view k es ∨ p = .own k es) → 0 < es) (h : argOf I p x = some (dv, vs, ts)) (r : RelV ρ s.S x X) :
    ∃ l t, ArgRel w p dv X l t ∧ LocIn s ρ p.owned (if p.owned then ts else vs) l ∧
      (∀ n ∈ ts, ∃ it, s.I n = some it ∧ it.owned = true ∧ (∀ q, ρ.loc n = some q → l = some q)) ∧
      (∀ q, l = some q → p.owned = true → ∃ n ∈ ts, ρ.loc n = some q) := by
  cases p with
  | val =>
    cases x with
    | s v =>
      simp only [argOf] at h
      split at h
      · rename_i hn
        injection h with h; injection h with h1 h2; injection h2 with h2 h3; subst h1; subst h2; subst h3
        exact ⟨none, 0, ⟨hn, nameless hn r, rfl⟩, (fun q hq => by cases hq), by simp, (fun q hq => by cases hq)⟩
      · cases h
    | t l => simp [argOf] at h
  | view k es =>
    have he := hpos k es (.inl rfl)
    cases x with
    | t l => simp [argOf] at h
    | s v =>
      cases v with
      | agg l => simp [argOf] at h
      | one a' =>
        simp only [argOf] at h
        split at h
        · injection h with h; injection h with h1 h2; injection h2 with h2 h3; subst h1; subst h2; subst h3
          have hX : X = .slice none 0 0 := by simpa [RelV, RelSV, RelAt] using r
          subst hX
          exact ⟨none, 0, ⟨rfl, rfl, he, 0, by simp, none, 0, rfl, Nat.le_refl _, by simp, fun i x hx => by simp at hx, by simp⟩, (fun q hq => by cases hq), by simp, (fun q hq => by cases hq)⟩
        · split at h
          · rename_i k' xs hd
            split at h
            · rename_i hk
              injection h with h; injection h with h1 h2; injection h2 with h2 h3; subst h1; subst h2; subst h3
              have := kindEq_iff.1 hk; subst this
              obtain ⟨m, l, hsrc, _, hl⟩ := sliceData_ok hs hI hd r
              obtain ⟨A, c, hX, hc, hA⟩ := hsrc.val
              refine ⟨l, 0, ⟨rfl, rfl, he, m, hsrc.len, A, c, hX, hc, hA, hsrc.view, ?_⟩, ?_, by simp, ?_⟩
              · intro q hq
                obtain ⟨n, p, it, _, h1, h2, h3⟩ := hl q hq
                rw [h3]; exact hs.lt n it p h1 h2
              · intro q hq
                obtain ⟨n, p, it, h0, h1, h2, h3⟩ := hl q hq
                exact ⟨n, p, it, by simpa [PM.owned] using h0, h1, h2, h3, by simp [PM.owned]⟩
              · intro q _ h; simp [PM.owned] at h
            · cases h
          · cases h
  | own k es =>
    have he := hpos k es (.inr rfl)
    cases x with
    | t l => simp [argOf] at h
    | s v =>
      cases v with
      | agg l => simp [argOf] at h
      | one a' =>
        simp only [argOf] at h
        split at h
        · injection h with h; injection h with h1 h2; injection h2 with h2 h3; subst h1; subst h2; subst h3
          have hX : X = .slice none 0 0 := by simpa [RelV, RelSV, RelAt] using r
          subst hX
          exact ⟨none, 0, ⟨rfl, rfl, he, 0, by simp, 0, rfl, Nat.le_refl _, fun _ => rfl, by simp, .inl ⟨rfl, rfl, rfl⟩⟩, (fun q hq => by cases hq), by simp, (fun q hq => by cases hq)⟩
        · rename_i n
          split at h
          · rename_i k' es' xs hi
            split at h
            · rename_i hb
              injection h with h; injection h with h1 h2; injection h2 with h2 h3; subst h1; subst h2; subst h3
              simp only [Bool.and_eq_true] at hb
              have e1 := kindEq_iff.1 hb.1; have e2 := beqT hb.2; subst e1; subst e2
              have hi' := hI _ _ hi
              have r' : RelAt ρ s.S (.own n) [X] := r
              simp only [RelAt, S_of hi', Item.shape, List.cons.injEq, and_true] at r'
              obtain ⟨c, g1, g2, g3, g4⟩ := r'
              obtain ⟨_, ⟨m, pm⟩, hrow⟩ := hs.hold _ _ hi'
              rw [pm, rl_mul he] at g1 g2
              refine ⟨ρ.loc n, ρ.tot n, ⟨rfl, rfl, he, m, pm, c, g1, g2, g3, g4, hrow⟩, ?_, ?_, ?_⟩
              · intro q hq
                exact ⟨n, q, _, by simp [PM.owned], hi', hq, rfl, fun _ => rfl⟩
              · intro n' hn'
                simp only [List.mem_singleton] at hn'; subst hn'
                exact ⟨_, hi', rfl, fun q hq => hq⟩
              · intro q hq _
                exact ⟨n, by simp, hq⟩
            · cases h
          · cases h
        · cases h
  | mt =>
    cases x with
    | t l => simp [argOf] at h
    | s v =>
      cases v with
      | agg l => simp [argOf] at h
      | one a' =>
        simp only [argOf] at h
        split at h
        · injection h with h; injection h with h1 h2; injection h2 with h2 h3; subst h1; subst h2; subst h3
          have hX : X = .pointer none := by simpa [RelV, RelSV, RelAt] using r
          exact ⟨none, 0, ⟨hX, rfl⟩, (fun q hq => by cases hq), by simp, (fun q hq => by cases hq)⟩
        · rename_i n b f z
          split at h
          · split at h
            · split at h
              · rename_i l hi
                split at h
                · rename_i hn
                  split at h
                  · injection h with h; injection h with h1 h2; injection h2 with h2 h3; subst h1; subst h2; subst h3
                    have hi' := hI _ _ hi
                    obtain ⟨pp, g1, g2, _⟩ : RelAt ρ s.S (.ptr n 0 .z z) [X] := r
                    simp only [List.cons.injEq, and_true] at g2
                    obtain ⟨b, T, cs, g3, g4, g5⟩ := hs.hold _ _ hi'
                    rw [g3] at g1; injection g1 with g1; subst g1
                    refine ⟨some (b, 0), 0, ⟨hn, b, T, cs, rfl, by rw [g2]; rfl, g4, namelessL hn g5⟩, ?_, ?_, ?_⟩
                    · intro q hq
                      injection hq with hq; subst hq
                      exact ⟨n, (b, 0), _, by simp [PM.owned], hi', g3, rfl, fun _ => rfl⟩
                    · intro n' hn'
                      simp only [List.mem_singleton] at hn'; subst hn'
                      exact ⟨_, hi', rfl, fun q hq => by rw [g3] at hq; exact hq⟩
                    · intro q hq _
                      injection hq with hq; subst hq
                      exact ⟨n, by simp, g3⟩
                  · cases h
                · cases h
              · cases h
            · cases h
          · cases h
        · cases h

/-- all arguments -/
theorem argsOf_ok {w0 : World} {Mu : MuT} {ρ : Rho} {a : Act} {w : World} (hs : Sim w0 Mu ρ s a w) (hI : ∀ n it, I n = some it → s.I n = some it) :
    ∀ {ps : List PM} {xs : List AV} {Xs : List Value} {ds : List DV} {vs ts : List Nat}, (∀ p ∈ ps, ∀ k es, (p = .view k es ∨ p = .own k es) → 0 < es) → argsOf I ps xs = some (ds, vs, ts) →
      Xs.length = xs.length → (∀ (i : Nat) x X, xs[i]? = some x → Xs[i]? = some X → RelV ρ s.S x X) →
      ∃ ℓ τ, ArgsRel w ps ds Xs ℓ τ ∧ (∀ i, LocIn s ρ false (vs ++ ts) (ℓ i)) ∧ (∀ (i : Nat) p, ps[i]? = some p → p.owned = true → LocIn s ρ true ts (ℓ i)) ∧
        (∀ n ∈ ts, ∃ it, s.I n = some it ∧ it.owned = true) ∧
        (∀ n ∈ ts, ∀ q, ρ.loc n = some q → ∃ (i : Nat) (p : PM), ps[i]? = some p ∧ p.owned = true ∧ ℓ i = some q) ∧ xs.length = ps.length
  | [], [], Xs, ds, vs, ts, _, h, hl, _ => by
    simp only [argsOf] at h
    injection h with h; injection h with h1 h2; injection h2 with h2 h3; subst h1; subst h2; subst h3
    have : Xs = [] := List.eq_nil_of_length_eq_zero hl
    subst this
    exact ⟨fun _ => none, fun _ => 0, ⟨rfl, rfl, by simp, fun _ _ => rfl, by simp⟩, (fun i q hq => by cases hq), by simp, by simp, by simp, rfl⟩
  | [], _ :: _, Xs, ds, vs, ts, _, h, _, _ => by simp [argsOf] at h
  | _ :: _, [], Xs, ds, vs, ts, _, h, _, _ => by simp [argsOf] at h
  | p :: ps, x :: xs, Xs, ds, vs, ts, hp, h, hl, hr => by
    simp only [argsOf] at h
    split at h
    · rename_i dv v1 t1 h1
      split at h
      · rename_i ds2 v2 t2 h2
        split at h
        · rename_i hd
          injection h with h; injection h with e1 e2; injection e2 with e2 e3; subst e1; subst e2; subst e3
          simp only [Bool.and_eq_true, disj_iff] at hd
          obtain ⟨hd1, hd2⟩ := hd
          cases Xs with
          | nil => simp at hl
          | cons X Xs =>
            obtain ⟨l, t, a1, a2, a3, a4⟩ := argOf_ok hs hI (hp p (by simp)) h1 (hr 0 x X rfl rfl)
            obtain ⟨ℓ, τ, b1, b2, b3, b4, b5, b6⟩ := argsOf_ok hs hI (Xs := Xs) (fun q hq => hp q (by simp [hq])) h2 (by simpa using hl) (fun i y Y hy hY => hr (i + 1) y Y (by simpa using hy) (by simpa using hY))
            have a2' : LocIn s ρ false (v1 ++ t1) l := fun q hq => by
              obtain ⟨n, p', it, g1, g2, g3, g4, _⟩ := a2 q hq
              refine ⟨n, p', it, ?_, g2, g3, g4, by simp⟩
              split at g1
              · exact List.mem_append.2 (.inr g1)
              · exact List.mem_append.2 (.inl g1)
            refine ⟨fun i => match i with | 0 => l | i + 1 => ℓ i, fun i => match i with | 0 => t | i + 1 => τ i, ⟨by simp [b1.lenD], by simp [b1.lenV], ?_, ?_, ?_⟩, ?_, ?_, ?_, ?_, by simp [b6]⟩
            · intro i q dd u hq hdd hu
              cases i with
              | zero => simp at hq hdd hu; subst hq; subst hdd; subst hu; exact a1
              | succ i => simp at hq hdd hu; exact b1.each i q dd u hq hdd hu
            · intro i hi
              cases i with
              | zero => simp at hi
              | succ i => exact b1.out i (by simpa using hi)
            · intro i j q u v hij hq ho hu hv
              cases i with
              | zero =>
                cases j with
                | zero => exact absurd rfl hij
                | succ j =>
                  simp only [List.getElem?_cons_zero, Option.some.injEq] at hq; subst hq
                  obtain ⟨n, hn, hn2⟩ := a4 u hu ho
                  obtain ⟨it, hn3, hn4, _⟩ := a3 n hn
                  obtain ⟨m, p', it', c1, c2, c3, c4, _⟩ := b2 j v hv
                  rw [c4]
                  exact hs.sep n m it it' u p' hn3 c2 hn4 (fun e => hd1 n hn (e ▸ c1)) hn2 c3
              | succ i =>
                simp only [List.getElem?_cons_succ] at hq
                cases j with
                | zero =>
                  obtain ⟨m, p', it', c1, c2, c3, c4, c5⟩ := b3 i q hq ho u hu
                  obtain ⟨n, p2, it2, d1, d2, d3, d4, _⟩ := a2' v hv
                  rw [c4, d4]
                  refine hs.sep m n it' it2 p' p2 c2 d2 (c5 rfl) (fun e => ?_) c3 d3
                  rcases List.mem_append.1 d1 with d1 | d1
                  · exact hd2 n d1 (e ▸ c1)
                  · exact hd1 n d1 (List.mem_append.2 (.inr (e ▸ c1)))
                | succ j => exact b1.sep i j q u v (by omega) hq ho hu hv
            · intro i q hq
              cases i with
              | zero =>
                obtain ⟨n, p', it, g1, g2⟩ := a2' q hq
                refine ⟨n, p', it, ?_, g2⟩
                simp only [List.mem_append] at g1 ⊢
                rcases g1 with g1 | g1
                · exact .inl (.inl g1)
                · exact .inr (.inl g1)
              | succ i =>
                obtain ⟨n, p', it, g1, g2⟩ := b2 i q hq
                refine ⟨n, p', it, ?_, g2⟩
                simp only [List.mem_append] at g1 ⊢
                rcases g1 with g1 | g1
                · exact .inl (.inr g1)
                · exact .inr (.inr g1)
            · intro i q hq ho u hu
              cases i with
              | zero =>
                simp only [List.getElem?_cons_zero, Option.some.injEq] at hq; subst hq
                obtain ⟨n, p', it, g1, g2, g3, g4, g5⟩ := a2 u hu
                rw [if_pos ho] at g1
                exact ⟨n, p', it, List.mem_append.2 (.inl g1), g2, g3, g4, fun _ => g5 ho⟩
              | succ i =>
                simp only [List.getElem?_cons_succ] at hq
                obtain ⟨n, p', it, g1, g2⟩ := b3 i q hq ho u hu
                exact ⟨n, p', it, List.mem_append.2 (.inr g1), g2⟩
            · intro n hn
              rcases List.mem_append.1 hn with hn | hn
              · obtain ⟨it, g1, g2, _⟩ := a3 n hn; exact ⟨it, g1, g2⟩
              · exact b4 n hn
            · intro n hn q hq
              rcases List.mem_append.1 hn with hn | hn
              · obtain ⟨it, g1, g2, g3⟩ := a3 n hn
                have hl := g3 q hq
                refine ⟨0, p, rfl, ?_, hl⟩
                -- it is handed over whole
                cases hpo : p.owned with
                | true => rfl
                | false =>
                  exfalso
                  cases p with
                  | val =>
                    cases x with
                    | s v => simp only [argOf] at h1; split at h1 <;> simp_all
                    | t l => simp [argOf] at h1
                  | view k es =>
                    cases x with
                    | t l => simp [argOf] at h1
                    | s v =>
                      cases v with
                      | agg l => simp [argOf] at h1
                      | one a' =>
                        simp only [argOf] at h1
                        split at h1
                        · simp_all
                        · split at h1
                          · split at h1 <;> simp_all
                          · cases h1
                  | own k es => simp [PM.owned] at hpo
                  | mt => simp [PM.owned] at hpo
              · obtain ⟨i, q', g1, g2, g3⟩ := b5 n hn q hq
                exact ⟨i + 1, q', by simpa using g1, g2, g3⟩
        · cases h
      · cases h
    · cases h

end

end Go.Eng

/- The engine, part Q: a call. -/
namespace Go.Eng
open Go

section
variable {P : Program} {Γ : Ctx} {Θ : Types} {s : AS} {o : Oper} {d : Delta} {I : Nat → Option Item}

theorem resName_inj {d i j : Nat} (h : resName d i = resName d j) : i = j := by unfold resName at h; omega

/-- the names of results -/
theorem resOf_names {n : Nat} : ∀ {j : Nat} {rs : List RM} {outs : List DV} {vs : List SV} {its : List (Nat × Item)} {rest : List DV}, resOf n j rs outs = some (vs, its, rest) →
    (∀ m ∈ putNames its, ∃ i, j ≤ i ∧ i < j + rs.length ∧ m = resName n i) ∧ Nodup' its
  | j, [], outs, vs, its, rest, h => by
    simp only [resOf] at h
    injection h with h; injection h with h1 h2; injection h2 with h2 h3; subst h2
    exact ⟨by simp [putNames], trivial⟩
  | j, r :: rs, [], vs, its, rest, h => by simp [resOf] at h
  | j, r :: rs, out :: outs, vs, its, rest, h => by
    have step : ∀ {vs' its' rest'}, resOf n (j + 1) rs outs = some (vs', its', rest') → (∀ m ∈ putNames its', ∃ i, j ≤ i ∧ i < j + (r :: rs).length ∧ m = resName n i) ∧ Nodup' its' ∧ resName n j ∉ putNames its' := by
      intro vs' its' rest' h'
      obtain ⟨h1, h2⟩ := resOf_names h'
      refine ⟨fun m hm => ?_, h2, fun hm => ?_⟩
      · obtain ⟨i, g1, g2, g3⟩ := h1 m hm
        exact ⟨i, by omega, by simp only [List.length_cons]; omega, g3⟩
      · obtain ⟨i, g1, g2, g3⟩ := h1 _ hm
        have := resName_inj g3; omega
    have cons : ∀ {its'} (it : Item), (∀ m ∈ putNames its', ∃ i, j ≤ i ∧ i < j + (r :: rs).length ∧ m = resName n i) ∧ Nodup' its' ∧ resName n j ∉ putNames its' →
        (∀ m ∈ putNames ((resName n j, it) :: its'), ∃ i, j ≤ i ∧ i < j + (r :: rs).length ∧ m = resName n i) ∧ Nodup' ((resName n j, it) :: its') := by
      intro its' it ⟨h1, h2, h3⟩
      refine ⟨fun m hm => ?_, h3, h2⟩
      simp only [putNames, List.mem_cons] at hm
      rcases hm with rfl | hm
      · exact ⟨j, Nat.le_refl _, by simp, rfl⟩
      · exact h1 m hm
    simp only [resOf] at h
    split at h
    · split at h
      · split at h
        · rename_i vs' its' rest' h'
          injection h with h; injection h with h1 h2; injection h2 with h2 h3; subst h2
          have := step h'; exact ⟨this.1, this.2.1⟩
        · cases h
      · cases h
    · split at h
      · split at h
        · rename_i vs' its' rest' h'
          injection h with h; injection h with h1 h2; injection h2 with h2 h3; subst h2
          exact cons _ (step h')
        · cases h
      · cases h
    · split at h
      · split at h
        · rename_i vs' its' rest' h'
          injection h with h; injection h with h1 h2; injection h2 with h2 h3; subst h2
          exact cons _ (step h')
        · cases h
      · cases h
    · split at h
      · rename_i vs' its' rest' h'
        injection h with h; injection h with h1 h2; injection h2 with h2 h3; subst h2
        have := step h'; exact ⟨this.1, this.2.1⟩
      · cases h
    · cases h

/-- what results are, in the new state -/
theorem resOf_ok {n : Nat} {ρ' : Rho} {S' : Sh} {w' : World} : ∀ {j : Nat} {rs : List RM} {os rest0 : List DV} {Xs : List Value} {vs : List SV} {its : List (Nat × Item)} {rest : List DV} {μ : Nat → Option (Nat × Nat)} {τ : Nat → Nat},
    resOf n j rs (os ++ rest0) = some (vs, its, rest) → os.length = rs.length → Xs.length = rs.length →
    (∀ (i : Nat) r ov x, rs[i]? = some r → os[i]? = some ov → Xs[i]? = some x → ResRel w' r ov x (μ (j + i)) (τ (j + i))) →
    (∀ i, i < rs.length → resName n (j + i) ∈ putNames its → ρ'.loc (resName n (j + i)) = μ (j + i) ∧ ρ'.tot (resName n (j + i)) = τ (j + i)) →
    (∀ m it, findI m its = some it → S' m = some it.shape) →
    rest = rest0 ∧ RelT ρ' S' vs Xs ∧ (∀ m it, findI m its = some it → HoldI ρ' S' m w' it) ∧ vs.length = rs.length
  | j, [], os, rest0, Xs, vs, its, rest, μ, τ, h, h1, h2, _, _, _ => by
    have : os = [] := List.eq_nil_of_length_eq_zero h1
    subst this
    have : Xs = [] := List.eq_nil_of_length_eq_zero h2
    subst this
    simp only [resOf, List.nil_append] at h
    injection h with h; injection h with h1 h2; injection h2 with h2 h3; subst h1; subst h2; subst h3
    exact ⟨rfl, rfl, by simp [findI], rfl⟩
  | j, r :: rs, [], rest0, Xs, vs, its, rest, μ, τ, h, h1, h2, _, _, _ => by simp at h1
  | j, r :: rs, ov :: os, rest0, [], vs, its, rest, μ, τ, h, h1, h2, _, _, _ => by simp at h2
  | j, r :: rs, ov :: os, rest0, x :: Xs, vs, its, rest, μ, τ, h, h1, h2, hres, hloc, hS => by
    have hr0 := hres 0 r ov x rfl rfl rfl
    have hl0 := hloc 0 (by simp)
    rw [Nat.add_zero] at hr0 hl0
    have hl0 : ∀ it its', its = (resName n j, it) :: its' → ρ'.loc (resName n j) = μ j ∧ ρ'.tot (resName n j) = τ j := fun it its' e => hl0 (by rw [e]; simp [putNames])
    have tail : ∀ {vs' its' rest'}, resOf n (j + 1) rs (os ++ rest0) = some (vs', its', rest') → (∀ m ∈ putNames its', m ∈ putNames its) → (∀ m it, findI m its' = some it → S' m = some it.shape) →
        rest' = rest0 ∧ RelT ρ' S' vs' Xs ∧ (∀ m it, findI m its' = some it → HoldI ρ' S' m w' it) ∧ vs'.length = rs.length := by
      intro vs' its' rest' h' hsub hS'
      refine resOf_ok (μ := μ) (τ := τ) h' (by simpa using h1) (by simpa using h2) ?_ ?_ hS'
      · intro i r' o' x' a1 a2 a3
        have := hres (i + 1) r' o' x' (by simpa using a1) (by simpa using a2) (by simpa using a3)
        rwa [show j + (i + 1) = j + 1 + i by omega] at this
      · intro i hi hmem
        have := hloc (i + 1) (by simp; omega)
        rw [show j + (i + 1) = j + 1 + i by omega] at this
        exact this (hsub _ hmem)
    have consS : ∀ {its' : List (Nat × Item)} {it : Item}, Nodup' ((resName n j, it) :: its') → (∀ m i, findI m ((resName n j, it) :: its') = some i → S' m = some i.shape) → (∀ m i, findI m its' = some i → S' m = some i.shape) := by
      intro its' it hnd hS m i hm
      refine hS m i ?_
      rw [findI_cons, if_neg]
      · exact hm
      · rintro rfl
        exact hnd.1 (putNames_iff.2 ⟨i, findI_mem hm⟩)
    have hnd := (resOf_names h).2
    simp only [resOf, List.cons_append] at h
    split at h
    · rename_i sv
      split at h
      · rename_i hn
        split at h
        · rename_i vs' its' rest' h'
          injection h with h; injection h with e1 e2; injection e2 with e2 e3; subst e1; subst e2; subst e3
          obtain ⟨g1, g2, g3, g4⟩ := tail h' (fun m hm => hm) hS
          obtain ⟨_, hr, _⟩ := hr0
          exact ⟨g1, ⟨x, Xs, rfl, RelSV.frame (by rw [hn]; simp) hr, g2⟩, g3, by simp [g4]⟩
        · cases h
      · cases h
    · rename_i k es k' es' xs
      split at h
      · rename_i hb
        split at h
        · rename_i vs' its' rest' h'
          injection h with h; injection h with e1 e2; injection e2 with e2 e3; subst e1; subst e2; subst e3
          obtain ⟨g1, g2, g3, g4⟩ := tail h' (fun m hm => .tail _ hm) (consS hnd hS)
          have hl0 := hl0 _ _ rfl
          obtain ⟨c1, c2, c3, m, c4, c, c5, c6, c7, c8, c9⟩ := hr0
          have hSn := hS (resName n j) _ (by rw [findI_cons, if_pos rfl])
          refine ⟨g1, ⟨x, Xs, rfl, ?_, g2⟩, ?_, by simp [g4]⟩
          · show RelAt ρ' S' (.own (resName n j)) [x]
            simp only [RelAt, hSn, Item.shape, hl0.1, hl0.2]
            rw [c4, rl_mul c3]
            exact ⟨c, by rw [c5], c6, c7, c8⟩
          · intro mm it hm
            rw [findI_cons] at hm
            split at hm
            · rename_i e
              injection hm with hm; subst hm; subst e
              exact ⟨c3, ⟨m, c4⟩, by rw [hl0.1, hl0.2]; exact c9⟩
            · exact g3 mm it hm
        · cases h
      · cases h
    · rename_i l
      split at h
      · rename_i hn
        split at h
        · rename_i vs' its' rest' h'
          injection h with h; injection h with e1 e2; injection e2 with e2 e3; subst e1; subst e2; subst e3
          obtain ⟨g1, g2, g3, g4⟩ := tail h' (fun m hm => .tail _ hm) (consS hnd hS)
          have hl0 := hl0 _ _ rfl
          obtain ⟨_, b, T, cs, c1, c2, c3, c4⟩ := hr0
          have hSn := hS (resName n j) _ (by rw [findI_cons, if_pos rfl])
          refine ⟨g1, ⟨x, Xs, rfl, ?_, g2⟩, ?_, by simp [g4]⟩
          · refine ⟨(b, 0), by rw [hl0.1, c1], by rw [c2]; rfl, ?_⟩
            intro sh hsh L hL
            rw [hSn] at hsh
            injection hsh with hsh; subst hsh
            simp [Item.shape, Shape.isObj]
          · intro mm it hm
            rw [findI_cons] at hm
            split at hm
            · rename_i e
              injection hm with hm; subst hm; subst e
              exact ⟨b, T, cs, by rw [hl0.1, c1], c3, RelL.frame (by rw [hn]; simp) c4⟩
            · exact g3 mm it hm
        · cases h
      · cases h
    · split at h
      · rename_i vs' its' rest' h'
        injection h with h; injection h with e1 e2; injection e2 with e2 e3; subst e1; subst e2; subst e3
        obtain ⟨g1, g2, g3, g4⟩ := tail h' (fun m hm => hm) hS
        obtain ⟨hr, _⟩ := hr0
        exact ⟨g1, ⟨x, Xs, rfl, by rw [hr]; rfl, g2⟩, g3, by simp [g4]⟩
      · cases h
    · cases h

theorem tupOf_rel {ρ : Rho} {S : Sh} {vs : List SV} {Xs : List Value} (h : RelT ρ S vs Xs) : RelV ρ S (tupOf vs) (resVal Xs) := by
  cases vs with
  | nil => simp only [RelT] at h; subst h; exact ⟨[], rfl, rfl⟩
  | cons a l =>
    obtain ⟨x, r, rfl, h1, h2⟩ := h
    cases l with
    | nil => simp only [RelT] at h2; subst h2; exact h1
    | cons b l =>
      obtain ⟨y, r', rfl, h3, h4⟩ := h2
      exact ⟨x :: y :: r', rfl, x, _, rfl, h1, y, r', rfl, h3, h4⟩

theorem argsOf_get : ∀ {ps : List PM} {xs : List AV} {ds : List DV} {vs ts : List Nat} {i : Nat} {p : PM}, argsOf I ps xs = some (ds, vs, ts) → ps[i]? = some p → ∃ x dv v1 t1, xs[i]? = some x ∧ argOf I p x = some (dv, v1, t1)
  | [], xs, ds, vs, ts, i, p, _, hp => by simp at hp
  | p0 :: ps, [], ds, vs, ts, i, p, h, hp => by simp [argsOf] at h
  | p0 :: ps, x :: xs, ds, vs, ts, i, p, h, hp => by
    simp only [argsOf] at h
    split at h
    · rename_i dv v1 t1 h1
      split at h
      · rename_i ds2 v2 t2 h2
        cases i with
        | zero => simp at hp; subst hp; exact ⟨x, dv, v1, t1, rfl, h1⟩
        | succ i => simp at hp; obtain ⟨y, g⟩ := argsOf_get h2 hp; exact ⟨y, by simpa using g⟩
      · cases h
    · cases h

theorem ownsOf_get : ∀ {ps : List PM} {xs : List AV} {i n : Nat} {k : IntKind} {es : Nat}, ps[i]? = some (.own k es) → xs[i]? = some (.s (.one (.own n))) → n ∈ ownsOf ps xs
  | [], xs, i, n, k, es, hp, _ => by simp at hp
  | p0 :: ps, [], i, n, k, es, _, hx => by simp at hx
  | p0 :: ps, x :: xs, i, n, k, es, hp, hx => by
    cases i with
    | zero =>
      simp at hp hx; subst hp; subst hx
      simp [ownsOf]
    | succ i =>
      simp at hp hx
      have := ownsOf_get hp hx
      simp only [ownsOf]
      split
      · split
        · exact .tail _ this
        · exact this
      · exact this

theorem adr_inj {p q : Nat × Nat} {k : Nat} (h : adr p k = adr q k) : p = q := by
  unfold adr at h
  injection h with h1 h2
  exact Prod.ext h1 (by omega)

/-- the names of what is handed over -/
theorem own_name {w0 : World} {Mu : MuT} {ρ : Rho} {a : Act} {w : World} (hs : Sim w0 Mu ρ s a w) (hI : ∀ n it, I n = some it → s.I n = some it) {p : PM} {x : AV} {X : Value} {dv dv' : DV} {v1 t1 : List Nat} {l : Option (Nat × Nat)} {t : Nat}
    (h : argOf I p x = some (dv, v1, t1)) (ho : p.owned = true) (ha : ArgRel w p dv' X l t) (r : RelV ρ s.S x X) {q : Nat × Nat} (hq : l = some q) :
    ∃ n it, s.I n = some it ∧ it.owned = true ∧ ρ.loc n = some q ∧ ((∃ k es, p = .own k es ∧ x = .s (.one (.own n))) ∨ (p = .mt ∧ ∃ z l0, x = .s (.one (.ptr n 0 .z z)) ∧ I n = some (.obj l0))) := by
  subst hq
  cases p with
  | val => simp [PM.owned] at ho
  | view k es => simp [PM.owned] at ho
  | own k es =>
    cases x with
    | t l => simp [argOf] at h
    | s v =>
      cases v with
      | agg l => simp [argOf] at h
      | one a' =>
        simp only [argOf] at h
        split at h
        · exfalso
          have hX : X = .slice none 0 0 := by simpa [RelV, RelSV, RelAt] using r
          cases dv' with
          | lst k' es' xs =>
            obtain ⟨_, _, _, m, _, c, hv, _⟩ := ha
            rw [hX] at hv; simp at hv
          | v s => exact ha
          | fr _ _ => exact ha
          | obj l => exact ha
          | nilp => exact ha
        · rename_i n
          split at h
          · rename_i k' es' xs hi
            have hi' := hI _ _ hi
            refine ⟨n, _, hi', rfl, ?_, .inl ⟨k, es, rfl, rfl⟩⟩
            have r' : RelAt ρ s.S (.own n) [X] := r
            simp only [RelAt, S_of hi', Item.shape, List.cons.injEq, and_true] at r'
            obtain ⟨c, g1, _⟩ := r'
            cases dv' with
            | lst k2 es2 xs2 =>
              obtain ⟨_, _, _, m, _, c', hv, _⟩ := ha
              rw [g1] at hv
              injection hv with hv _ _
              simp only [Option.map_some, Option.map_eq_some_iff] at hv
              obtain ⟨q', hq', e⟩ := hv
              rw [hq', adr_inj e]
            | v s => exact ha.elim
            | fr _ _ => exact ha.elim
            | obj l => exact ha.elim
            | nilp => exact ha.elim
          · cases h
        · cases h
  | mt =>
    cases x with
    | t l => simp [argOf] at h
    | s v =>
      cases v with
      | agg l => simp [argOf] at h
      | one a' =>
        simp only [argOf] at h
        split at h
        · exfalso
          have hX : X = .pointer none := by simpa [RelV, RelSV, RelAt] using r
          cases dv' with
          | obj l =>
            obtain ⟨_, b, T, cs, _, hv, _⟩ := ha
            rw [hX] at hv; cases hv
          | nilp => have := ha.2; cases this
          | v s => exact ha
          | fr _ _ => exact ha
          | lst k es xs => exact ha
        · rename_i n b f z
          split at h
          · split at h
            · split at h
              · rename_i l0 hi
                have hi' := hI _ _ hi
                obtain ⟨pp, g1, g2, _⟩ : RelAt ρ s.S (.ptr n 0 .z z) [X] := r
                simp only [List.cons.injEq, and_true] at g2
                refine ⟨n, _, hi', rfl, ?_, .inr ⟨rfl, z, l0, rfl, hi⟩⟩
                cases dv' with
                | obj l =>
                  obtain ⟨_, b, T, cs, hl, hv, _⟩ := ha
                  injection hl with hl
                  rw [hv] at g2
                  injection g2 with g2
                  injection g2 with g2
                  simp only [Off.val, Nat.add_zero] at g2
                  rw [g1, ← adr_inj g2, hl]
                | nilp => have := ha.2; cases this
                | v s => exact ha.elim
                | fr _ _ => exact ha.elim
                | lst k es xs => exact ha.elim
              · cases h
            · cases h
          · cases h
        · cases h

theorem mutsOf_get : ∀ {ps : List PM} {xs : List AV} {outs : List DV} {ms : List (Nat × Item)} {i n z : Nat}, mutsOf I ps xs outs = some ms → ps[i]? = some .mt → xs[i]? = some (.s (.one (.ptr n 0 .z z))) → n ∈ putNames ms
  | [], xs, outs, ms, i, n, z, _, hp, _ => by simp at hp
  | p0 :: ps, [], outs, ms, i, n, z, h, _, hx => by simp at hx
  | p0 :: ps, x :: xs, outs, ms, i, n, z, h, hp, hx => by
    simp only [mutsOf] at h
    cases i with
    | zero =>
      simp at hp hx; subst hp; subst hx
      simp only at h
      split at h
      · cases h
      · split at h
        · rename_i e; cases e
        · rename_i e
          injection e with e; injection e with e; injection e with e1 _ _ _; subst e1
          split at h
          · split at h
            · split at h
              · injection h with h; subst h; simp [putNames]
              · cases h
            · cases h
          · cases h
        · cases h
    | succ i =>
      simp at hp hx
      split at h
      · split at h
        · cases h
        · split at h
          · exact mutsOf_get h hp hx
          · split at h
            · split at h
              · split at h
                · rename_i r hr
                  injection h with h; subst h
                  exact .tail _ (mutsOf_get hr hp hx)
                · cases h
              · cases h
            · cases h
          · cases h
      · exact mutsOf_get h hp hx

/-- what pointers lead to behind the call, as items -/
theorem mutsOf_ok {w0 : World} {Mu : MuT} {ρ : Rho} {a : Act} {w w' : World} (hs : Sim w0 Mu ρ s a w) (hI : ∀ n it, I n = some it → s.I n = some it) {ℓ : Nat → Option (Nat × Nat)} {τ : Nat → Nat} :
    ∀ {j : Nat} {ps : List PM} {xs : List AV} {Xs : List Value} {ds outs : List DV} {ms : List (Nat × Item)}, mutsOf I ps xs outs = some ms → MutRel w' ℓ j ps ds outs →
      (∀ (i : Nat) p dv v, ps[i]? = some p → ds[i]? = some dv → Xs[i]? = some v → ArgRel w p dv v (ℓ (j + i)) (τ (j + i))) → Xs.length = xs.length → (∀ (i : Nat) x X, xs[i]? = some x → Xs[i]? = some X → RelV ρ s.S x X) →
      (∀ (i : Nat) p x, ps[i]? = some p → xs[i]? = some x → ∃ dv v1 t1, argOf I p x = some (dv, v1, t1)) →
      ∀ n it, findI n ms = some it → ∃ l, it = .obj l ∧ namesL l = [] ∧ (∃ l0, s.I n = some (.obj l0) ∧ formsOf l = formsOf l0) ∧ ∃ b T cs, ρ.loc n = some (b, 0) ∧ w'.heap[b]? = some (.cells cs.toArray T (0, 0)) ∧ RelL rho0 sh0 l cs
  | j, [], [], Xs, ds, outs, ms, h, _, _, _, _, _ => by
    cases outs with
    | nil => simp only [mutsOf] at h; injection h with h; subst h; intro n it hh; simp [findI] at hh
    | cons a b => simp [mutsOf] at h
  | j, [], _ :: _, Xs, ds, outs, ms, h, _, _, _, _, _ => by simp [mutsOf] at h
  | j, _ :: _, [], Xs, ds, outs, ms, h, _, _, _, _, _ => by simp [mutsOf] at h
  | j, p :: ps, x :: xs, [], ds, outs, ms, h, _, _, hl, _, _ => by simp at hl
  | j, p :: ps, x :: xs, X :: Xs, [], outs, ms, h, hm, _, _, _, _ => by simp [MutRel] at hm
  | j, p :: ps, x :: xs, X :: Xs, dv :: ds, outs, ms, h, hm, ha, hl, hr, hg => by
    have tail : ∀ {outs' ms'}, mutsOf I ps xs outs' = some ms' → MutRel w' ℓ (j + 1) ps ds outs' → ∀ n it, findI n ms' = some it → ∃ l, it = .obj l ∧ namesL l = [] ∧ (∃ l0, s.I n = some (.obj l0) ∧ formsOf l = formsOf l0) ∧ ∃ b T cs, ρ.loc n = some (b, 0) ∧ w'.heap[b]? = some (.cells cs.toArray T (0, 0)) ∧ RelL rho0 sh0 l cs := by
      intro outs' ms' h' hm'
      refine mutsOf_ok (τ := τ) hs hI h' hm' (fun i p dv v a1 a2 a3 => ?_) (by simpa using hl) (fun i y Y a1 a2 => hr (i + 1) y Y (by simpa using a1) (by simpa using a2)) (fun i p y a1 a2 => hg (i + 1) p y (by simpa using a1) (by simpa using a2))
      have := ha (i + 1) p dv v (by simpa using a1) (by simpa using a2) (by simpa using a3)
      rwa [show j + (i + 1) = j + 1 + i by omega] at this
    have ha0 := ha 0 p dv X rfl rfl rfl
    rw [Nat.add_zero] at ha0
    obtain ⟨dv', v1, t1, hg0⟩ := hg 0 p x rfl rfl
    have hr0 := hr 0 x X rfl rfl
    simp only [mutsOf] at h
    simp only [MutRel] at hm
    cases p with
    | val => exact tail h hm
    | view k es => exact tail h hm
    | own k es => exact tail h hm
    | mt =>
      simp only at h hm
      split at h
      · cases h
      · rename_i out outs'
        split at h
        · rename_i _
          cases dv with
          | nilp =>
            obtain ⟨r, e, hm'⟩ := hm
            injection e with e1 e2; subst e2
            exact tail h hm'
          | obj l0 =>
            obtain ⟨l, r, e, _⟩ := hm
            injection e with e1 e2; cases e1
          | v s' => exact hm.elim
          | fr _ _ => exact hm.elim
          | lst k es xs' => exact hm.elim
        · rename_i n b f z l
          split at h
          · rename_i l0 hi
            split at h
            · rename_i hb
              simp only [Bool.and_eq_true] at hb
              split at h
              · rename_i r hr'
                injection h with h; subst h
                cases dv with
                | nilp =>
                  obtain ⟨r2, e, _⟩ := hm
                  injection e with e1 e2; cases e1
                | obj l00 =>
                  obtain ⟨l', r2, e, hn, hf, ⟨b2, T, cs, hl2, hh, hrel⟩, hm'⟩ := hm
                  injection e with e1 e2; injection e1 with e1; subst e1; subst e2
                  intro m it hmit
                  rw [findI_cons] at hmit
                  split at hmit
                  · rename_i e; subst e
                    injection hmit with hmit; subst hmit
                    obtain ⟨n2, it2, _, _, hloc, hcase⟩ := own_name (ρ := ρ) (w0 := w0) (Mu := Mu) (a := a) (w := w) hs hI hg0 rfl ha0 hr0 hl2
                    rcases hcase with ⟨k, es, e, _⟩ | ⟨_, z2, l02, e, hi2⟩
                    · cases e
                    · injection e with e; injection e with e; injection e with e1 _ _ _; subst e1
                      exact ⟨l, rfl, hn, ⟨l0, hI _ _ hi, (formEq_forms hb.1).symm⟩, b2, T, cs, hloc, hh, hrel⟩
                  · exact tail hr' hm' m it hmit
                | v s' => exact hm.elim
                | fr _ _ => exact hm.elim
                | lst k es xs' => exact hm.elim
              · cases h
            · cases h
          · cases h
        · cases h

theorem putNames_eq_map {l : List (Nat × Item)} : putNames l = l.map Prod.fst := by
  induction l with
  | nil => rfl
  | cons a l ih => cases a; simp [putNames, ih]

theorem evAll_length (T : Nat → AV) (l : List Operand) : (evAll (evO T) l).length = l.length := by rw [evAll_eq]; simp

theorem findI_isSome {n : Nat} {it : Item} : ∀ {l : List (Nat × Item)}, (n, it) ∈ l → (findI n l).isSome = true
  | [], h => by cases h
  | (u, v) :: l, h => by
    rw [findI_cons]
    split
    · rfl
    · rename_i hne
      cases h with
      | head => exact absurd rfl hne
      | tail _ h => exact findI_isSome h

/-- what is consumed is no pointer's block -/
theorem owns_ts {I : Nat → Option Item} : ∀ {ps : List PM} {xs : List AV} {ds : List DV} {vs ts : List Nat} {n : Nat}, argsOf I ps xs = some (ds, vs, ts) → n ∈ ownsOf ps xs → n ∈ ts
  | [], xs, ds, vs, ts, n, _, h => by simp [ownsOf] at h
  | p :: ps, [], ds, vs, ts, n, _, h => by simp [ownsOf] at h
  | p :: ps, x :: xs, ds, vs, ts, n, h, hn => by
    simp only [argsOf] at h
    split at h
    · rename_i dv v1 t1 h1
      split at h
      · rename_i ds2 v2 t2 h2
        split at h
        · injection h with h; injection h with e1 e2; injection e2 with e2 e3; subst e3
          simp only [ownsOf] at hn
          split at hn
          · split at hn
            · rename_i m
              rcases List.mem_cons.1 hn with rfl | hn
              · simp only [argOf] at h1
                split at h1
                · split at h1
                  · injection h1 with h1; injection h1 with _ h1; injection h1 with _ h1; subst h1; simp
                  · cases h1
                · cases h1
              · exact List.mem_append.2 (.inr (owns_ts h2 hn))
            · exact List.mem_append.2 (.inr (owns_ts h2 hn))
          · exact List.mem_append.2 (.inr (owns_ts h2 hn))
        · cases h
      · cases h
    · cases h

theorem muts_ts {I : Nat → Option Item} : ∀ {ps : List PM} {xs : List AV} {ds outs : List DV} {vs ts : List Nat} {ms : List (Nat × Item)} {n : Nat}, argsOf I ps xs = some (ds, vs, ts) → mutsOf I ps xs outs = some ms → n ∈ putNames ms → n ∈ ts
  | [], [], ds, outs, vs, ts, ms, n, _, h, hn => by
    cases outs with
    | nil => simp only [mutsOf] at h; injection h with h; subst h; simp [putNames] at hn
    | cons a b => simp [mutsOf] at h
  | [], _ :: _, ds, outs, vs, ts, ms, n, h, _, _ => by simp [argsOf] at h
  | _ :: _, [], ds, outs, vs, ts, ms, n, h, _, _ => by simp [argsOf] at h
  | p :: ps, x :: xs, ds, outs, vs, ts, ms, n, h, hm, hn => by
    simp only [argsOf] at h
    split at h
    · rename_i dv v1 t1 h1
      split at h
      · rename_i ds2 v2 t2 h2
        split at h
        · injection h with h; injection h with e1 e2; injection e2 with e2 e3; subst e3
          simp only [mutsOf] at hm
          split at hm
          · split at hm
            · cases hm
            · split at hm
              · exact List.mem_append.2 (.inr (muts_ts h2 hm hn))
              · rename_i m b f z l
                split at hm
                · split at hm
                  · split at hm
                    · rename_i r hr
                      injection hm with hm; subst hm
                      simp only [putNames, List.mem_cons] at hn
                      rcases hn with rfl | hn
                      · refine List.mem_append.2 (.inl ?_)
                        simp only [argOf] at h1
                        repeat (split at h1; first | (cases h1; done) | skip)
                        all_goals first
                          | (injection h1 with h1; injection h1 with _ h1; injection h1 with _ h1; subst h1; simp; done)
                          | cases h1
                      · exact List.mem_append.2 (.inr (muts_ts h2 hr hn))
                    · cases hm
                  · cases hm
                · cases hm
              · cases hm
          · exact List.mem_append.2 (.inr (muts_ts h2 hm hn))
        · cases h
      · cases h
    · cases h

theorem owns_not_mut {I : Nat → Option Item} : ∀ {ps : List PM} {xs : List AV} {ds outs : List DV} {vs ts : List Nat} {ms : List (Nat × Item)} {n : Nat}, argsOf I ps xs = some (ds, vs, ts) → mutsOf I ps xs outs = some ms → n ∈ ownsOf ps xs → n ∈ putNames ms → False
  | [], xs, ds, outs, vs, ts, ms, n, _, _, h, _ => by simp [ownsOf] at h
  | p :: ps, [], ds, outs, vs, ts, ms, n, _, _, h, _ => by simp [ownsOf] at h
  | p :: ps, x :: xs, ds, outs, vs, ts, ms, n, h, hm, ho, hn => by
    simp only [argsOf] at h
    split at h
    · rename_i dv v1 t1 h1
      split at h
      · rename_i ds2 v2 t2 h2
        split at h
        · rename_i hd
          simp only [Bool.and_eq_true, disj_iff] at hd
          simp only [mutsOf] at hm
          simp only [ownsOf] at ho
          split at hm
          · -- a pointer
            simp only at ho
            split at hm
            · cases hm
            · split at hm
              · exact owns_not_mut h2 hm ho hn
              · rename_i m b f z l
                split at hm
                · split at hm
                  · split at hm
                    · rename_i r hr
                      injection hm with hm; subst hm
                      simp only [putNames, List.mem_cons] at hn
                      rcases hn with rfl | hn
                      · have ht : n ∈ t1 := by
                          simp only [argOf] at h1
                          repeat (split at h1; first | (cases h1; done) | skip)
                          all_goals first
                            | (injection h1 with h1; injection h1 with _ h1; injection h1 with _ h1; subst h1; simp; done)
                            | cases h1
                        exact hd.1 n ht (List.mem_append.2 (.inr (owns_ts h2 ho)))
                      · exact owns_not_mut h2 hr ho hn
                    · cases hm
                  · cases hm
                · cases hm
              · cases hm
          · split at ho
            · split at ho
              · rename_i m
                rcases List.mem_cons.1 ho with rfl | ho
                · have ht : n ∈ t1 := by
                    simp only [argOf] at h1
                    split at h1
                    · split at h1
                      · injection h1 with h1; injection h1 with _ h1; injection h1 with _ h1; subst h1; simp
                      · cases h1
                    · cases h1
                  exact hd.1 n ht (List.mem_append.2 (.inr (muts_ts h2 hm hn)))
                · exact owns_not_mut h2 hm ho hn
              · exact owns_not_mut h2 hm ho hn
            · exact owns_not_mut h2 hm ho hn
        · cases h
      · cases h
    · cases h

theorem wp_callP (hΓ : CtxOk P Γ) (hI : ∀ n it, I n = some it → s.I n = some it) {c : Call} {g : Nat} {fi : FI} (hf : findF g Γ = some fi) (hk : fi.kind = .plain) (hdst : ∀ n, o.dst = some n → s.Dst n) (ho : o.op = .call c)
    (hrun : ∀ w0 Mu ρ a w, Sim w0 Mu ρ s a w → (execOp a.eval o).run P w = (callFunc g (c.args.map a.eval)).run P w)
    (h : (callP I fi o.dst g (evAll (evO s.T) c.args.toList)).Out P Γ d) : WpStep P s o d := by
  unfold callP at h
  split at h
  · rename_i n hd
    split at h
    · rename_i ds vs1 ts1 hargs
      obtain ⟨fi', outs, hf', hout, h⟩ := h
      rw [hf] at hf'; injection hf' with hf'; subst hf'
      have hout : Outcome P g fi.sig ds outs := by unfold OutK at hout; rw [hk] at hout; exact hout
      simp only at h
      split at h
      · rename_i svs its rest hres
        split at h
        · rename_i ms hms
          split at h
          · rename_i hdisj
            simp only [D.Out] at h; subst h
            have hsig := sig_pos (hΓ g fi hf).2
            intro w0 Mu ρ a w Q hs
            have hXlen : (c.args.toList.map a.eval).length = (evAll (evO s.T) c.args.toList).length := by rw [evAll_length]; simp
            have hXrel : ∀ (i : Nat) x X, (evAll (evO s.T) c.args.toList)[i]? = some x → (c.args.toList.map a.eval)[i]? = some X → RelV ρ s.S x X := by
              intro i x X h1 h2
              rw [evAll_eq, List.getElem?_map] at h1
              rw [List.getElem?_map] at h2
              simp only [Option.map_eq_some_iff] at h1 h2
              obtain ⟨p1, e1, rfl⟩ := h1
              obtain ⟨p2, e2, rfl⟩ := h2
              rw [e1] at e2; injection e2 with e2; subst e2
              exact relEv hs p1
            obtain ⟨ℓ, τ, hA, hin, hown, htown, htloc, hlen⟩ := argsOf_ok hs hI hsig hargs hXlen hXrel
            have hcalls := hout w (c.args.toList.map a.eval) ℓ τ hA
            have harr : c.args.map a.eval = (c.args.toList.map a.eval).toArray := by apply Array.ext'; simp
            have key : ∀ v w', Post w w' fi.sig ds outs ℓ v → ∃ ρ', Sim w0 Mu ρ' (s.apply { tmp := some (n, tupOf svs), fresh := its, put := ms, gone := ownsOf fi.sig.ps (evAll (evO s.T) c.args.toList) }) (a.put o.dst v) w' := ?_
            · unfold Oper.wp
              rw [hrun w0 Mu ρ a w hs]
              rcases hcalls with ⟨⟨fn, hfn, hbody, hname⟩, hcalls⟩ | ⟨v, hrunv, hp⟩
              · have hcf : (callFunc g (c.args.map a.eval)).run P w = .ok (.enter g (c.args.map a.eval)) w := by
                  have hbn : ¬ fn.body = none := by intro e; rw [e] at hbody; simp at hbody
                  simp [callFunc, hfn, hname, hbn]
                rw [hcf, Oper.upon_enter, harr]
                refine hcalls.mono fun e w' hpost => ?_
                obtain ⟨v, rfl, hp⟩ := hpost
                exact key v w' hp
              · rw [harr, hrunv, Oper.upon_value]
                exact key v w hp
            intro v w' hp
            obtain ⟨Xs, os, ms', μ, τ', hv, houts, hos, hXs, hresrel, hμ, hμsep, hmut⟩ := hp.ex
            subst hv
            -- the names of the results
            obtain ⟨hnames, hnd⟩ := resOf_names hres
            let idx : Nat → Nat := fun m => (m - n) / 4096
            have hidx : ∀ j, idx (resName n j) = j := fun j => by simp only [idx, resName]; omega
            let ρ' : Rho := { loc := fun m => if m ∈ putNames its then μ (idx m) else ρ.loc m, tot := fun m => if m ∈ putNames its then τ' (idx m) else ρ.tot m }
            have hρ : ∀ m, m ∉ putNames its → ρ'.loc m = ρ.loc m ∧ ρ'.tot m = ρ.tot m := fun m hm => by simp [ρ', hm]
            -- what pointers lead to
            have hget : ∀ (i : Nat) p x, fi.sig.ps[i]? = some p → (evAll (evO s.T) c.args.toList)[i]? = some x → ∃ dv v1 t1, argOf I p x = some (dv, v1, t1) := by
              intro i p x h1 h2
              obtain ⟨y, dv, v1, t1, e1, e2⟩ := argsOf_get hargs h1
              rw [e1] at h2; injection h2 with h2; subst h2
              exact ⟨dv, v1, t1, e2⟩
            have hrest : rest = ms' := by
              have := resOf_ok (ρ' := { loc := fun m => μ (idx m), tot := fun m => τ' (idx m) }) (S' := fun m => (findI m its).map Item.shape) (w' := w') (μ := μ) (τ := τ') (by rw [← houts]; exact hres) hos hXs (fun i r ov x a1 a2 a3 => by rw [Nat.zero_add]; exact hresrel i r ov x a1 a2 a3) (fun i hi _ => by simp [hidx]) (fun m it hm => by simp [hm])
              exact this.1
            rw [hrest] at hms
            have hmuts := mutsOf_ok (τ := τ) hs hI hms hmut (fun i p dv v a1 a2 a3 => by rw [Nat.zero_add]; exact hA.each i p dv v a1 a2 a3) hXlen hXrel hget
            have hfp : ∀ m it, findI m ms = some it → m ∉ putNames its := fun m it hm hin => disj_iff.1 hdisj m hin (putNames_iff.2 ⟨it, findI_mem hm⟩)
            -- the blocks that were handed over
            have hownb : ∀ b, OwnB fi.sig.ps ℓ b → ∃ m it q, s.I m = some it ∧ it.owned = true ∧ ρ.loc m = some q ∧ q.1 = b ∧ (m ∈ ownsOf fi.sig.ps (evAll (evO s.T) c.args.toList) ∨ m ∈ putNames ms) := by
              rintro b ⟨i, p, q, h1, h2, h3, h4⟩
              obtain ⟨y, dv, v1, t1, e1, e2⟩ := argsOf_get hargs h1
              obtain ⟨X, hX⟩ : ∃ X, (c.args.toList.map a.eval)[i]? = some X := by
                have hi := (List.getElem?_eq_some_iff.1 e1).1
                exact ⟨_, List.getElem?_eq_getElem (by rw [hXlen]; exact hi)⟩
              obtain ⟨dd, hdd⟩ : ∃ dd, ds[i]? = some dd := by
                have hi := (List.getElem?_eq_some_iff.1 h1).1
                exact ⟨_, List.getElem?_eq_getElem (by rw [hA.lenD]; exact hi)⟩
              obtain ⟨m, it, g1, g2, g3, g4⟩ := own_name (ρ := ρ) (w0 := w0) (Mu := Mu) (a := a) (w := w) hs hI e2 h2 (hA.each i p dd X h1 hdd hX) (hXrel i y X e1 hX) h3
              refine ⟨m, it, q, g1, g2, g3, h4, ?_⟩
              rcases g4 with ⟨k, es, rfl, rfl⟩ | ⟨rfl, z, l0, rfl, _⟩
              · exact .inl (ownsOf_get h1 e1)
              · exact .inr (mutsOf_get hms h1 e1)
            have good : Good ρ ρ' s { tmp := some (n, tupOf svs), fresh := its, put := ms, gone := ownsOf fi.sig.ps (evAll (evO s.T) c.args.toList) } w w' := by
              refine ⟨hnd, fun m hm => hρ m hm, ?_, ?_, hp.size, fun m hm => by
                obtain ⟨i, hi1, hi2, rfl⟩ := hnames m hm
                have h1 := (hdst n hd).2
                have h2 : i ≤ 64 := by
                  have h3 := (hΓ g fi hf).2
                  simp only [sigOk, Bool.and_eq_true] at h3
                  have h4 := ble_iff.1 h3.1
                  omega
                unfold resName hiN; omega, hp.still⟩
              · intro m it hm
                obtain ⟨l, rfl, hn, ⟨l0, h1, h2⟩, _⟩ := hmuts m it hm
                exact ⟨_, h1, by simp [Item.shape, h2], rfl, hfp m _ hm⟩
              · intro m it p hm _ hnp hng hloc
                refine hp.frame p.1 (hs.lt m it p hm hloc) fun hb => ?_
                obtain ⟨m2, it2, q, g1, g2, g3, g4, g5⟩ := hownb _ hb
                by_cases he : m2 = m
                · subst he
                  rcases g5 with g5 | g5
                  · exact hng g5
                  · obtain ⟨it3, h3⟩ := putNames_iff.1 g5
                    have : findI m2 ms ≠ none := by
                      intro hnone
                      have := findI_isSome h3
                      rw [hnone] at this; cases this
                    exact this hnp
                · exact hs.sep m2 m it2 it q p g1 hm g2 he g3 hloc g4
            have hSfresh : ∀ m it, findI m its = some it → (s.apply { tmp := some (n, tupOf svs), fresh := its, put := ms, gone := ownsOf fi.sig.ps (evAll (evO s.T) c.args.toList) }).S m = some it.shape := by
              intro m it hm
              apply S_of
              unfold AS.I AS.apply
              rw [findI_append, hm]
            obtain ⟨_, hrel, hhold, _⟩ := resOf_ok (ρ' := ρ') (S' := (s.apply { tmp := some (n, tupOf svs), fresh := its, put := ms, gone := ownsOf fi.sig.ps (evAll (evO s.T) c.args.toList) }).S) (w' := w') (μ := μ) (τ := τ') (by rw [← houts]; exact hres) hos hXs
              (fun i r ov x a1 a2 a3 => by rw [Nat.zero_add]; exact hresrel i r ov x a1 a2 a3) (fun i hi hmem => by rw [Nat.zero_add] at hmem ⊢; simp [ρ', hmem, hidx]) hSfresh
            refine ⟨ρ', sim_step hs good ?_ ?_ hhold ?_ ?_ ?_⟩
            · intro t v' e
              injection e with e; injection e with e1 e2; subst e1; subst e2
              exact ⟨(hdst _ hd).1, resVal Xs, tupOf_rel hrel, put_eq hd⟩
            · intro e; cases e
            · intro m it hm
              obtain ⟨l, rfl, hn, _, b, T, cs, h1, h2, h3⟩ := hmuts m it hm
              exact ⟨b, T, cs, by rw [(hρ m (hfp m _ hm)).1]; exact h1, h2, h3.frame (by rw [hn]; simp)⟩
            · intro m it p hm hloc
              have hmem : m ∈ putNames its := putNames_iff.2 ⟨it, findI_mem hm⟩
              have hloc' : μ (idx m) = some p := by simpa [ρ', hmem] using hloc
              obtain ⟨g1, g2, g3⟩ := hμ _ _ hloc'
              -- where the block comes from
              have hother : ∀ k jt q, s.I k = some jt → k ∉ ownsOf fi.sig.ps (evAll (evO s.T) c.args.toList) → ρ.loc k = some q → p.1 ≠ q.1 := by
                intro k jt q hk hng hq
                rcases g3 with g3 | ⟨i, kk, es, pp, h1, h2, h3⟩
                · have := hs.lt k jt q hk hq; omega
                · have : OwnB fi.sig.ps ℓ p.1 := ⟨i, _, pp, h1, rfl, h2, h3⟩
                  obtain ⟨y, dv, v1, t1, e1, e2⟩ := argsOf_get hargs h1
                  obtain ⟨X, hX⟩ : ∃ X, (c.args.toList.map a.eval)[i]? = some X := by
                    have hi := (List.getElem?_eq_some_iff.1 e1).1
                    exact ⟨_, List.getElem?_eq_getElem (by rw [hXlen]; exact hi)⟩
                  obtain ⟨dd, hdd⟩ : ∃ dd, ds[i]? = some dd := by
                    have hi := (List.getElem?_eq_some_iff.1 h1).1
                    exact ⟨_, List.getElem?_eq_getElem (by rw [hA.lenD]; exact hi)⟩
                  obtain ⟨m2, it2, c1, c2, c3, c4⟩ := own_name (ρ := ρ) (w0 := w0) (Mu := Mu) (a := a) (w := w) hs hI e2 rfl (hA.each i _ dd X h1 hdd hX) (hXrel i y X e1 hX) h2
                  rcases c4 with ⟨k2, es2, e, rfl⟩ | ⟨e, _⟩
                  · rw [← h3]
                    exact hs.sep m2 k it2 jt pp q c1 hk c2 (fun e => hng (e ▸ ownsOf_get h1 e1)) c3 hq
                  · cases e
              refine ⟨g2, ?_, ?_⟩
              · rcases g3 with g3 | ⟨i, kk, es, pp, h1, h2, h3⟩
                · exact .inl (Nat.le_trans hs.mono g3)
                · obtain ⟨m2, it2, q, c1, c2, c3, c4, _⟩ := hownb p.1 ⟨i, _, pp, h1, rfl, h2, h3⟩
                  rw [← c4]; exact hs.own m2 it2 q c1 c2 c3
              · intro k jt q hk hne hq
                rcases AS.apply_I hs.nd hk with h4 | ⟨h5, _, h4 | ⟨h6, h7, h4⟩⟩
                · have hmem2 : k ∈ putNames its := putNames_iff.2 ⟨jt, findI_mem h4⟩
                  have hq' : μ (idx k) = some q := by simpa [ρ', hmem2] using hq
                  refine hμsep _ _ _ _ (fun e => hne ?_) hloc' hq'
                  obtain ⟨i1, _, _, e1⟩ := hnames m hmem
                  obtain ⟨i2, _, _, e2⟩ := hnames k hmem2
                  rw [e1, e2, hidx, hidx] at e
                  rw [e1, e2, e]
                · rw [(hρ k h5).1] at hq
                  obtain ⟨l, e, _, ⟨l0, hk0, _⟩, _⟩ := hmuts k jt h4
                  refine hother k _ q hk0 (fun hin => ?_) hq
                  exact owns_not_mut hargs hms hin (putNames_iff.2 ⟨jt, findI_mem h4⟩)
                · rw [(hρ k h5).1] at hq
                  exact hother k jt q h4 h7 hq
            · intro b hb hm
              refine hp.frame b (Nat.lt_of_lt_of_le hb hs.mono) fun hbo => ?_
              obtain ⟨m2, it2, q, c1, c2, c3, c4, _⟩ := hownb b hbo
              rcases hs.own m2 it2 q c1 c2 c3 with h | h
              · omega
              · exact hm (c4 ▸ h)
          · exact h.elim
        · exact h.elim
      · exact h.elim
    · exact h.elim
  · exact h.elim

end

end Go.Eng

/- The engine, part QA: conversions. -/
namespace Go.Eng
open Go

section
variable {P : Program} {Γ : Ctx} {Θ : Types} {s : AS} {o : Oper} {d : Delta} {I : Nat → Option Item}

/-- the world with a block's end marked -/
def marked (w : World) (b n : Nat) : World := w.freeze { block := b, off := n } 1

theorem run_mark {w : World} {b l c : Nat} {t e : Nat} {cs : Array Value} {T : TypeId} {fr : Nat × Nat} (hu : P.underlying t = some (.slice e)) (he : P.underlying e = some (.int .u8)) (hb : w.heap[b]? = some (.cells cs T fr)) :
    (convert t t (.slice (some ⟨b, 0, none⟩) l c)).run P w = .ok (.slice (some ⟨b, 0, none⟩) l c) (marked w b cs.size) := by
  have hs : w.shape? b = some (T, cs.size) := by unfold World.shape?; rw [hb]
  simp [convert, run_underlying hu, run_underlying he, markStringish, hs, marked]

theorem marked_other (w : World) {b n b' : Nat} (h : b' ≠ b) : (marked w b n).heap[b']? = w.heap[b']? := by
  unfold marked World.freeze
  rw [if_neg (by omega)]
  show (w.heap.modify b _)[b']? = _
  rw [Array.getElem?_modify, if_neg (Ne.symm h)]

theorem marked_same (w : World) {b n : Nat} {cs : Array Value} {T : TypeId} {fr : Nat × Nat} (hb : w.heap[b]? = some (.cells cs T fr)) : ∃ fr', (marked w b n).heap[b]? = some (.cells cs T fr') := by
  unfold marked World.freeze
  rw [if_neg (by omega)]
  show ∃ fr', (w.heap.modify b _)[b]? = _
  rw [Array.getElem?_modify, if_pos rfl, hb]
  exact ⟨_, rfl⟩

theorem marked_size (w : World) (b n : Nat) : (marked w b n).heap.size = w.heap.size := by
  unfold marked World.freeze
  rw [if_neg (by omega)]
  show (w.heap.modify b _).size = _
  simp

theorem marked_still (w : World) (b n : Nat) : Still w (marked w b n) := by
  unfold marked World.freeze
  rw [if_neg (by omega)]
  exact ⟨rfl, rfl⟩

theorem wp_mark (hΘ : TypesOk P Θ) (hI : ∀ n it, I n = some it → s.I n = some it) (hdst : ∀ n, o.dst = some n → s.Dst n) {st e e' : Nat} {x : Operand} {n m es : Nat} {k : IntKind} {xs : List Int} (ho : o.op = .convert st st x)
    (ht : tyIs Θ st = some (.slice e)) (he : tyIs Θ e = some (.int .u8)) (hx : evO s.T x = .s (.one (.own n))) (hd : o.dst = some m) (hi : I n = some (.row k es xs)) (hpos : 1 ≤ xs.length) (hnm : n ≠ m) :
    WpStep P s o { tmp := some (m, va (.own m)), fresh := [(m, .view k es xs)], gone := [n] } := by
  intro w0 Mu ρ a w Q hs
  have hi' := hI _ _ hi
  obtain ⟨f1, ⟨mm, f2⟩, f3⟩ := hs.hold n _ hi'
  rcases f3 with ⟨_, f3, _⟩ | ⟨b, T, sp, f3, f4, f5⟩
  · rw [f3] at hpos; simp at hpos
  · have hX := ev_one hs hx
    simp only [RelV, RelSV, RelAt, S_of hi', Item.shape] at hX
    obtain ⟨c, g1, g2, g3, g4⟩ := hX
    rw [f3] at g1
    simp only [List.cons.injEq, and_true, Option.map_some, adr] at g1
    obtain ⟨dd, u1, u2⟩ := tyIs_ok hΘ ht
    cases dd <;> simp [TDesc] at u2
    subst u2
    obtain ⟨dd, v1, v2⟩ := tyIs_ok hΘ he
    cases dd <;> simp [TDesc] at v2
    subst v2
    have hown : ∀ j it q, s.I j = some it → j ≠ n → ρ.loc j = some q → q.1 ≠ b := fun j it q hj hne hq e =>
      hs.sep n j _ it (b, 0) q hi' hj rfl (Ne.symm hne) f3 hq e.symm
    obtain ⟨fr', hm⟩ := marked_same w (n := ((xs.map (Value.int k) ++ sp).toArray).size) f4
    refine step_fresh hs (marked_still w b ((xs.map (Value.int k) ++ sp).toArray).size) (w' := marked w b ((xs.map (Value.int k) ++ sp).toArray).size) (x := a.eval x) (l := some (b, 0)) (tot := 0) hd (hdst m hd) ?_ ?_ ?_ ?_ ?_ ?_ ?_
    · have := run_mark (P := P) (w := w) (l := rl es xs.length) (c := c) u1 v1 f4
      simp only [execOp, ho]
      rw [g1]
      simp only [Sem.run_bind, this, Result.andThen_ok, Sem.run_pure]
    · intro j it p hj _ hng hp
      exact marked_other w (hown j it p hj (by simpa using hng) hp)
    · rw [marked_size]; exact Nat.le_refl _
    · intro b' hb' hmu
      refine marked_other w fun e => ?_
      subst e
      rcases hs.own n _ (b', 0) hi' rfl f3 with h | h
      · simp only at h; omega
      · exact hmu h
    · intro S' hag hS
      refine ⟨f1, ⟨mm, f2⟩, ?_⟩
      intro i y hy
      refine ⟨(b, 0), Rho.set_loc _ _ _ _, ?_⟩
      unfold World.cell?
      simp only [adr, hm, Nat.zero_add]
      have hlt := (List.getElem?_eq_some_iff.1 hy).1
      simp [List.getElem?_append_left, hlt, hy]
      have := (List.getElem?_eq_some_iff.1 hy).2
      exact this
    · intro S' hag hS
      show RelAt _ S' (.own m) [_]
      simp only [RelAt, hS, Item.shape]
      rw [g1]
      exact ⟨_, c, rfl, g2, fun _ => by rw [Rho.set_loc]; rfl⟩
    · intro p hp
      injection hp with hp; subst hp
      refine ⟨by rw [marked_size]; exact hs.lt n _ _ hi' f3, hs.own n _ (b, 0) hi' rfl f3, ?_⟩
      intro j it q hj _ hng hq
      exact (hown j it q hj (by simpa using hng) hq).symm

theorem pushAll (w : World) : ∀ (xs : List Int) (s : ByteArray), (forIn (xs.map (Value.int .u8)) s (fun c r => (match c with
      | .int .u8 n => pure (ForInStep.yield (r.push (UInt8.ofNat n.toNat)))
      | _ => do
        stuck "bytesToString: byte expected"
        pure (ForInStep.yield r) : Sem (ForInStep ByteArray)))).run P w = .ok (xs.foldl (fun s x => s.push (UInt8.ofNat x.toNat)) s) w
  | [], s => by simp
  | x :: xs, s => by
    simp only [List.map_cons, List.forIn_cons, Sem.run_bind, Sem.run_pure, Result.andThen_ok, List.foldl_cons]
    exact pushAll w xs _

theorem run_bts {w : World} {A : Addr} {m c : Nat} {xs : List Int} (h : (loadCells A m).run P w = .ok (xs.map (Value.int .u8)).toArray w) :
    (Conv.bytesToString (.slice (some A) m c)).run P w = .ok (.string (mkBytes xs)) w := by
  unfold Conv.bytesToString
  simp only [Sem.run_bind, h, Result.andThen_ok]
  rw [← Array.forIn_toList]
  have := pushAll (P := P) w xs ByteArray.empty
  exact (congrArg (fun r => Result.andThen r fun a w' => Sem.run P (pure (Value.string a)) w') this).trans rfl

theorem val_str (hΘ : TypesOk P Θ) (hI : ∀ n it, I n = some it → s.I n = some it) {st dt e : Nat} {x : Operand} {xa : At} {xs : List Int} (ho : o.op = .convert st dt x)
    (ht : tyIs Θ dt = some .str) (hst : tyIs Θ st = some (.slice e)) (he : tyIs Θ e = some (.int .u8)) (hx : evO s.T x = .s (.one xa)) (hd : sliceData I 1 xa = some (.u8, xs))
    (h : (retV o.dst (va (.raw (.string (mkBytes xs))))).Out P Γ d) : ValStep P s o d := by
  rw [retV_out h]
  refine ⟨_, rfl, fun w0 Mu ρ a w hs => ?_⟩
  obtain ⟨dd, h1, h2⟩ := tyIs_ok hΘ ht
  obtain ⟨sd, hs1, hs2⟩ := tyIs_ok hΘ hst
  obtain ⟨ed, he1, he2⟩ := tyIs_ok hΘ he
  cases dd <;> simp [TDesc] at h2
  cases sd <;> simp [TDesc] at hs2
  cases ed <;> simp [TDesc] at he2
  subst hs2; subst he2
  obtain ⟨m, l, hsrc, _⟩ := sliceData_ok hs hI hd (ev_one hs hx)
  obtain ⟨A, c, hX, hc, hA⟩ := hsrc.val
  have hr : (Conv.bytesToString (a.eval x)).run P w = .ok (.string (mkBytes xs)) w := by
    rw [hX]
    cases A with
    | none =>
      have hm : m = 0 := by
        by_cases h0 : 0 < m
        · have := hA h0
          have hpos : 0 < xs.length := by rw [hsrc.len]; omega
          obtain ⟨p, hp, _⟩ := hsrc.view 0 xs[0] (List.getElem?_eq_getElem hpos)
          rw [hp] at this; cases this
        · omega
      have : xs = [] := List.eq_nil_of_length_eq_zero (by simp [hsrc.len, hm])
      subst this
      simp [Conv.bytesToString, mkBytes]
    | some A =>
      refine run_bts ?_
      have := hsrc.firstN (P := P) (w' := w) (n := m) (Nat.le_refl _) rfl
      rw [hX] at this
      rw [List.take_of_length_le (by rw [hsrc.len]; omega)] at this
      simpa [Builtin.firstCells] using this
  refine ⟨.string (mkBytes xs), ?_, by simp [va, RelV, RelSV, RelAt, Value.oneCell']⟩
  have hcv : (convert st dt (a.eval x)).run P w = .ok (.string (mkBytes xs)) w := by
    rw [hX] at hr ⊢
    cases A <;> simp [convert, run_underlying hs1, run_underlying h1, run_underlying he1, hr]
  simp [execOp, ho, hcv]

theorem wp_convert (hΘ : TypesOk P Θ) (hI : ∀ n it, I n = some it → s.I n = some it) (hdst : ∀ n, o.dst = some n → s.Dst n) {st dt : Nat} {x : Operand} (ho : o.op = .convert st dt x)
    (h : (stepCore Θ Γ (.convert st dt x) o.dst (evO s.T) I).Out P Γ d) : WpStep P s o d := by
  simp only [stepCore] at h
  split at h
  · rename_i k sd k' n ht hst hx
    exact (val_convert_int hΘ ho ht hst hx h).wp (fun n hn => (hdst n hn).1)
  · rename_i e e' n ht hst hx
    split at h
    · rename_i m k es xs hd hi he
      obtain ⟨hc, h2⟩ := chk_out h
      have h2 : d = _ := h2
      subst h2
      clear h
      simp only [Bool.and_eq_true, Bool.not_eq_true'] at hc
      obtain ⟨c1, c2, c3⟩ := hc
      have c1 := beqT c1
      subst c1
      exact wp_mark (e' := 0) hΘ hI hdst ho ht he hx hd hi (ble_iff.1 c2) (beqN c3)
    · exact h.elim
  · rename_i e a ht hst hx
    split at h
    · rename_i xs he hd
      exact (val_str hΘ hI ho ht hst he hx hd h).wp (fun n hn => (hdst n hn).1)
    · exact h.elim
  · exact h.elim

end

end Go.Eng

/- The engine, part QB: a call that is handed all that hangs on its arguments. -/
namespace Go.Eng
open Go

section
variable {P : Program} {Γ : Ctx} {Θ : Types} {s : AS} {o : Oper} {d : Delta} {I : Nat → Option Item}

/-! ### other names -/

structure Ren (f : Nat → Nat) (ρ ρ' : Rho) (S S' : Sh) (n : Nat) : Prop where
  loc : ρ'.loc (f n) = ρ.loc n
  tot : ρ'.tot (f n) = ρ.tot n
  sh : S' (f n) = S n ∨ S' (f n) = none

theorem RelAt.ren {f : Nat → Nat} {ρ ρ' : Rho} {S S' : Sh} {a : At} {cs : List Value} (h : ∀ n ∈ a.names, Ren f ρ ρ' S S' n) (r : RelAt ρ S a cs) : RelAt ρ' S' (rnA f a) cs := by
  cases a with
  | own n =>
    obtain ⟨h1, h2, h3⟩ := h n (by simp [At.names])
    simp only [RelAt, rnA] at r ⊢
    rcases h3 with h3 | h3
    · rw [h3, h1, h2]; exact r
    · rw [h3]
      split at r
      · obtain ⟨c, e, _⟩ := r; exact ⟨_, e, rfl⟩
      · obtain ⟨A, c, e, _⟩ := r; exact ⟨_, e, rfl⟩
      · obtain ⟨c, e, _⟩ := r; exact ⟨_, e, rfl⟩
      · exact r
  | slc n base o es len cap =>
    obtain ⟨h1, h2, h3⟩ := h n (by simp [At.names])
    simp only [RelAt, rnA] at r ⊢
    obtain ⟨A, c, e1, e2, e3, e4, e5, e6⟩ := r
    refine ⟨A, c, e1, e2, e3, by rw [h1]; exact e4, e5, ?_⟩
    intro sh hs
    rcases h3 with h3 | h3
    · rw [h3] at hs; exact e6 sh hs
    · rw [h3] at hs; cases hs
  | ptr n base o z =>
    obtain ⟨h1, h2, h3⟩ := h n (by simp [At.names])
    simp only [RelAt, rnA] at r ⊢
    obtain ⟨p, e1, e2, e3⟩ := r
    refine ⟨p, by rw [h1]; exact e1, e2, ?_⟩
    intro sh hs
    rcases h3 with h3 | h3
    · rw [h3] at hs; exact e3 sh hs
    · rw [h3] at hs; cases hs
  | int k n => exact r
  | bool b => exact r
  | ints k m xs => exact r
  | nils => exact r
  | nilp => exact r
  | raw v => exact r
  | dead => exact r

theorem RelL.ren {f : Nat → Nat} {ρ ρ' : Rho} {S S' : Sh} : ∀ {l : List At} {cs : List Value}, (∀ n ∈ namesL l, Ren f ρ ρ' S S' n) → RelL ρ S l cs → RelL ρ' S' (rnL f l) cs
  | [], _, _, r => r
  | a :: l, cs, h, ⟨c1, c2, e, r1, r2⟩ => ⟨c1, c2, e, r1.ren fun n hn => h n (by simp [namesL, hn]), r2.ren fun n hn => h n (by simp [namesL, hn])⟩

theorem RelSV.ren {f : Nat → Nat} {ρ ρ' : Rho} {S S' : Sh} {v : SV} {x : Value} (h : ∀ n ∈ v.names, Ren f ρ ρ' S S' n) (r : RelSV ρ S v x) : RelSV ρ' S' (rnS f v) x := by
  cases v with
  | one a =>
    have h' : ∀ n ∈ a.names, Ren f ρ ρ' S S' n := h
    cases a <;> first
      | exact r
      | exact RelAt.ren h' r
  | agg l =>
    obtain ⟨cs, e, r⟩ := r
    exact ⟨cs, e, r.ren h⟩

theorem RelT.ren {f : Nat → Nat} {ρ ρ' : Rho} {S S' : Sh} : ∀ {l : List SV} {cs : List Value}, (∀ n ∈ namesS l, Ren f ρ ρ' S S' n) → RelT ρ S l cs → RelT ρ' S' (rnSs f l) cs
  | [], _, _, r => r
  | a :: l, cs, h, ⟨c1, c2, e, r1, r2⟩ => ⟨c1, c2, e, r1.ren fun n hn => h n (by simp [namesS, hn]), r2.ren fun n hn => h n (by simp [namesS, hn])⟩

theorem RelV.ren {f : Nat → Nat} {ρ ρ' : Rho} {S S' : Sh} {v : AV} {x : Value} (h : ∀ n ∈ v.names, Ren f ρ ρ' S S' n) (r : RelV ρ S v x) : RelV ρ' S' (rnV f v) x := by
  cases v with
  | s v => exact RelSV.ren (ρ := ρ) (S := S) h r
  | t l => obtain ⟨vs, e, r⟩ := r; exact ⟨vs, e, r.ren h⟩

theorem rnL_length (f : Nat → Nat) : ∀ l, (rnL f l).length = l.length
  | [] => rfl
  | a :: l => by simp [rnL, rnL_length f l]
theorem formsOf_rnL (f : Nat → Nat) : ∀ l, formsOf (rnL f l) = formsOf l
  | [] => rfl
  | a :: l => by
    simp only [rnL, formsOf, formsOf_rnL f l]
    cases a <;> rfl
theorem rnI_shape (f : Nat → Nat) (it : Item) : (rnI f it).shape = it.shape := by
  cases it with
  | obj l => simp [rnI, Item.shape, formsOf_rnL]
  | tab l => simp [rnI, Item.shape, rnL_length]
  | row k es xs => rfl
  | view k es xs => rfl
theorem rnI_owned (f : Nat → Nat) (it : Item) : (rnI f it).owned = it.owned := by cases it <;> rfl
theorem owned_of_shape {it it' : Item} (h : it.shape = it'.shape) : it.owned = it'.owned := by
  cases it <;> cases it' <;> first | rfl | (simp [Item.shape] at h; done)
theorem own?_owned (it : Item) : it.own? = it.owned := by cases it <;> rfl
theorem rnA_cell1 (f : Nat → Nat) (a : At) : (rnA f a).cell1 = a.cell1 := by cases a <;> rfl
theorem rnL_cell1 (f : Nat → Nat) : ∀ {l : List At}, (∀ a ∈ l, a.cell1 = true) → ∀ a ∈ rnL f l, a.cell1 = true
  | [], _, a, h => by cases h
  | b :: l, hl, a, h => by
    rcases List.mem_cons.1 h with rfl | h
    · rw [rnA_cell1]; exact hl b (.head _)
    · exact rnL_cell1 f (fun c hc => hl c (.tail _ hc)) a h

theorem HoldI.ren {f : Nat → Nat} {ρ ρ' : Rho} {S S' : Sh} {n : Nat} {w : World} {it : Item} (hn : ρ'.loc (f n) = ρ.loc n ∧ ρ'.tot (f n) = ρ.tot n)
    (h : ∀ m ∈ it.names, Ren f ρ ρ' S S' m) (r : HoldI ρ S n w it) : HoldI ρ' S' (f n) w (rnI f it) := by
  cases it with
  | obj l =>
    obtain ⟨b, T, cs, e, e2, r⟩ := r
    exact ⟨b, T, cs, by rw [hn.1]; exact e, e2, r.ren h⟩
  | row k es xs =>
    obtain ⟨e0, em, r⟩ := r
    refine ⟨e0, em, ?_⟩
    rw [hn.1, hn.2]; exact r
  | view k es xs =>
    obtain ⟨e0, em, r⟩ := r
    refine ⟨e0, em, ?_⟩
    rw [hn.1]; exact r
  | tab l =>
    obtain ⟨e0, r⟩ := r
    refine ⟨rnL_cell1 f e0, ?_⟩
    rw [hn.1, hn.2]
    rcases r with ⟨r1, r2, r3⟩ | ⟨b, T, cs, sp, e, e2, r, e3⟩
    · exact .inl ⟨r1, by rw [r2]; rfl, r3⟩
    · exact .inr ⟨b, T, cs, sp, e, e2, r.ren h, by rw [rnL_length]; exact e3⟩

/-! ### lists of names -/

theorem lookN_mem {n c : Nat} : ∀ {m : List (Nat × Nat)}, lookN n m = some c → (n, c) ∈ m
  | [], h => by simp [lookN] at h
  | (u, v) :: m, h => by
    simp only [lookN] at h
    split at h
    · rename_i e; injection h with h; subst h; rw [beqT e]; exact .head _
    · exact .tail _ (lookN_mem h)

theorem mem_fsts {n c : Nat} : ∀ {m : List (Nat × Nat)}, (n, c) ∈ m → n ∈ fsts m
  | (u, v) :: m, h => by
    rcases List.mem_cons.1 h with e | h
    · injection e with e1 e2; subst e1; exact .head _
    · exact .tail _ (mem_fsts h)
theorem mem_snds {n c : Nat} : ∀ {m : List (Nat × Nat)}, (n, c) ∈ m → c ∈ snds m
  | (u, v) :: m, h => by
    rcases List.mem_cons.1 h with e | h
    · injection e with e1 e2; subst e2; exact .head _
    · exact .tail _ (mem_snds h)
theorem fsts_mem {n : Nat} : ∀ {m : List (Nat × Nat)}, n ∈ fsts m → ∃ c, (n, c) ∈ m
  | (u, v) :: m, h => by
    rcases List.mem_cons.1 h with rfl | h
    · exact ⟨v, .head _⟩
    · obtain ⟨c, hc⟩ := fsts_mem h; exact ⟨c, .tail _ hc⟩
theorem nodupB_cons {a : Nat} {l : List Nat} (h : nodupB (a :: l) = true) : a ∉ l ∧ nodupB l = true := by
  simp only [nodupB, Bool.and_eq_true] at h
  obtain ⟨h1, h2⟩ := h
  refine ⟨fun hm => ?_, h2⟩
  rw [memN_iff.2 hm] at h1; cases h1
theorem lookN_of {n c : Nat} : ∀ {m : List (Nat × Nat)}, nodupB (fsts m) = true → (n, c) ∈ m → lookN n m = some c
  | (u, v) :: m, hd, h => by
    obtain ⟨h1, h2⟩ := nodupB_cons hd
    simp only [lookN]
    rcases List.mem_cons.1 h with e | h
    · injection e with e1 e2; subst e1; subst e2; simp
    · have : n ≠ u := fun e => h1 (e ▸ mem_fsts h)
      rw [beqF this]; exact lookN_of h2 h
theorem turn_mem {n c : Nat} : ∀ {m : List (Nat × Nat)}, (c, n) ∈ turnM m ↔ (n, c) ∈ m
  | [] => by simp [turnM]
  | (u, v) :: m => by
    simp only [turnM, List.mem_cons, turn_mem (m := m), Prod.mk.injEq]
    exact ⟨fun h => h.elim (fun h => .inl ⟨h.2, h.1⟩) .inr, fun h => h.elim (fun h => .inl ⟨h.2, h.1⟩) .inr⟩
theorem fsts_turn : ∀ m : List (Nat × Nat), fsts (turnM m) = snds m
  | [] => rfl
  | (u, v) :: m => by simp [turnM, fsts, snds, fsts_turn m]
theorem lookN_turn {m : List (Nat × Nat)} (hd : nodupB (snds m) = true) {n c : Nat} (h : (n, c) ∈ m) : lookN c (turnM m) = some n :=
  lookN_of (by rw [fsts_turn]; exact hd) (turn_mem.2 h)

theorem nodupI : ∀ {l : List (Nat × Item)}, nodupB (putNames l) = true → Nodup' l
  | [], _ => trivial
  | (u, v) :: l, h => by
    obtain ⟨h1, h2⟩ := nodupB_cons h
    exact ⟨h1, nodupI h2⟩
theorem findI_of {c : Nat} {it : Item} : ∀ {l : List (Nat × Item)}, Nodup' l → (c, it) ∈ l → findI c l = some it
  | (u, v) :: l, ⟨h1, h2⟩, h => by
    rw [findI_cons]
    rcases List.mem_cons.1 h with e | h
    · injection e with e1 e2; subst e1; subst e2; rw [if_pos rfl]
    · have : c ≠ u := fun e => h1 (e ▸ putNames_iff.2 ⟨it, h⟩)
      rw [if_neg this]; exact findI_of h2 h

theorem takeI_spec {f : Nat → Nat} : ∀ {m : List (Nat × Nat)} {its : List (Nat × Item)}, takeI I f m = some its → putNames its = snds m ∧ (∀ n c, (n, c) ∈ m → ∃ it, I n = some it ∧ (c, rnI f it) ∈ its) ∧ ∀ c it', (c, it') ∈ its → ∃ n it, (n, c) ∈ m ∧ I n = some it ∧ it' = rnI f it
  | [], its, h => by
    simp only [takeI] at h
    injection h with h; subst h
    exact ⟨rfl, by simp, by simp⟩
  | (u, v) :: m, its, h => by
    simp only [takeI] at h
    split at h
    · rename_i it r h1 h2
      injection h with h; subst h
      obtain ⟨g1, g2, g3⟩ := takeI_spec h2
      refine ⟨by simp [putNames, snds, g1], ?_, ?_⟩
      · intro n c hm
        rcases List.mem_cons.1 hm with e | hm
        · injection e with e1 e2; subst e1; subst e2; exact ⟨it, h1, .head _⟩
        · obtain ⟨it2, k1, k2⟩ := g2 n c hm; exact ⟨it2, k1, .tail _ k2⟩
      · intro c it' hm
        rcases List.mem_cons.1 hm with e | hm
        · injection e with e1 e2; subst e1; subst e2; exact ⟨u, it, .head _, h1, rfl⟩
        · obtain ⟨n, it2, k1, k2, k3⟩ := g3 c it' hm; exact ⟨n, it2, .tail _ k1, k2, k3⟩
    · cases h

theorem newI_mem {r : List (Nat × Nat)} {b : Nat → Nat} {x : Nat} {it' : Item} : ∀ {l : List (Nat × Item)}, (x, it') ∈ newI r b l → ∃ c it, (c, it) ∈ l ∧ lookN c r = none ∧ x = b c ∧ it' = rnI b it
  | [], h => by cases h
  | (c, it) :: l, h => by
    simp only [newI] at h
    split at h
    · obtain ⟨c2, it2, h1, h2⟩ := newI_mem h; exact ⟨c2, it2, .tail _ h1, h2⟩
    · rename_i hl
      rcases List.mem_cons.1 h with e | h
      · injection e with e1 e2; exact ⟨c, it, .head _, hl, e1, e2⟩
      · obtain ⟨c2, it2, h1, h2⟩ := newI_mem h; exact ⟨c2, it2, .tail _ h1, h2⟩
theorem newI_of {r : List (Nat × Nat)} {b : Nat → Nat} {c : Nat} {it : Item} : ∀ {l : List (Nat × Item)}, (c, it) ∈ l → lookN c r = none → (b c, rnI b it) ∈ newI r b l
  | (u, v) :: l, h, hl => by
    simp only [newI]
    rcases List.mem_cons.1 h with e | h
    · injection e with e1 e2; subst e1; subst e2; rw [hl]; exact .head _
    · split
      · exact newI_of h hl
      · exact .tail _ (newI_of h hl)
theorem oldI_mem {r : List (Nat × Nat)} {b : Nat → Nat} {x : Nat} {it' : Item} : ∀ {l : List (Nat × Item)}, (x, it') ∈ oldI r b l → ∃ c it n, (c, it) ∈ l ∧ lookN c r = some n ∧ x = b c ∧ it' = rnI b it
  | [], h => by cases h
  | (c, it) :: l, h => by
    simp only [oldI] at h
    split at h
    · rename_i n hl
      rcases List.mem_cons.1 h with e | h
      · injection e with e1 e2; exact ⟨c, it, n, .head _, hl, e1, e2⟩
      · obtain ⟨c2, it2, n2, h1, h2⟩ := oldI_mem h; exact ⟨c2, it2, n2, .tail _ h1, h2⟩
    · obtain ⟨c2, it2, n2, h1, h2⟩ := oldI_mem h; exact ⟨c2, it2, n2, .tail _ h1, h2⟩
theorem oldI_of {r : List (Nat × Nat)} {b : Nat → Nat} {c n : Nat} {it : Item} : ∀ {l : List (Nat × Item)}, (c, it) ∈ l → lookN c r = some n → (b c, rnI b it) ∈ oldI r b l
  | (u, v) :: l, h, hl => by
    simp only [oldI]
    rcases List.mem_cons.1 h with e | h
    · injection e with e1 e2; subst e1; subst e2; rw [hl]; exact .head _
    · split
      · exact .tail _ (oldI_of h hl)
      · exact oldI_of h hl
theorem dropV_sub {I : Nat → Option Item} {x : Nat × Item} : ∀ {l : List (Nat × Item)}, x ∈ dropV I l → x ∈ l
  | [], h => h
  | (n, it) :: l, h => by
    simp only [dropV] at h
    split at h
    · exact .tail _ (dropV_sub h)
    · rcases List.mem_cons.1 h with e | h
      · exact e ▸ .head _
      · exact .tail _ (dropV_sub h)
theorem dropV_or {I : Nat → Option Item} {n : Nat} {it : Item} : ∀ {l : List (Nat × Item)}, (n, it) ∈ l → (n, it) ∈ dropV I l ∨ (it.owned = false ∧ ∃ k es xs, I n = some (.view k es xs))
  | (u, v) :: l, h => by
    simp only [dropV]
    rcases List.mem_cons.1 h with e | h
    · injection e with e1 e2; subst e1; subst e2
      split
      · rename_i hv
        refine .inr ⟨rfl, ?_⟩
        unfold isView at hv
        split at hv
        · rename_i k es xs hi; exact ⟨k, es, xs, hi⟩
        · cases hv
      · exact .inl (.head _)
    · rcases dropV_or (I := I) h with h2 | h2
      · left
        split
        · exact h2
        · exact .tail _ h2
      · exact .inr h2
theorem goneI_mem {its : List (Nat × Item)} {n : Nat} : ∀ {m : List (Nat × Nat)}, n ∈ goneI its m → ∃ c, (n, c) ∈ m ∧ findI c its = none
  | [], h => by cases h
  | (u, v) :: m, h => by
    simp only [goneI] at h
    split at h
    · obtain ⟨c, h1, h2⟩ := goneI_mem h; exact ⟨c, .tail _ h1, h2⟩
    · rename_i hf
      rcases List.mem_cons.1 h with e | h
      · subst e; exact ⟨v, .head _, hf⟩
      · obtain ⟨c, h1, h2⟩ := goneI_mem h; exact ⟨c, .tail _ h1, h2⟩
theorem purgeI_keeps {d n : Nat} {it : Item} (hn : n ≠ d) (hi : d ∉ it.names) : ∀ {l : List (Nat × Item)}, findI n l = some it → findI n (purgeI d l) = some it
  | (u, v) :: l, h => by
    rw [findI_cons] at h
    simp only [purgeI]
    split at h
    · rename_i e
      injection h with h; subst h; subst e
      rw [show Nat.beq n d = false from by cases hh : Nat.beq n d; rfl; exact absurd (beqT hh) hn, memN_false.2 hi]
      simp only [findI_cons, if_true]
    · rename_i e
      have ih := purgeI_keeps hn hi h
      split
      · exact ih
      · split
        · exact ih
        · rw [findI_cons, if_neg e]; exact ih
theorem purgeAllI_keeps {n : Nat} {it : Item} (hi : it.names = []) : ∀ (f : List (Nat × Item)) {l : List (Nat × Item)}, n ∉ putNames f → findI n l = some it → findI n (purgeAllI f l) = some it
  | [], l, _, h => h
  | (d, i) :: f, l, hn, h => by
    simp only [putNames, List.mem_cons, not_or] at hn
    rw [purgeAllI]
    exact purgeAllI_keeps hi f hn.2 (purgeI_keeps hn.1 (by rw [hi]; simp) h)
theorem goneI_or {its : List (Nat × Item)} {n c : Nat} : ∀ {m : List (Nat × Nat)}, (n, c) ∈ m → n ∈ goneI its m ∨ ∃ it, findI c its = some it
  | (u, v) :: m, h => by
    simp only [goneI]
    rcases List.mem_cons.1 h with e | h
    · injection e with e1 e2; subst e1; subst e2
      cases hf : findI c its with
      | some it => exact .inr ⟨it, rfl⟩
      | none => exact .inl (.head _)
    · rcases goneI_or (its := its) h with h | h
      · left
        split
        · exact h
        · exact .tail _ h
      · exact .inr h

theorem allIn_iff {l m : List Nat} : allIn l m = true ↔ ∀ x ∈ l, x ∈ m := by
  induction l with
  | nil => simp [allIn]
  | cons a l ih => simp [allIn, memN_iff, ih]
theorem ltAll_iff {b : Nat} {l : List Nat} : ltAll b l = true ↔ ∀ x ∈ l, x < b := by
  induction l with
  | nil => simp [ltAll]
  | cons a l ih => simp [ltAll, ih, Nat.blt_eq]
theorem canonB_iff {np : Nat} {l : List Nat} : canonB np l = true ↔ ∀ c ∈ l, c < np ∨ hiN ≤ c := by
  induction l with
  | nil => simp [canonB]
  | cons a l ih => simp [canonB, ih, Nat.blt_eq, Nat.ble_eq]
theorem allOwn_of {r : List (Nat × Nat)} {c : Nat} {it : Item} : ∀ {l : List (Nat × Item)}, allOwn r l = true → (c, it) ∈ l → lookN c r = none → it.owned = true
  | (u, v) :: l, h, hm, hl => by
    simp only [allOwn, Bool.and_eq_true] at h
    rcases List.mem_cons.1 hm with e | hm
    · injection e with e1 e2; subst e1; subst e2
      have := h.1
      rw [hl] at this
      rw [← own?_owned]; exact this
    · exact allOwn_of h.2 hm hl
theorem putSays'_mem {c x : Nat} {it : Item} : ∀ {l : List (Nat × Item)}, (c, it) ∈ l → x ∈ it.names → x ∈ putSays' l
  | (u, v) :: l, h, hx => by
    simp only [putSays', List.mem_append]
    rcases List.mem_cons.1 h with e | h
    · injection e with e1 e2; subst e2; exact .inl hx
    · exact .inr (putSays'_mem h hx)
theorem itemNames_mem {n x : Nat} {it : Item} : ∀ {l : List Nat}, n ∈ l → I n = some it → x ∈ it.names → x ∈ itemNames I l
  | u :: l, h, hi, hx => by
    simp only [itemNames, List.mem_append]
    rcases List.mem_cons.1 h with rfl | h
    · rw [hi]; exact .inl hx
    · exact .inr (itemNames_mem h hi hx)
theorem avsNames_mem {v : AV} {x : Nat} : ∀ {l : List AV}, v ∈ l → x ∈ v.names → x ∈ avsNames l
  | u :: l, h, hx => by
    simp only [avsNames, List.mem_append]
    rcases List.mem_cons.1 h with rfl | h
    · exact .inl hx
    · exact .inr (avsNames_mem h hx)
theorem rnVs_get {f : Nat → Nat} : ∀ (l : List AV) (j : Nat), (rnVs f l)[j]? = (l[j]?).map (rnV f)
  | [], j => by simp [rnVs]
  | v :: l, 0 => by simp [rnVs]
  | v :: l, j + 1 => by simp [rnVs, rnVs_get l j]
theorem rnVs_length (f : Nat → Nat) : ∀ l : List AV, (rnVs f l).length = l.length
  | [] => rfl
  | a :: l => by simp [rnVs, rnVs_length f l]
theorem numT_find : ∀ (l : List AV) (i t : Nat), i ≤ t → findT t (numT i l) = (l[t - i]?).getD (.s (.one .dead))
  | [], i, t, _ => by simp [numT, findT]
  | a :: l, i, t, h => by
    simp only [numT]
    rw [findT_cons]
    by_cases e : t = i
    · subst e; simp
    · rw [if_neg e, numT_find l (i + 1) t (by omega), show t - i = (t - (i + 1)) + 1 by omega]
      simp
theorem svsOf_get : ∀ {l : List AV} {svs : List SV}, svsOf l = some svs → l = svs.map AV.s
  | [], svs, h => by simp only [svsOf] at h; injection h with h; subst h; rfl
  | .s v :: l, svs, h => by
    simp only [svsOf] at h
    split at h
    · rename_i r hr
      injection h with h; subst h
      simp [svsOf_get hr]
    · cases h
  | .t _ :: l, svs, h => by simp [svsOf] at h
theorem relT_of {ρ : Rho} {S : Sh} : ∀ {svs : List SV} {Xs : List Value}, svs.length = Xs.length → (∀ (j : Nat) v x, svs[j]? = some v → Xs[j]? = some x → RelSV ρ S v x) → RelT ρ S svs Xs
  | [], [], _, _ => rfl
  | [], _ :: _, h, _ => by simp at h
  | _ :: _, [], h, _ => by simp at h
  | v :: svs, x :: Xs, h, hr => ⟨x, Xs, rfl, hr 0 v x rfl rfl, relT_of (by simpa using h) fun j v' x' a1 a2 => hr (j + 1) v' x' (by simpa using a1) (by simpa using a2)⟩
theorem tupOf_names : ∀ (svs : List SV), (tupOf svs).names = namesS svs
  | [] => rfl
  | [v] => by simp [tupOf, AV.names, namesS]
  | _ :: _ :: _ => rfl
theorem avsNames_map : ∀ (svs : List SV), avsNames (svs.map AV.s) = namesS svs
  | [] => rfl
  | v :: l => by simp [avsNames, namesS, AV.names, avsNames_map l]

/-! ### the call -/

theorem wp_callI (hΓ : CtxOk P Γ) (hI : ∀ n it, I n = some it → s.I n = some it) {c : Call} {g np : Nat} {fi : FI} (hf : findF g Γ = some fi) (hk : fi.kind = .inl np) (hdst : ∀ n, o.dst = some n → s.Dst n)
    (hrun : ∀ w0 Mu ρ a w, Sim w0 Mu ρ s a w → (execOp a.eval o).run P w = (callFunc g (c.args.map a.eval)).run P w)
    (h : (callI I np o.dst g (evAll (evO s.T) c.args.toList)).Out P Γ d) : WpStep P s o d := by
  unfold callI at h
  simp only at h
  generalize hm : mapOf I (evAll (evO s.T) c.args.toList) = m at h
  generalize hargs : evAll (evO s.T) c.args.toList = args at h hm
  split at h
  · rename_i its htake
    split at h
    · rename_i hin
      obtain ⟨fi', outs, hf', hout, h⟩ := h
      rw [hf] at hf'; injection hf' with hf'; subst hf'
      have hout : OutcomeI P g np [.fr (rnVs (thereN m) args) its] outs := by unfold OutK at hout; rw [hk] at hout; exact hout
      obtain ⟨vs, its2, rfl, hout2⟩ := hout _ _ rfl
      simp only at h
      split at h
      · rename_i svs hsvs
        split at h
        · rename_i hchk
          simp only [D.Out] at h; subst h
          simp only [Bool.and_eq_true] at hchk
          obtain ⟨q1, q2, q3, q4, q5, q6, q7, q8, q9, q10⟩ := hchk
          rw [canonB_iff] at q1
          rw [allIn_iff] at q6 hin
          rw [ltAll_iff] at q7
          rw [disj_iff] at q8
          have hvs := svsOf_get hsvs
          obtain ⟨t1, t2, t3⟩ := takeI_spec htake
          have hnd1 : Nodup' its := nodupI (by rw [t1]; exact q3)
          have hnd2 : Nodup' its2 := nodupI q4
          have hndn : Nodup' (newI (turnM m) (backN (turnM m) (o.dst.getD 0)) its2) := nodupI q10
          have there_of : ∀ n c, (n, c) ∈ m → thereN m n = c := fun n c hc => by unfold thereN; rw [lookN_of q2 hc]
          generalize hb : backN (turnM m) (o.dst.getD 0) = b at *
          have back_old : ∀ n c, (n, c) ∈ m → b c = n := fun n c hc => by rw [← hb]; unfold backN; rw [lookN_turn q3 hc]
          have back_new : ∀ c, lookN c (turnM m) = none → b c = o.dst.getD 0 + 4096 * (c + 1) := fun c hc => by rw [← hb]; unfold backN; rw [hc]
          intro w0 Mu ρ a w Q hs
          have hXlen : (c.args.toList.map a.eval).length = args.length := by rw [← hargs, evAll_length]; simp
          have hXrel : ∀ (i : Nat) x X, args[i]? = some x → (c.args.toList.map a.eval)[i]? = some X → RelV ρ s.S x X := by
            intro i x X h1 h2
            rw [← hargs, evAll_eq, List.getElem?_map] at h1
            rw [List.getElem?_map] at h2
            simp only [Option.map_eq_some_iff] at h1 h2
            obtain ⟨p1, e1, rfl⟩ := h1
            obtain ⟨p2, e2, rfl⟩ := h2
            rw [e1] at e2; injection e2 with e2; subst e2
            exact relEv hs p1
          generalize hxs : c.args.toList.map a.eval = xs at hXlen hXrel
          -- the state that is handed over
          let ρ1 : Rho := { loc := fun c => match lookN c (turnM m) with | some n => ρ.loc n | none => none, tot := fun c => match lookN c (turnM m) with | some n => ρ.tot n | none => 0 }
          let S1 : Sh := fun c => (findI c its).map Item.shape
          have r1 : ∀ n c, (n, c) ∈ m → ρ1.loc c = ρ.loc n ∧ ρ1.tot c = ρ.tot n := fun n c hc => by simp [ρ1, lookN_turn q3 hc]
          have ren1 : ∀ n, n ∈ fsts m → Ren (thereN m) ρ ρ1 s.S S1 n := by
            intro n hn
            obtain ⟨c, hc⟩ := fsts_mem hn
            obtain ⟨it, k1, k2⟩ := t2 n c hc
            rw [show Ren (thereN m) ρ ρ1 s.S S1 n ↔ Ren (thereN m) ρ ρ1 s.S S1 n from Iff.rfl]
            refine ⟨by rw [there_of n c hc]; exact (r1 n c hc).1, by rw [there_of n c hc]; exact (r1 n c hc).2, .inl ?_⟩
            rw [there_of n c hc, S_of (hI _ _ k1)]
            show (findI c its).map Item.shape = _
            rw [findI_of hnd1 k2]; simp [rnI_shape]
          let Mu1 : MuT := { blk := fun bb => ∃ n c it p, (n, c) ∈ m ∧ s.I n = some it ∧ it.owned = true ∧ ρ.loc n = some p ∧ p.1 = bb, loc := ρ1.loc, tot := ρ1.tot, sh := S1 }
          have hitem : ∀ c it', findI c its = some it' → ∃ n it, (n, c) ∈ m ∧ s.I n = some it ∧ it' = rnI (thereN m) it ∧ ρ1.loc c = ρ.loc n := by
            intro c it' hc
            obtain ⟨n, it, k1, k2, k3⟩ := t3 c it' (findI_mem hc)
            exact ⟨n, it, k1, hI _ _ k2, k3, (r1 n c k1).1⟩
          have hs1 : Sim w Mu1 ρ1 { n := (rnVs (thereN m) args).length, lo := np, tmps := numT 0 (rnVs (thereN m) args), items := its } { tmps := xs.toArray, defers := [] } w := by
            refine ⟨rfl, hnd1, by simp [rnVs_length, hXlen], ?_, ?_, ?_, ?_, ?_, Nat.le_refl _, fun _ _ _ => rfl, fun _ _ => ⟨rfl, rfl, .inl rfl⟩, rfl, rfl⟩
            · intro t
              show RelV ρ1 S1 (findT t (numT 0 (rnVs (thereN m) args))) _
              rw [numT_find _ 0 t (Nat.zero_le _), Nat.sub_zero, rnVs_get]
              cases hx : args[t]? with
              | none => exact relDead _ _ _
              | some x =>
                have hlt : t < xs.length := by rw [hXlen]; exact (List.getElem?_eq_some_iff.1 hx).1
                have hX : xs[t]? = some xs[t] := List.getElem?_eq_getElem hlt
                have : xs.toArray.getD t undef = xs[t] := by simp [Array.getD_eq_getD_getElem?, hlt]
                show RelV ρ1 S1 (rnV (thereN m) x) (xs.toArray.getD t undef)
                rw [this]
                refine (hXrel t x _ hx hX).ren fun n hn => ren1 n (hin n (List.mem_append.2 (.inl (avsNames_mem (List.mem_of_getElem? hx) hn))))
            · intro c it' hc
              obtain ⟨n, it, k1, k2, rfl, k4⟩ := hitem c it' hc
              have hn : ρ1.loc (thereN m n) = ρ.loc n ∧ ρ1.tot (thereN m n) = ρ.tot n := by rw [there_of n c k1]; exact r1 n c k1
              obtain ⟨it0, j1, _⟩ := t2 n c k1
              have hit : it0 = it := by have := hI _ _ j1; rw [k2] at this; injection this with this; exact this.symm
              subst hit
              have := (hs.hold n it0 k2).ren (f := thereN m) (S' := S1) hn (fun x hx => ren1 x (hin x (List.mem_append.2 (.inr (itemNames_mem (mem_fsts k1) j1 hx)))))
              rw [there_of n c k1] at this
              exact this
            · intro c it' p hc ho hp
              obtain ⟨n, it, k1, k2, rfl, k4⟩ := hitem c it' hc
              exact .inr ⟨n, c, it, p, k1, k2, by rw [← rnI_owned (thereN m)]; exact ho, by rw [← k4]; exact hp, rfl⟩
            · intro c c' it' it2' p q hc hc' ho hne hp hq
              obtain ⟨n, it, k1, k2, rfl, k4⟩ := hitem c it' hc
              obtain ⟨n2, it2, j1, j2, rfl, j4⟩ := hitem c' it2' hc'
              refine hs.sep n n2 it it2 p q k2 j2 (by rw [← rnI_owned (thereN m)]; exact ho) (fun e => hne ?_) (by rw [← k4]; exact hp) (by rw [← j4]; exact hq)
              subst e
              rw [← there_of n c k1, ← there_of n c' j1]
            · intro c it' p hc hp
              obtain ⟨n, it, k1, k2, rfl, k4⟩ := hitem c it' hc
              exact hs.lt n it p k2 (by rw [← k4]; exact hp)
          obtain ⟨⟨fn, hfn, hbody, hname⟩, hcalls⟩ := hout2 w Mu1 ρ1 xs (by rw [rnVs_length]; exact hXlen) hs1
          have harr : c.args.map a.eval = xs.toArray := by rw [← hxs]; apply Array.ext'; simp
          unfold Oper.wp
          rw [hrun w0 Mu ρ a w hs]
          have hcf : (callFunc g (c.args.map a.eval)).run P w = .ok (.enter g (c.args.map a.eval)) w := by
            have hbn : ¬ fn.body = none := by intro e; rw [e] at hbody; simp at hbody
            simp [callFunc, hfn, hname, hbn]
          rw [hcf, Oper.upon_enter, harr]
          refine hcalls.mono fun e w' hpost => ?_
          obtain ⟨Xs, ρ2, rfl, hXl, hs2⟩ := hpost
          generalize hs2d : ({ n := vs.length, lo := np, tmps := numT 0 vs, items := its2 } : AS) = s2 at hs2
          have hI2 : ∀ c, s2.I c = findI c its2 := fun c => by rw [← hs2d]; rfl
          have hS2 : ∀ c it, findI c its2 = some it → s2.S c = some it.shape := fun c it hc => S_of (by rw [hI2]; exact hc)
          -- what is known of what was there before
          have hold2 : ∀ n c it, (n, c) ∈ m → findI c its2 = some it → ρ2.loc c = ρ.loc n ∧ ρ2.tot c = ρ.tot n ∧ ∃ it0, s.I n = some it0 ∧ it.shape = it0.shape := by
            intro n c it hc hfc
            obtain ⟨p1, p2, p3⟩ := hs2.pin c (by rw [← hs2d]; exact q1 c (mem_snds hc))
            obtain ⟨it0, k1, k2⟩ := t2 n c hc
            refine ⟨p1.trans (r1 n c hc).1, p2.trans (r1 n c hc).2, it0, hI _ _ k1, ?_⟩
            rw [hS2 c it hfc] at p3
            rcases p3 with p3 | p3
            · have : Mu1.sh c = some (rnI (thereN m) it0).shape := by show (findI c its).map Item.shape = _; rw [findI_of hnd1 k2]; rfl
              rw [this] at p3; injection p3 with p3
              rw [p3, rnI_shape]
            · cases p3
          let d0 := o.dst.getD 0
          let inv : Nat → Nat := fun x => (x - d0) / 4096 - 1
          let ρ' : Rho := { loc := fun x => if x ∈ putNames (newI (turnM m) b its2) then ρ2.loc (inv x) else ρ.loc x, tot := fun x => if x ∈ putNames (newI (turnM m) b its2) then ρ2.tot (inv x) else ρ.tot x }
          have hinv : ∀ c, lookN c (turnM m) = none → inv (b c) = c := fun c hc => by
            rw [back_new c hc]; simp only [inv, d0]; omega
          have hρ : ∀ x, x ∉ putNames (newI (turnM m) b its2) → ρ'.loc x = ρ.loc x ∧ ρ'.tot x = ρ.tot x := fun x hx => by simp [ρ', hx]
          have hput_old : ∀ n c it, (n, c) ∈ m → (c, it) ∈ its2 → (n, rnI b it) ∈ oldI (turnM m) b its2 := fun n c it hc hi => by
            have := oldI_of (b := b) hi (lookN_turn q3 hc)
            rwa [back_old n c hc] at this
          have hnotnew : ∀ n c it, (n, c) ∈ m → (c, it) ∈ its2 → n ∉ putNames (newI (turnM m) b its2) := fun n c it hc hi hn => q8 n hn (putNames_iff.2 ⟨_, hput_old n c it hc hi⟩)
          generalize hdel : ({ tmp := match o.dst with | some d => some (d, rnV b (tupOf svs)) | none => none, fresh := newI (turnM m) b its2, put := dropV I (oldI (turnM m) b its2), gone := goneI its2 m } : Delta) = dl
          have dfresh : dl.fresh = newI (turnM m) b its2 := by rw [← hdel]
          have dput : dl.put = dropV I (oldI (turnM m) b its2) := by rw [← hdel]
          have hput_own : ∀ n c it it0, (n, c) ∈ m → (c, it) ∈ its2 → s.I n = some it0 → it0.owned = true → (n, rnI b it) ∈ dropV I (oldI (turnM m) b its2) := fun n c it it0 hc hi h0 ho => by
            rcases dropV_or (I := I) (hput_old n c it hc hi) with h1 | ⟨_, k, es, xs, h2⟩
            · exact h1
            · rw [hI _ _ h2] at h0; injection h0 with h0; subst h0; cases ho
          have dgone : dl.gone = goneI its2 m := by rw [← hdel]
          -- the items that are written back
          have hputs : ∀ n it', findI n (dropV I (oldI (turnM m) b its2)) = some it' → ∃ c it, (n, c) ∈ m ∧ (c, it) ∈ its2 ∧ it' = rnI b it := by
            intro n it' hn
            obtain ⟨c, it, n2, k1, k2, k3, k4⟩ := oldI_mem (dropV_sub (findI_mem hn))
            have := turn_mem.1 (lookN_mem k2)
            rw [back_old n2 c this] at k3
            subst k3
            exact ⟨c, it, this, k1, k4⟩
          have hnews : ∀ x it', findI x (newI (turnM m) b its2) = some it' → ∃ c it, (c, it) ∈ its2 ∧ lookN c (turnM m) = none ∧ x = b c ∧ it' = rnI b it := fun x it' hx => newI_mem (findI_mem hx)
          have good : Good ρ ρ' s dl w w' := by
            refine ⟨by rw [dfresh]; exact hndn, by rw [dfresh]; exact hρ, ?_, ?_, hs2.mono, ?_, hs2.still⟩
            · intro n it' hn
              rw [dput] at hn
              obtain ⟨c, it, k1, k2, rfl⟩ := hputs n it' hn
              obtain ⟨_, _, it0, j1, j2⟩ := hold2 n c it k1 (findI_of hnd2 k2)
              exact ⟨it0, j1, by rw [rnI_shape]; exact j2, by rw [rnI_owned]; exact owned_of_shape j2, by rw [dfresh]; exact hnotnew n c it k1 k2⟩
            · intro n it p hn hnf hnp hng hp
              rw [dput] at hnp; rw [dgone] at hng
              refine hs2.frame p.1 (hs.lt n it p hn hp) ?_
              rintro ⟨n2, c2, it2, p2, k1, k2, k3, k4, k5⟩
              have hne : n2 ≠ n := by
                rintro rfl
                rcases goneI_or (its := its2) k1 with h1 | ⟨it3, h1⟩
                · exact hng h1
                · have := findI_isSome (hput_own n2 c2 it3 it2 k1 (findI_mem h1) k2 k3)
                  rw [hnp] at this; cases this
              exact hs.sep n2 n it2 it p2 p k2 hn k3 hne k4 hp k5
            · intro x hx
              rw [dfresh] at hx
              refine ⟨?_, q7 x hx⟩
              cases hd : o.dst with
              | none =>
                rw [hd] at q9
                simp only [Bool.and_eq_true] at q9
                have : newI (turnM m) b its2 = [] := by
                  cases hl : newI (turnM m) b its2 with
                  | nil => rfl
                  | cons a l => rw [hl] at q9; simp [isNil] at q9
                rw [this] at hx; simp [putNames] at hx
              | some dd =>
                obtain ⟨it', hm'⟩ := putNames_iff.1 hx
                obtain ⟨c2, it, k1, k2, k3, _⟩ := newI_mem hm'
                rw [k3, back_new c2 k2, hd]
                have := (hdst dd hd).2.1
                simp only [Option.getD_some]; omega
          have hSfresh : ∀ c it, (c, it) ∈ its2 → lookN c (turnM m) = none → (s.apply dl).S (b c) = some it.shape := by
            intro c it hc hl
            have h1 := findI_of hndn (newI_of (b := b) hc hl)
            have : (s.apply dl).I (b c) = some (rnI b it) := by
              unfold AS.I AS.apply
              rw [findI_append, dfresh, h1]
            rw [S_of this, rnI_shape]
          have hSput : ∀ n c it, (n, c) ∈ m → (c, it) ∈ its2 → (s.apply dl).S n = some it.shape := by
            intro n c it hc hi
            cases h2 : findI n (dropV I (oldI (turnM m) b its2)) with
            | none =>
              have hview : ∃ k es xs, I n = some (.view k es xs) := by
                rcases dropV_or (I := I) (hput_old n c it hc hi) with h1 | ⟨_, h1⟩
                · have := findI_isSome h1; rw [h2] at this; cases this
                · exact h1
              obtain ⟨k, es, xs, hv⟩ := hview
              have hv := hI _ _ hv
              obtain ⟨_, _, it0, j1, j2⟩ := hold2 n c it hc (findI_of hnd2 hi)
              have hng : n ∉ goneI its2 m := fun hg => by
                obtain ⟨c', g1, g2⟩ := goneI_mem hg
                have hcc : c' = c := by rw [← there_of n c' g1, ← there_of n c hc]
                subst hcc
                rw [findI_of hnd2 hi] at g2; cases g2
              have : (s.apply dl).I n = some (.view k es xs) := by
                unfold AS.I AS.apply
                rw [findI_append, dfresh, findI_none (hnotnew n c it hc hi)]
                simp only [find_dropAll, if_neg (hnotnew n c it hc hi)]
                rw [find_putAll, dput, h2]
                refine purgeAllI_keeps rfl _ (hnotnew n c it hc hi) ?_
                rw [find_dropAll, dgone, if_neg hng]; exact hv
              rw [hv] at j1; injection j1 with j1; subst j1
              rw [S_of this, j2]
            | some it' =>
              obtain ⟨c2, it2, k1, k2, k3⟩ := hputs n it' h2
              have hcc : c2 = c := by rw [← there_of n c2 k1, ← there_of n c hc]
              subst hcc
              have hii : it2 = it := by
                have e1 := findI_of hnd2 k2
                have e2 := findI_of hnd2 hi
                rw [e1] at e2; injection e2
              subst hii
              have : (s.apply dl).I n = some it' := by
                unfold AS.I AS.apply
                rw [findI_append, dfresh, findI_none (hnotnew n c2 it2 hc hi)]
                simp only [find_dropAll, if_neg (hnotnew n c2 it2 hc hi)]
                rw [find_putAll, dput, h2]
              rw [S_of this, k3, rnI_shape]
          have ren2 : ∀ c, c ∈ putNames its2 → Ren b ρ2 ρ' s2.S (s.apply dl).S c := by
            intro c hc
            obtain ⟨it, hi⟩ := putNames_iff.1 hc
            have hfc := findI_of hnd2 hi
            cases hl : lookN c (turnM m) with
            | none =>
              have hin2 : b c ∈ putNames (newI (turnM m) b its2) := putNames_iff.2 ⟨_, newI_of hi hl⟩
              refine ⟨by simp [ρ', hin2, hinv c hl], by simp [ρ', hin2, hinv c hl], .inl ?_⟩
              rw [hSfresh c it hi hl, hS2 c it hfc]
            | some n =>
              have hnc := turn_mem.1 (lookN_mem hl)
              obtain ⟨p1, p2, _⟩ := hold2 n c it hnc hfc
              obtain ⟨l1, l2⟩ := hρ n (hnotnew n c it hnc hi)
              refine ⟨by rw [back_old n c hnc, l1, p1], by rw [back_old n c hnc, l2, p2], .inl ?_⟩
              rw [back_old n c hnc, hSput n c it hnc hi, hS2 c it hfc]
          have hholds : ∀ c it, (c, it) ∈ its2 → HoldI ρ' (s.apply dl).S (b c) w' (rnI b it) := by
            intro c it hc
            have hr := ren2 c (putNames_iff.2 ⟨it, hc⟩)
            exact (hs2.hold c it (by rw [hI2]; exact findI_of hnd2 hc)).ren ⟨hr.loc, hr.tot⟩ fun x hx => ren2 x (q6 x (List.mem_append.2 (.inr (putSays'_mem hc hx))))
          have hblk : ∀ bb, Mu1 bb → ∃ n c it p, (n, c) ∈ m ∧ s.I n = some it ∧ it.owned = true ∧ ρ.loc n = some p ∧ p.1 = bb := fun bb h => h
          refine ⟨ρ', ?_⟩
          refine sim_step hs good ?_ ?_ ?_ ?_ ?_ ?_
          · intro t v e
            rw [← hdel] at e
            simp only at e
            split at e
            · rename_i dd hd
              injection e with e; injection e with e1 e2; subst e1; subst e2
              refine ⟨(hdst _ hd).1, resVal Xs, ?_, put_eq hd⟩
              have hT : RelT ρ2 s2.S svs Xs := by
                refine relT_of (by rw [hXl, hvs]; simp) fun j v x a1 a2 => ?_
                have := hs2.rel j
                have hTj : s2.T j = .s v := by
                  rw [← hs2d]
                  show findT j (numT 0 vs) = _
                  rw [numT_find _ 0 j (Nat.zero_le _), Nat.sub_zero, hvs, List.getElem?_map, a1]; rfl
                rw [hTj] at this
                have hx : Xs.toArray.getD j undef = x := by
                  have := (List.getElem?_eq_some_iff.1 a2)
                  obtain ⟨hlt, e⟩ := this
                  simp [Array.getD_eq_getD_getElem?, hlt, e]
                rw [show ({ tmps := Xs.toArray, defers := [] } : Act).tmps.getD j undef = x from hx] at this
                exact this
              refine (tupOf_rel hT).ren fun x hx => ren2 x (q6 x (List.mem_append.2 (.inl ?_)))
              rw [tupOf_names] at hx
              rw [hvs, avsNames_map]; exact hx
            · cases e
          · intro e
            rw [← hdel] at e
            simp only at e
            split at e
            · cases e
            · rename_i hd; rw [hd]; rfl
          · intro x it' hx
            rw [dfresh] at hx
            obtain ⟨c2, it, k1, k2, rfl, rfl⟩ := hnews x it' hx
            exact hholds c2 it k1
          · intro n it' hn
            rw [dput] at hn
            obtain ⟨c2, it, k1, k2, rfl⟩ := hputs n it' hn
            have := hholds c2 it k2
            rwa [back_old n c2 k1] at this
          · intro x it' p hx hp
            rw [dfresh] at hx
            obtain ⟨c2, it, k1, k2, rfl, rfl⟩ := hnews x it' hx
            have hfc := findI_of hnd2 k1
            have hp2 : ρ2.loc c2 = some p := by rw [← (ren2 c2 (putNames_iff.2 ⟨it, k1⟩)).loc]; exact hp
            have hown := allOwn_of q5 k1 k2
            have hs2c : s2.I c2 = some it := by rw [hI2]; exact hfc
            refine ⟨hs2.lt c2 it p hs2c hp2, ?_, ?_⟩
            · rcases hs2.own c2 it p hs2c hown hp2 with h1 | h1
              · exact .inl (Nat.le_trans hs.mono h1)
              · obtain ⟨n, c3, it3, p3, j1, j2, j3, j4, j5⟩ := hblk _ h1
                rw [← j5]; exact hs.own n it3 p3 j2 j3 j4
            · intro k jt q hk hne hq
              rcases AS.apply_I hs.nd hk with h4 | ⟨h5, _, h4 | ⟨h6, h7, h4⟩⟩
              · rw [dfresh] at h4
                obtain ⟨c3, it3, j1, j2, rfl, rfl⟩ := hnews k jt h4
                refine hs2.sep c2 c3 it it3 p q hs2c (by rw [hI2]; exact findI_of hnd2 j1) hown (fun e => hne (by rw [e])) hp2 ?_
                rw [← (ren2 c3 (putNames_iff.2 ⟨it3, j1⟩)).loc]; exact hq
              · rw [dput] at h4
                obtain ⟨c3, it3, j1, j2, rfl⟩ := hputs k jt h4
                refine hs2.sep c2 c3 it it3 p q hs2c (by rw [hI2]; exact findI_of hnd2 j2) hown (fun e => ?_) hp2 ?_
                · rw [e, lookN_turn q3 j1] at k2; cases k2
                · have := (ren2 c3 (putNames_iff.2 ⟨it3, j2⟩)).loc
                  rw [back_old k c3 j1] at this
                  rw [← this]; exact hq
              · rw [dput] at h6; rw [dgone] at h7; rw [dfresh] at h5
                rw [(hρ k h5).1] at hq
                rcases hs2.own c2 it p hs2c hown hp2 with h1 | h1
                · have := hs.lt k jt q h4 hq; omega
                · obtain ⟨n, c3, it3, p3, j1, j2, j3, j4, j5⟩ := hblk _ h1
                  rw [← j5]
                  refine hs.sep n k it3 jt p3 q j2 h4 j3 ?_ j4 hq
                  rintro rfl
                  rcases goneI_or (its := its2) j1 with h1 | ⟨it5, h1⟩
                  · exact h7 h1
                  · have := findI_isSome (hput_own n c3 it5 it3 j1 (findI_mem h1) j2 j3)
                    rw [h6] at this; cases this
          · intro bb hbb hm2
            refine hs2.frame bb (Nat.lt_of_lt_of_le hbb hs.mono) fun h1 => ?_
            obtain ⟨n, c3, it3, p3, j1, j2, j3, j4, j5⟩ := hblk _ h1
            rcases hs.own n it3 p3 j2 j3 j4 with h2 | h2
            · omega
            · exact hm2 (j5 ▸ h2)
        · exact h.elim
      · exact h.elim
    · exact h.elim
  · exact h.elim

end

end Go.Eng

/- The engine, part R: every operation; regions. -/
namespace Go.Eng
open Go

section
variable {P : Program} {Γ : Ctx} {Θ : Types} {s : AS} {o : Oper} {d : Delta}

theorem restrict_in {l : List Nat} {I : Nat → Option Item} {n : Nat} (h : n ∈ l) : restrict l I n = I n := by
  unfold restrict; rw [memN_iff.2 h]

theorem opNames_head {ev : Operand → AV} {x : Operand} {l : List Operand} {n : Nat} (h : n ∈ (ev x).names) : n ∈ opNames ev (x :: l) := by
  simp only [opNames]; exact List.mem_append.2 (.inl h)

theorem mem_unionN {y : Nat} : ∀ {a b : List Nat}, y ∈ unionN a b ↔ y ∈ a ∨ y ∈ b
  | [], b => by simp [unionN]
  | x :: a, b => by
    simp only [unionN]
    split
    · rename_i h
      rw [mem_unionN, List.mem_cons]
      have := memN_iff.1 h
      constructor
      · rintro (h | h)
        · exact .inl (.inr h)
        · exact .inr h
      · rintro ((h | h) | h)
        · exact .inr (h ▸ this)
        · exact .inl h
        · exact .inr h
    · rw [mem_unionN, List.mem_cons, List.mem_cons]
      constructor
      · rintro (h | h | h)
        · exact .inl (.inr h)
        · exact .inl (.inl h)
        · exact .inr h
      · rintro ((h | h) | h)
        · exact .inr (.inl h)
        · exact .inl h
        · exact .inr (.inr h)

theorem clos_sub {I : Nat → Option Item} : ∀ (k : Nat) {l : List Nat} {n : Nat}, n ∈ l → n ∈ closN I k l
  | 0, _, _, h => h
  | k + 1, l, n, h => clos_sub k (mem_unionN.2 (.inr h))
theorem reads_sub {op : Op} {ev : Operand → AV} {I : Nat → Option Item} {n : Nat} (h : n ∈ opNames ev (opsOf op)) : n ∈ opReads op ev I := by
  unfold opReads
  split
  · exact clos_sub 4 h
  · exact h

theorem stepD_sound (hΘ : TypesOk P Θ) (hΓ : CtxOk P Γ) (hd0 : ∀ n, o.dst = some n → n < s.n) (hd1 : movesOnly o.op = false → ∀ n, o.dst = some n → s.Dst n) (h : (stepD Θ Γ o s.T s.I).Out P Γ d) : WpStep P s o d := by
  unfold stepD at h
  have hI : ∀ n it, restrict (opReads o.op (evO s.T) s.I) s.I n = some it → s.I n = some it := fun n it h => restrict_some h
  have hJ : ∀ (x : Operand) (l : List Operand), opsOf o.op = x :: l → ∀ n ∈ (evO s.T x).names, restrict (opReads o.op (evO s.T) s.I) s.I n = s.I n := by
    intro x l e n hn
    exact restrict_in (reads_sub (by rw [e]; exact opNames_head hn))
  generalize hR : restrict (opReads o.op (evO s.T) s.I) s.I = I at h hI hJ
  have hst : ∀ q : Op, o.op = q → movesOnly q = false → ∀ n, o.dst = some n → s.Dst n := fun q e hq => hd1 (by rw [e]; exact hq)
  cases ho : o.op <;> rw [ho] at h hJ
  case move x => exact (val_move ho h).wp hd0
  case assign x => exact (val_assign ho h).wp hd0
  case pick c a b => exact (val_pick ho h).wp hd0
  case alloc t => exact wp_alloc hΘ (hst _ ho rfl) ho h
  case box t x => exact wp_box hΘ (hst _ ho rfl) ho h
  case build t ps => exact (val_build hΘ ho h).wp hd0
  case buildSlice t l ps => exact wp_buildSlice hΘ (hst _ ho rfl) ho h
  case load t a => exact (val_load hΘ hI ho h).wp hd0
  case store t a v => exact wp_store hΘ hI (hst _ ho rfl) ho h
  case nilCheck x => exact (val_nilCheck ho h).wp hd0
  case binOp op xt x y yt => exact (val_binOp hΘ ho h).wp hd0
  case unOp op xt x => exact (val_unOp ho h).wp hd0
  case convert st dt x => exact wp_convert hΘ hI (hst _ ho rfl) ho h
  case sliceToArrayPointer t x => exact (val_s2ap hΘ hI ho h).wp hd0
  case makeSlice t l c => exact wp_makeSlice hΘ (hst _ ho rfl) ho h
  case slice t x lo hi mx => exact (val_slice hΘ hI (hJ x _ rfl) ho h).wp hd0
  case fieldAddr t x f => exact (val_fieldAddr hΘ ho h).wp hd0
  case field t x f => exact (val_field hΘ ho h).wp hd0
  case indexAddr t x i => exact (val_indexAddr hΘ hI (hJ x _ rfl) ho h).wp hd0
  case index t x i => exact (val_index hΘ ho h).wp hd0
  case extract x j => exact (val_extract ho h).wp hd0
  case call c =>
    simp only [stepCore] at h
    split at h
    · rename_i b hb
      unfold builtinD at h
      split at h
      · rename_i hargs
        exact (val_builtin hΘ hI hb (.inl rfl) ho (by unfold builtinD; rw [hargs]; exact h)).wp hd0
      · rename_i hargs
        exact (val_builtin hΘ hI hb (.inr (.inl rfl)) ho (by unfold builtinD; rw [hargs]; exact h)).wp hd0
      · rename_i hargs
        exact (val_builtin hΘ hI hb (.inr (.inr rfl)) ho (by unfold builtinD; rw [hargs]; exact h)).wp hd0
      · rename_i x y hargs
        exact wp_append hΘ hI (hst _ ho rfl) hb hargs ho h
      · rename_i x y hargs
        exact wp_copy hΘ hI (hst _ ho rfl) hb hargs ho h
      · exact h.elim
    · rename_i f hcal
      split at h
      · rename_i g a b hf
        split at h
        · rename_i ha hb
          have hrun : ∀ w0 Mu ρ act w, Sim w0 Mu ρ s act w → (execOp act.eval o).run P w = (callFunc g (c.args.map act.eval)).run P w := ?_
          · unfold callD at h
            split at h
            · rename_i fi hfi
              split at h
              · rename_i hk; exact wp_callP hΓ hI hfi hk (hst _ ho rfl) ho hrun h
              · rename_i np hk; exact wp_callI hΓ hI hfi hk (hst _ ho rfl) hrun h
            · exact h.elim
          intro w0 Mu ρ act w hs
          have hv := ev_one hs hf
          have hv' : act.eval f = .func (.func g) a b := by
            simp only [RelV, RelSV, RelAt, List.cons.injEq, and_true] at hv
            exact hv.1
          have ha' : a = #[] := by apply Array.ext'; simpa using ha
          have hb' : b = #[] := by apply Array.ext'; simpa using hb
          subst ha'; subst hb'
          simp [execOp, ho, resolve, hcal, hv', Deferred.ofValue, invoke]
        · exact h.elim
      · exact h.elim
    · exact h.elim
  all_goals exact h.elim

/-! ### guards -/

theorem dstOf_eq {ops : List Oper} {j : Nat} : dstOf ops j = (ops[j]?).bind (·.dst) := by
  induction ops generalizing j with
  | nil => simp [dstOf]
  | cons o l ih => cases j <;> simp [dstOf, ih]

theorem wanted_none {a : Act} (ops : Array Oper) (h : guardOf ops.toList s.T o.guard = some none) : Region.wanted o (yielded ops a.tmps) = true := by
  unfold guardOf at h
  split at h
  · rename_i hg; simp [Region.wanted, hg]
  · split at h
    · split at h <;> cases h
    · cases h

theorem wanted_some {w0 : World} {Mu : MuT} {ρ : Rho} {a : Act} {w : World} (hs : Sim w0 Mu ρ s a w) (ops : Array Oper) {b : Bool} (h : guardOf ops.toList s.T o.guard = some (some b)) (hlt : ∀ j d, o.guard.map (·.1) = some j → dstOf ops.toList j = some d → d < s.n) :
    Region.wanted o (yielded ops a.tmps) = b := by
  unfold guardOf at h
  split at h
  · cases h
  · rename_i j want hg
    split at h
    · rename_i dd hdd
      have hd : dd < s.n := hlt j dd (by rw [hg]; rfl) hdd
      have hlt' : dd < a.tmps.size := by rw [hs.size]; exact hd
      have hrel := hs.rel dd
      have hget : a.tmps[dd]? = some (a.tmps.getD dd undef) := by
        simp [Array.getD_eq_getD_getElem?, Array.getElem?_eq_getElem hlt']
      have hy : yielded ops a.tmps j = match a.tmps.getD dd undef with | .bool b => some b | _ => none := by
        rw [dstOf_eq] at hdd
        have h2 : (ops[j]?).bind (·.dst) = some dd := by simpa using hdd
        have h3 : ((ops[j]?).bind (·.dst)).bind (a.tmps[·]?) = some (a.tmps.getD dd undef) := by rw [h2]; exact hget
        unfold yielded
        rw [h3]
        cases a.tmps.getD dd undef <;> rfl
      split at h
      · rename_i bb hb
        injection h with h; injection h with h
        rw [hb] at hrel
        simp only [RelV, RelSV, RelAt, List.cons.injEq, and_true] at hrel
        rw [hrel] at hy
        simp only [Region.wanted, hg, hy]
        subst h
        cases want <;> cases bb <;> rfl
      · rename_i hb
        injection h with h; injection h with h
        rw [hb] at hrel
        obtain ⟨vs, h1, h2⟩ := hrel
        rw [h1] at hy
        simp only [Region.wanted, hg, hy]
        subst h; rfl
      · cases h
    · cases h

/-- one operation with its guard, along any way that it may go -/
def StepOut (P : Program) (Γ : Ctx) (Θ : Types) (ops : List Oper) (s : AS) (o : Oper) (d : Delta) : Prop := (stepG Θ Γ ops o s).Out P Γ d

theorem dstsOk_get {n : Nat} : ∀ {l : List Oper} {j d : Nat}, dstsOk n l = true → dstOf l j = some d → d < n
  | [], j, d, _, h => by simp [dstOf] at h
  | o :: l, j, d, h, hd => by
    simp only [dstsOk, Bool.and_eq_true] at h
    cases j with
    | zero =>
      simp only [dstOf] at hd
      rw [hd] at h
      have := ble_iff.1 (show Nat.ble (d + 1) n = true from h.1)
      omega
    | succ j => simp only [dstOf] at hd; exact dstsOk_get h.2 hd

/-- what an operation does to the run, whatever comes next -/
def WpAt (P : Program) (ops : Array Oper) (s : AS) (o : Oper) (d : Delta) : Prop :=
  ∀ w0 Mu ρ a w (Q : Exit → Act → World → Prop) (K : Act → World → Prop), Sim w0 Mu ρ s a w → (∀ a' w' ρ', Sim w0 Mu ρ' (s.apply d) a' w' → K a' w') →
    if Region.wanted o (yielded ops a.tmps) then o.wp P a w K Q else K (a.put o.dst undef) w

theorem splitDelta_out {p : Bool} {δ : Delta} (h : (splitDelta p δ).Out P Γ d) : (D.ok δ).Out P Γ d := by
  obtain ⟨tmp, fresh, put, gone⟩ := δ
  unfold splitDelta at h
  split at h
  · rename_i u b hd
    simp only at hd
    subst hd
    simp only [D.Out] at h ⊢
    rcases h with ⟨rfl, h⟩ | ⟨rfl, h⟩
    · exact h
    · cases p
      · exact h
      · exact h.elim
  · exact h

theorem splitD_out {p : Bool} : ∀ {t : D Delta}, (splitD p t).Out P Γ d → t.Out P Γ d := by
  intro t
  induction t with
  | ok δ => exact splitDelta_out
  | fail => exact id
  | br c t e ih1 ih2 =>
    intro h
    rcases h with ⟨h1, h2⟩ | ⟨h1, h2⟩
    · exact .inl ⟨h1, ih1 h2⟩
    · exact .inr ⟨h1, ih2 h2⟩
  | call g ds k ih =>
    intro h
    obtain ⟨fi, o, h1, h2, h3⟩ := h
    exact ⟨fi, o, h1, h2, ih o h3⟩

theorem stepG_out {ops : List Oper} (h : (stepG Θ Γ ops o s).Out P Γ d) : (stepG0 Θ Γ ops o s).Out P Γ d := by
  unfold stepG at h
  split at h
  · split at h
    · exact splitD_out h
    · exact h
  · exact h

theorem stepG_sound (hΘ : TypesOk P Θ) (hΓ : CtxOk P Γ) {ops : Array Oper} (hok : dstsOk s.n ops.toList = true) (h : (stepG Θ Γ ops.toList o s).Out P Γ d) : WpAt P ops s o d := by
  replace h := stepG_out h
  unfold stepG0 at h
  split at h
  · rename_i hdo
    have hd0 : ∀ n, o.dst = some n → n < s.n := by
      intro n hn
      unfold dstOk at hdo
      rw [hn] at hdo
      simp only [Bool.and_eq_true] at hdo
      exact ble_iff.1 (show Nat.ble (n + 1) s.n = true from hdo.1)
    have hd1 : movesOnly o.op = false → ∀ n, o.dst = some n → s.Dst n := by
      intro hm n hn
      unfold dstOk at hdo
      rw [hn, hm] at hdo
      simp only [Bool.and_eq_true, Bool.false_or] at hdo
      exact ⟨hd0 n hn, ble_iff.1 hdo.2.1, ble_iff.1 (show Nat.ble (n + 1) 4096 = true from hdo.2.2)⟩
    split at h
    · exact h.elim
    · rename_i hg
      intro w0 Mu ρ a w Q K hs hK
      rw [if_pos (wanted_none ops hg)]
      exact Oper.wp_mono (fun a' w' ⟨ρ', hs'⟩ => hK a' w' ρ' hs') (stepD_sound hΘ hΓ hd0 hd1 h w0 Mu ρ a w Q hs)
    · rename_i b hg
      simp only [D.Out] at h
      intro w0 Mu ρ a w Q K hs hK
      have hw := wanted_some hs ops hg (fun j dd _ h2 => dstsOk_get hok h2)
      rcases h with ⟨rfl, h⟩ | ⟨rfl, h⟩
      · rw [hw, if_pos rfl]
        exact Oper.wp_mono (fun a' w' ⟨ρ', hs'⟩ => hK a' w' ρ' hs') (stepD_sound hΘ hΓ hd0 hd1 h w0 Mu ρ a w Q hs)
      · rw [hw, if_neg (by simp)]
        refine hK _ _ ρ ?_
        subst h
        refine sim_step hs (w' := w) (ρ' := ρ) (d := skipDelta o) ⟨trivial, fun _ _ => ⟨rfl, rfl⟩, fun n it h => by simp [skipDelta, findI] at h, fun _ _ _ _ _ _ _ _ => rfl, Nat.le_refl _, by simp [skipDelta, putNames], ⟨rfl, rfl⟩⟩ ?_ ?_ (fun n it h => by simp [skipDelta, findI] at h) (fun n it h => by simp [skipDelta, findI] at h) (fun n it p h => by simp [skipDelta, findI] at h) (fun _ _ _ => rfl)
        · intro t v e
          simp only [skipDelta] at e
          split at e
          · rename_i m hm
            injection e with e; injection e with e1 e2; subst e1; subst e2
            exact ⟨hd0 _ hm, undef, ⟨[], rfl, rfl⟩, put_eq hm⟩
          · cases e
        · intro e
          simp only [skipDelta] at e
          split at e
          · cases e
          · rename_i hm; rw [hm]; rfl
  · exact h.elim

theorem apply_n (s : AS) (d : Delta) : (s.apply d).n = s.n := rfl

/-- a region in the order of the text -/
theorem runOps_out {R : Type} (hΓ : CtxOk P Γ) {ops : List Oper} : ∀ (l : List Oper) (s : AS) (k : AS → Option R) (r : R), runOps Θ Γ ops l s k = some r →
    ∃ s', k s' = some r ∧ (∃ ds : List Delta, ds.length = l.length ∧ s' = ds.foldl AS.apply s ∧ ∀ (i : Nat) o d, l[i]? = some o → ds[i]? = some d → StepOut P Γ Θ ops ((ds.take i).foldl AS.apply s) o d)
  | [], s, k, r, h => ⟨s, h, [], rfl, rfl, by simp⟩
  | o :: l, s, k, r, h => by
    simp only [runOps] at h
    obtain ⟨d, h1, h2⟩ := D.run_out hΓ _ _ _ h
    obtain ⟨s', h3, ds, h4, h5, h6⟩ := runOps_out hΓ l _ k r h2
    refine ⟨s', h3, d :: ds, by simp [h4], by simpa using h5, ?_⟩
    intro i o' d' ho hd
    cases i with
    | zero => simp at ho hd; subst ho; subst hd; exact h1
    | succ i => simp at ho hd; simpa using h6 i o' d' ho hd

end

end Go.Eng

/- The engine, part S: regions in the order of the text; prune; what is kept at a loop's head. -/
namespace Go.Eng
open Go

section
variable {P : Program} {Γ : Ctx} {Θ : Types}

inductive Chain (P : Program) (Γ : Ctx) (Θ : Types) (ops : List Oper) : List Oper → AS → AS → Prop
  | nil (s : AS) : Chain P Γ Θ ops [] s s
  | cons {o : Oper} {l : List Oper} {s s' : AS} {d : Delta} (h : StepOut P Γ Θ ops s o d) (r : Chain P Γ Θ ops l (s.apply d) s') : Chain P Γ Θ ops (o :: l) s s'

theorem runOps_chain {R : Type} (hΓ : CtxOk P Γ) {ops : List Oper} : ∀ (l : List Oper) (s : AS) (k : AS → Option R) (r : R), runOps Θ Γ ops l s k = some r → ∃ s', k s' = some r ∧ Chain P Γ Θ ops l s s'
  | [], s, k, r, h => ⟨s, h, .nil s⟩
  | o :: l, s, k, r, h => by
    simp only [runOps] at h
    obtain ⟨d, h1, h2⟩ := D.run_out hΓ _ _ _ h
    obtain ⟨s', h3, h4⟩ := runOps_chain hΓ l _ k r h2
    exact ⟨s', h3, .cons h1 h4⟩

/-- from a state, whatever world fits it, the code comes to 'e' in 's'' -/
def Reaches (P : Program) (c : Code) (s : AS) (e : X) (s' : AS) : Prop :=
  ∀ w0 Mu ρ a w (Q : Exit → Act → World → Prop), Sim w0 Mu ρ s a w →
    (∀ a' w' ρ', Sim w0 Mu ρ' s' a' w' → Q (match e with | .normal => .normal | .exit i => .exit i | .ret => .ret) a' w') → c.wp P Q a w

theorem Sim.n_eq {w0 : World} {Mu : MuT} {ρ : Rho} {s : AS} {a : Act} {w : World} (h : Sim w0 Mu ρ s a w) : a.tmps.size = s.n := h.size

theorem chain_ops (hΘ : TypesOk P Θ) (hΓ : CtxOk P Γ) {ops : Array Oper} {l : List Oper} {s s' : AS} (h : Chain P Γ Θ ops.toList l s s') : ∀ {k : Nat}, (∀ j, l[j]? = ops.toList[k + j]?) → dstsOk s.n ops.toList = true →
    ∀ {w0 Mu ρ a w} {Q : Exit → Act → World → Prop}, Sim w0 Mu ρ s a w → (∀ a' w' ρ', Sim w0 Mu ρ' s' a' w' → Q .normal a' w') → wpOps P ops Q (List.range' k l.length) a w := by
  induction h with
  | nil s =>
    intro k _ _ w0 Mu ρ a w Q hs hQ
    exact hQ a w ρ hs
  | @cons o l s s' d h r ih =>
    intro k hl hok w0 Mu ρ a w Q hs hQ
    have h0 : ops[k]? = some o := by have := hl 0; simpa using this.symm
    simp only [List.length_cons, List.range'_succ]
    rw [wpOps_cons]
    unfold wpOp
    simp only [h0]
    have hstep := stepG_sound hΘ hΓ hok h w0 Mu ρ a w Q (wpOps P ops Q (List.range' (k + 1) l.length)) hs (fun a' w' ρ' hs' =>
      ih (k := k + 1) (fun j => by have := hl (j + 1); simpa [Nat.add_assoc, Nat.add_comm 1 j] using this) hok hs' hQ)
    split at hstep
    · rename_i hw; rw [if_pos hw]; exact .inl hstep
    · rename_i hw; rw [if_neg hw]; exact hstep

theorem chain_n {ops l : List Oper} {s s' : AS} (h : Chain P Γ Θ ops l s s') : s'.n = s.n := by
  induction h with
  | nil s => rfl
  | cons h r ih => rw [ih]; rfl

theorem region_reaches (hΘ : TypesOk P Θ) (hΓ : CtxOk P Γ) {id : Nat} {ops : Array Oper} {s s' : AS} (hok : dstsOk s.n ops.toList = true) (h : Chain P Γ Θ ops.toList ops.toList s s') : Reaches P (.region id ops false) s .normal s' := by
  intro w0 Mu ρ a w Q hs hQ
  refine wp_region ?_
  rw [List.range_eq_range']
  have := chain_ops hΘ hΓ h (k := 0) (by simp) hok hs (Q := Q) hQ
  simpa using this

/-! ### prune -/

theorem findT_pruneT (K : List Nat) (t : Nat) : ∀ (l : List (Nat × AV)) (seen : List Nat), findT t (pruneT K l seen) = .s (.one .dead) ∨ (t ∉ seen ∧ findT t (pruneT K l seen) = findT t l)
  | [], seen => .inl rfl
  | (u, v) :: l, seen => by
    simp only [pruneT]
    split
    · rename_i hs
      rcases findT_pruneT K t l seen with h | ⟨h1, h2⟩
      · exact .inl h
      · by_cases e : t = u
        · subst e; exact absurd (memN_iff.1 hs) h1
        · refine .inr ⟨h1, ?_⟩
          rw [h2, findT_cons, if_neg e]
    · rename_i hs
      split
      · rw [findT_cons, findT_cons]
        by_cases e : t = u
        · subst e
          rw [if_pos rfl, if_pos rfl]
          exact .inr ⟨memN_false.1 hs, rfl⟩
        · rw [if_neg e, if_neg e]
          rcases findT_pruneT K t l (u :: seen) with h | ⟨h1, h2⟩
          · exact .inl h
          · exact .inr ⟨fun hm => h1 (.tail _ hm), h2⟩
      · by_cases e : t = u
        · subst e
          -- it is dropped: what is behind it is not its value
          left
          exact pruneT_notK (by assumption) l seen
        · rcases findT_pruneT K t l seen with h | ⟨h1, h2⟩
          · exact .inl h
          · refine .inr ⟨h1, ?_⟩
            rw [h2, findT_cons, if_neg e]
where
  pruneT_notK {K : List Nat} {t : Nat} (h : memN t K = false) : ∀ (l : List (Nat × AV)) (seen : List Nat), findT t (pruneT K l seen) = .s (.one .dead)
  | [], seen => rfl
  | (u, v) :: l, seen => by
    simp only [pruneT]
    split
    · exact pruneT_notK h l seen
    · split
      · rename_i hu
        rw [findT_cons, if_neg]
        · exact pruneT_notK h l _
        · rintro rfl; rw [h] at hu; cases hu
      · exact pruneT_notK h l seen

theorem Sim.prune {w0 : World} {Mu : MuT} {ρ : Rho} {s : AS} {a : Act} {w : World} (K : List Nat) (h : Sim w0 Mu ρ s a w) : Sim w0 Mu ρ (s.prune K) a w := by
  refine ⟨h.defers, h.nd, h.size, ?_, h.hold, h.own, h.sep, h.lt, h.mono, h.frame, h.pin, h.still⟩
  intro t
  rcases findT_pruneT K t s.tmps [] with e | ⟨_, e⟩
  · show RelV ρ s.S (findT t (pruneT K s.tmps [])) _
    rw [e]; exact relDead _ _ _
  · show RelV ρ s.S (findT t (pruneT K s.tmps [])) _
    rw [e]; exact h.rel t

theorem Reaches.prune {c : Code} {s s' : AS} {e : X} (K : List Nat) (h : Reaches P c s e s') : Reaches P c s e (s'.prune K) :=
  fun w0 Mu ρ a w Q hs hQ => h w0 Mu ρ a w Q hs fun a' w' ρ' hs' => hQ a' w' ρ' (hs'.prune K)

/-! ### the head of a loop -/

theorem nodupN_iff : ∀ {l : List Nat}, nodupN l = true ↔ l.Nodup
  | [] => by simp [nodupN]
  | a :: l => by
    simp only [nodupN, Bool.and_eq_true, Bool.not_eq_true', List.nodup_cons, nodupN_iff (l := l)]
    rw [memN_false]

def SrcOf (s : AS) (f : List (Nat × Option Nat)) (n : Nat) (it : Item) : Prop :=
  ((n, none) ∈ f ∧ ∃ k es, it = .row k es [] ∧ 0 < es) ∨ (∃ m k es xs, (n, some m) ∈ f ∧ s.I m = some it ∧ it = .row k es xs)

theorem nrmSlots_spec (s : AS) : ∀ {sl : List NS} {ts : List (Nat × AV)} {is : List (Nat × Item)} {us : List Nat}, nrmSlots s sl = some (ts, is, us) →
    ∃ f : List (Nat × Option Nat), f.map (·.1) = rowNames sl ∧ f.filterMap (·.2) = us ∧ us.Nodup ∧ putNames is = rowNames sl ∧ (∀ n it, (n, it) ∈ is → SrcOf s f n it) ∧
      (∀ t v, (t, v) ∈ ts → (v = s.T t ∧ t ∈ tmpSlots sl) ∨ ∃ n, v = va (.own n) ∧ (((n, none) ∈ f ∧ s.T t = va .nils ∧ ∃ k es, (n, .row k es []) ∈ is) ∨ ∃ m it, (n, some m) ∈ f ∧ s.T t = va (.own m) ∧ (n, it) ∈ is ∧ s.I m = some it))
  | [], ts, is, us, h => by
    simp only [nrmSlots] at h
    injection h with h; injection h with h1 h2; injection h2 with h2 h3; subst h1; subst h2; subst h3
    exact ⟨[], rfl, rfl, List.nodup_nil, rfl, by simp, by simp⟩
  | .tmp t :: sl, ts, is, us, h => by
    simp only [nrmSlots] at h
    split at h
    · rename_i ts' is' us' h'
      injection h with h; injection h with h1 h2; injection h2 with h2 h3; subst h1; subst h2; subst h3
      obtain ⟨f, g1, g2, g3, g4, g5, g6⟩ := nrmSlots_spec s h'
      refine ⟨f, by simpa [rowNames] using g1, g2, g3, by simpa [rowNames] using g4, g5, ?_⟩
      intro t' v hm
      rcases List.mem_cons.1 hm with e | hm
      · injection e with e1 e2; subst e1; subst e2
        exact .inl ⟨rfl, by simp [tmpSlots]⟩
      · rcases g6 t' v hm with ⟨h1, h2⟩ | h1
        · exact .inl ⟨h1, by simp [tmpSlots, h2]⟩
        · exact .inr h1
    · cases h
  | .row t n k es :: sl, ts, is, us, h => by
    simp only [nrmSlots] at h
    split at h
    · rename_i ts' is' us' h'
      obtain ⟨f, g1, g2, g3, g4, g5, g6⟩ := nrmSlots_spec s h'
      have lift5 : ∀ (x : Nat × Option Nat), ∀ n it, (n, it) ∈ is' → SrcOf s (x :: f) n it := by
        intro x n it hm
        rcases g5 n it hm with ⟨h1, h2⟩ | ⟨m, k, es, xs, h1, h2⟩
        · exact .inl ⟨.tail _ h1, h2⟩
        · exact .inr ⟨m, k, es, xs, .tail _ h1, h2⟩
      split at h
      · rename_i hT
        split at h
        · rename_i hes
          injection h with h; injection h with h1 h2; injection h2 with h2 h3; subst h1; subst h2; subst h3
          refine ⟨(n, none) :: f, by simp [rowNames, g1], by simpa using g2, g3, by simp [putNames, rowNames, g4], ?_, ?_⟩
          · intro n' it hm
            rcases List.mem_cons.1 hm with e | hm
            · injection e with e1 e2; subst e1; subst e2
              exact .inl ⟨.head _, k, es, rfl, ble_iff.1 hes⟩
            · exact lift5 _ n' it hm
          · intro t' v hm
            rcases List.mem_cons.1 hm with e | hm
            · injection e with e1 e2; subst e1; subst e2
              exact .inr ⟨n, rfl, .inl ⟨.head _, hT, k, es, .head _⟩⟩
            · rcases g6 t' v hm with ⟨h1, h2⟩ | ⟨n', h1, ⟨h2, h3, k2, es2, h4⟩ | ⟨m, it, h2, h3, h4, h5⟩⟩
              · exact .inl ⟨h1, by simpa [tmpSlots] using h2⟩
              · exact .inr ⟨n', h1, .inl ⟨.tail _ h2, h3, k2, es2, .tail _ h4⟩⟩
              · exact .inr ⟨n', h1, .inr ⟨m, it, .tail _ h2, h3, .tail _ h4, h5⟩⟩
        · cases h
      · rename_i m hT
        split at h
        · rename_i k' es' xs hi
          split at h
          · rename_i hb
            simp only [Bool.and_eq_true, Bool.not_eq_true'] at hb
            have e1 := kindEq_iff.1 hb.1; have e2 := beqT hb.2.1; have e3 := memN_false.1 hb.2.2
            subst e1; subst e2
            injection h with h; injection h with h1 h2; injection h2 with h2 h3; subst h1; subst h2; subst h3
            refine ⟨(n, some m) :: f, by simp [rowNames, g1], by simp [g2], by simp [e3, g3], by simp [putNames, rowNames, g4], ?_, ?_⟩
            · intro n' it hm
              rcases List.mem_cons.1 hm with e | hm
              · injection e with e1 e2; subst e1; subst e2
                exact .inr ⟨m, _, _, xs, .head _, hi, rfl⟩
              · exact lift5 _ n' it hm
            · intro t' v hm
              rcases List.mem_cons.1 hm with e | hm
              · injection e with e1 e2; subst e1; subst e2
                exact .inr ⟨n, rfl, .inr ⟨m, _, .head _, hT, .head _, hi⟩⟩
              · rcases g6 t' v hm with ⟨h1, h2⟩ | ⟨n', h1, ⟨h2, h3, k2, es2, h4⟩ | ⟨m', it, h2, h3, h4, h5⟩⟩
                · exact .inl ⟨h1, by simpa [tmpSlots] using h2⟩
                · exact .inr ⟨n', h1, .inl ⟨.tail _ h2, h3, k2, es2, .tail _ h4⟩⟩
                · exact .inr ⟨n', h1, .inr ⟨m', it, .tail _ h2, h3, .tail _ h4, h5⟩⟩
          · cases h
        · cases h
      · cases h
    · cases h

theorem nrmItems_spec (s : AS) : ∀ {l : List Nat} {js : List (Nat × Item)}, nrmItems s l = some js → (putNames js).Sublist l ∧ ∀ n it, (n, it) ∈ js → s.I n = some it
  | [], js, h => by simp only [nrmItems] at h; injection h with h; subst h; exact ⟨List.Sublist.refl _, by simp⟩
  | n :: l, js, h => by
    simp only [nrmItems] at h
    split at h
    · rename_i is h1
      obtain ⟨g1, g2⟩ := nrmItems_spec s h1
      split at h
      · rename_i it h2
        injection h with h; subst h
        refine ⟨by simp only [putNames]; exact g1.cons_cons n, fun m jt hm => ?_⟩
        rcases List.mem_cons.1 hm with e | hm
        · injection e with e1 e2; subst e1; subst e2; exact h2
        · exact g2 m jt hm
      · injection h with h; subst h
        exact ⟨g1.cons n, g2⟩
    · cases h

theorem nodup'_of : ∀ {l : List (Nat × Item)}, (putNames l).Nodup → Nodup' l
  | [], _ => trivial
  | (n, it) :: l, h => by
    simp only [putNames, List.nodup_cons] at h
    exact ⟨h.1, nodup'_of h.2⟩

theorem findT_mem {t : Nat} : ∀ {l : List (Nat × AV)}, findT t l = .s (.one .dead) ∨ (t, findT t l) ∈ l
  | [] => .inl rfl
  | (u, v) :: l => by
    rw [findT_cons]
    split
    · rename_i e; subst e; exact .inr (.head _)
    · rcases findT_mem (t := t) (l := l) with h | h
      · exact .inl h
      · exact .inr (.tail _ h)

def look (f : List (Nat × Option Nat)) (n : Nat) : Option (Option Nat) := match f with
  | [] => none
  | (m, x) :: l => if n = m then some x else look l n

theorem look_mem {n : Nat} {x : Option Nat} : ∀ {f : List (Nat × Option Nat)}, (f.map (·.1)).Nodup → (n, x) ∈ f → look f n = some x
  | [], _, h => by cases h
  | (m, y) :: l, hn, h => by
    simp only [List.map_cons, List.nodup_cons] at hn
    simp only [look]
    rcases List.mem_cons.1 h with e | h
    · injection e with e1 e2; subst e1; subst e2; rw [if_pos rfl]
    · rw [if_neg]
      · exact look_mem hn.2 h
      · intro e
        exact hn.1 (List.mem_map.2 ⟨(n, x), h, e⟩)

theorem look_none {n : Nat} : ∀ {f : List (Nat × Option Nat)}, n ∉ f.map (·.1) → look f n = none
  | [], _ => rfl
  | (m, y) :: l, h => by
    simp only [List.map_cons, List.mem_cons, not_or] at h
    simp only [look]
    rw [if_neg h.1]; exact look_none h.2

theorem mem_us {f : List (Nat × Option Nat)} {n m : Nat} (h : (n, some m) ∈ f) : m ∈ f.filterMap (·.2) := List.mem_filterMap.2 ⟨_, h, rfl⟩

theorem src_inj : ∀ {f : List (Nat × Option Nat)} {n n' m : Nat}, (f.filterMap (·.2)).Nodup → (n, some m) ∈ f → (n', some m) ∈ f → n = n'
  | [], n, n', m, _, h, _ => by cases h
  | (a, x) :: l, n, n', m, hn, h, h' => by
    cases x with
    | none =>
      simp only [List.filterMap_cons] at hn
      rcases List.mem_cons.1 h with e | h
      · injection e with _ e; cases e
      · rcases List.mem_cons.1 h' with e | h'
        · injection e with _ e; cases e
        · exact src_inj hn h h'
    | some b =>
      simp only [List.filterMap_cons, List.nodup_cons] at hn
      rcases List.mem_cons.1 h with e | g
      · injection e with e1 e2; injection e2 with e2
        rcases List.mem_cons.1 h' with e' | g'
        · injection e' with e1' _; rw [e1, e1']
        · exact absurd (mem_us (e2 ▸ g')) hn.1
      · rcases List.mem_cons.1 h' with e' | g'
        · injection e' with e1 e2; injection e2 with e2
          exact absurd (mem_us (e2 ▸ g)) hn.1
        · exact src_inj hn.2 g g'

theorem Sim.nrm {w0 : World} {Mu : MuT} {ρ : Rho} {s s' : AS} {a : Act} {w : World} {ν : Nrm} (hs : Sim w0 Mu ρ s a w) (h : nrm ν s = some s') : ∃ ρ', Sim w0 Mu ρ' s' a w := by
  unfold Eng.nrm at h
  split at h
  · rename_i ts is us js h1 h2
    split at h
    · rename_i hb
      injection h with h; subst h
      simp only [Bool.and_eq_true, disj_iff] at hb
      obtain ⟨hb0, hb1, hb2, hb3, hb4⟩ := hb
      have hb1 := nodupN_iff.1 hb1
      obtain ⟨f, f1, f2, f3, f4, f5, f6⟩ := nrmSlots_spec s h1
      obtain ⟨j1, j2⟩ := nrmItems_spec s h2
      rw [List.nodup_append] at hb1
      obtain ⟨n1, n2, n3⟩ := hb1
      have hfn : (f.map (·.1)).Nodup := by rw [f1]; exact n2
      let ρ' : Rho := { loc := fun n => match look f n with | some (some m) => ρ.loc m | some none => none | none => ρ.loc n,
                        tot := fun n => match look f n with | some (some m) => ρ.tot m | some none => 0 | none => ρ.tot n }
      have hnd : Nodup' (is ++ js) := nodup'_of (by
        rw [putNames_append, f4, List.nodup_append]
        exact ⟨n2, n1.sublist j1, fun x hx y hy e => n3 y (j1.subset hy) x hx e.symm⟩)
      -- what is found
      have hfind : ∀ n it, findI n (is ++ js) = some it → ((n, it) ∈ is) ∨ (n ∉ rowNames ν.slots ∧ n ∈ ν.items ∧ s.I n = some it) := by
        intro n it hh
        have hm := findI_mem hh
        rcases List.mem_append.1 hm with hm | hm
        · exact .inl hm
        · have hin : n ∈ ν.items := j1.subset (putNames_iff.2 ⟨it, hm⟩)
          exact .inr ⟨fun hr => n3 n hin n hr rfl, hin, j2 n it hm⟩
      have hfound : ∀ n it, (n, it) ∈ is ++ js → findI n (is ++ js) = some it := by
        intro n it hm
        have : ∀ {l : List (Nat × Item)}, Nodup' l → (n, it) ∈ l → findI n l = some it := by
          intro l
          induction l with
          | nil => intro _ h; cases h
          | cons x l ih =>
            obtain ⟨u, v⟩ := x
            intro hn h
            rw [findI_cons]
            rcases List.mem_cons.1 h with e | g
            · injection e with e1 e2; subst e1; subst e2; rw [if_pos rfl]
            · rw [if_neg]
              · exact ih hn.2 g
              · intro e; exact hn.1 (putNames_iff.2 ⟨it, e ▸ g⟩)
        exact this hnd hm
      -- names that are no row's
      have hag : ∀ n, n ∉ rowNames ν.slots → Agree ρ ρ' s.S (fun n => (findI n (is ++ js)).map Item.shape) n := by
        intro n hn
        have hl : look f n = none := look_none (by rw [f1]; exact hn)
        refine ⟨by simp only [ρ', hl], by simp only [ρ', hl], ?_⟩
        cases hh : findI n (is ++ js) with
        | none => right; show (findI n (is ++ js)).map Item.shape = none; rw [hh]; rfl
        | some it =>
          left
          rcases hfind n it hh with hm | ⟨_, _, hi⟩
          · exact absurd (by rw [← f4]; exact putNames_iff.2 ⟨it, hm⟩) hn
          · show (findI n (is ++ js)).map Item.shape = s.S n
            rw [hh, S_of hi]; rfl
      have hsrcloc : ∀ n it, (n, it) ∈ is → ∀ p, ρ'.loc n = some p → ∃ m, (n, some m) ∈ f ∧ s.I m = some it ∧ ρ.loc m = some p ∧ it.owned = true := by
        intro n it hm p hp
        rcases f5 n it hm with ⟨g1, g2⟩ | ⟨m, k, es, xs, g1, g2, g3⟩
        · have := look_mem hfn g1
          simp only [ρ', this] at hp; cases hp
        · have := look_mem hfn g1
          simp only [ρ', this] at hp
          exact ⟨m, g1, g2, hp, by rw [g3]; rfl⟩
      have hold' : ∀ n it, findI n (is ++ js) = some it → HoldI ρ' (fun n => (findI n (is ++ js)).map Item.shape) n w it := by
        intro n it hh
        rcases hfind n it hh with hm | ⟨hnr, hin, hi⟩
        · rcases f5 n it hm with ⟨g1, k, es, rfl, hes⟩ | ⟨m, k, es, xs, g1, g2, rfl⟩
          · have hl := look_mem hfn g1
            exact ⟨hes, ⟨0, by simp⟩, .inl ⟨by simp only [ρ', hl], rfl, by simp only [ρ', hl]⟩⟩
          · have hl := look_mem hfn g1
            obtain ⟨e1, e2, e3⟩ := hs.hold m _ g2
            refine ⟨e1, e2, ?_⟩
            have l1 : ρ'.loc n = ρ.loc m := by simp only [ρ', hl]
            have l2 : ρ'.tot n = ρ.tot m := by simp only [ρ', hl]
            rw [l1, l2]; exact e3
        · refine (hs.hold n it hi).frame ⟨(hag n hnr).1, (hag n hnr).2.1⟩ (fun m hm => hag m fun hr => ?_) (fun _ _ => rfl)
          refine hb4 m hr ?_
          have hjs : (n, it) ∈ js := by
            rcases List.mem_append.1 (findI_mem hh) with hm' | hm'
            · exact absurd (by rw [← f4]; exact putNames_iff.2 ⟨it, hm'⟩) hnr
            · exact hm'
          exact putSays_mem hjs hm
      -- what is found, and where it comes from
      have horig : ∀ n it p, findI n (is ++ js) = some it → ρ'.loc n = some p → ∃ m, s.I m = some it ∧ ρ.loc m = some p ∧ ((n, some m) ∈ f ∨ (m = n ∧ n ∈ ν.items ∧ n ∉ rowNames ν.slots)) := by
        intro n it p hh hp
        rcases hfind n it hh with hm | ⟨hnr, hin, hi⟩
        · obtain ⟨m, g1, g2, g3, _⟩ := hsrcloc n it hm p hp
          exact ⟨m, g2, g3, .inl g1⟩
        · exact ⟨n, hi, by rw [← (hag n hnr).1]; exact hp, .inr ⟨rfl, hin, hnr⟩⟩
      refine ⟨ρ', hs.defers, hnd, hs.size, ?_, hold', ?_, ?_, ?_, hs.mono, hs.frame, fun n hn => ?_, hs.still⟩
      · intro t
        show RelV ρ' (fun n => (findI n (is ++ js)).map Item.shape) (findT t ts) _
        rcases findT_mem (t := t) (l := ts) with e | hm
        · rw [e]; exact relDead _ _ _
        · rcases f6 t _ hm with ⟨e, hsl⟩ | ⟨n, e, ⟨g1, g2, k, es, g3⟩ | ⟨m, it, g1, g2, g3, g4⟩⟩
          · rw [e]
            exact (hs.rel t).frame fun n hn => hag n fun hr => hb3 n hr (plain_mem hsl hn)
          · rw [e]
            have hr := hs.rel t
            rw [g2] at hr
            have hv : a.tmps.getD t undef = .slice none 0 0 := by simpa [RelV, RelSV, RelAt, va] using hr
            rw [hv]
            have hS := hfound n _ (List.mem_append.2 (.inl g3))
            have hl := look_mem hfn g1
            show RelAt ρ' (fun n => (findI n (is ++ js)).map Item.shape) (.own n) [.slice none 0 0]
            simp only [RelAt, hS, Option.map_some, Item.shape, List.length_nil, rl_zero]
            exact ⟨0, by simp only [ρ', hl]; rfl, Nat.le_refl _, fun _ => rfl, by simp⟩
          · rw [e]
            have hr := hs.rel t
            rw [g2] at hr
            have hS := hfound n _ (List.mem_append.2 (.inl g3))
            have hl := look_mem hfn g1
            have hr' : RelAt ρ s.S (.own m) [a.tmps.getD t undef] := hr
            obtain ⟨k, es, xs, rfl⟩ : ∃ k es xs, it = .row k es xs := by
              rcases f5 n it g3 with ⟨_, k, es, e2, _⟩ | ⟨_, k, es, xs, _, _, e2⟩
              · exact ⟨k, es, [], e2⟩
              · exact ⟨k, es, xs, e2⟩
            show RelAt ρ' (fun n => (findI n (is ++ js)).map Item.shape) (.own n) [a.tmps.getD t undef]
            simp only [RelAt, S_of g4, Item.shape] at hr'
            simp only [RelAt, hS, Option.map_some, Item.shape]
            have l1 : ρ'.loc n = ρ.loc m := by simp only [ρ', hl]
            have l2 : ρ'.tot n = ρ.tot m := by simp only [ρ', hl]
            rw [l1, l2]; exact hr'
      · intro n it p hh ho hp
        obtain ⟨m, g1, g2, _⟩ := horig n it p hh hp
        exact hs.own m it p g1 ho g2
      · intro n m it it' p q hh hh' ho hne hp hq
        obtain ⟨n', g1, g2, g3⟩ := horig n it p hh hp
        obtain ⟨m', k1, k2, k3⟩ := horig m it' q hh' hq
        refine hs.sep n' m' it it' p q g1 k1 ho (fun e => ?_) g2 k2
        subst e
        rcases g3 with g3 | ⟨g3, g4, g5⟩
        · rcases k3 with k3 | ⟨k3, k4, k5⟩
          · exact hne (src_inj (by rw [f2]; exact f3) g3 k3)
          · subst k3
            exact hb2 n' (by rw [← f2]; exact mem_us g3) k4
        · subst g3
          rcases k3 with k3 | ⟨k3, k4, k5⟩
          · exact hb2 n' (by rw [← f2]; exact mem_us k3) g4
          · exact hne k3
      · intro n it p hh hp
        obtain ⟨m, g1, g2, _⟩ := horig n it p hh hp
        exact hs.lt m it p g1 g2
      · have hn : n < s.lo ∨ hiN ≤ n := hn
        have hnr : n ∉ rowNames ν.slots := fun hr => by
          have h1 := leAll_mem hb0.1 hr
          have h2 := ltAll_iff.1 hb0.2 n hr
          omega
        obtain ⟨g1, g2, g3⟩ := hag n hnr
        obtain ⟨p1, p2, p3⟩ := hs.pin n hn
        refine ⟨g1.trans p1, g2.trans p2, ?_⟩
        rcases g3 with g3 | g3
        · have g3' : (AS.S { n := s.n, lo := s.lo, tmps := ts, items := is ++ js }) n = s.S n := g3
          rw [g3']; exact p3
        · exact .inr g3
    · cases h
  · cases h
where
  leAll_mem : ∀ {l : List Nat} {a b : Nat}, leAll a l = true → b ∈ l → a ≤ b
    | [], _, _, _, h => by cases h
    | c :: l, a, b, h, hm => by
      simp only [leAll, Bool.and_eq_true] at h
      rcases List.mem_cons.1 hm with e | hm
      · subst e; exact ble_iff.1 h.1
      · exact leAll_mem h.2 hm
  putSays_mem : ∀ {js : List (Nat × Item)} {n m : Nat} {it : Item}, (n, it) ∈ js → m ∈ it.names → m ∈ putSays js
    | [], n, m, it, h, _ => by cases h
    | (u, v) :: js, n, m, it, h, hm => by
      simp only [putSays]
      rcases List.mem_cons.1 h with e | h
      · injection e with e1 e2; subst e2; exact List.mem_append.2 (.inl hm)
      · exact List.mem_append.2 (.inr (putSays_mem h hm))
  plain_mem : ∀ {l : List Nat} {t n : Nat}, t ∈ l → n ∈ (s.T t).names → n ∈ plainNames s l
    | [], t, n, h, _ => by cases h
    | u :: l, t, n, h, hn => by
      simp only [plainNames]
      rcases List.mem_cons.1 h with e | h
      · subst e; exact List.mem_append.2 (.inl hn)
      · exact List.mem_append.2 (.inr (plain_mem h hn))

end

end Go.Eng

/- The engine, part T: regions that draw. -/
namespace Go.Eng
open Go

/-! ### what a state answers -/

def purgeAllA : List (Nat × Item) → AV → AV
  | [], v => v
  | (d, _) :: r, v => purgeAllA r (purgeA d v)

theorem findT_purgeAllT_eq (t : Nat) : ∀ (f : List (Nat × Item)) (l : List (Nat × AV)), findT t (purgeAllT f l) = purgeAllA f (findT t l)
  | [], l => rfl
  | (d, i) :: f, l => by simp only [purgeAllT, purgeAllA, findT_purgeAllT_eq t f, findT_purgeT]

theorem purgeAllA_id : ∀ {f : List (Nat × Item)} {v : AV}, (∀ n ∈ putNames f, n ∉ v.names) → purgeAllA f v = v
  | [], v, _ => rfl
  | (d, i) :: f, v, h => by
    have h1 : purgeA d v = v := by
      unfold purgeA; rw [memN_false.2 (h d (.head _))]
    rw [purgeAllA, h1]
    exact purgeAllA_id fun n hn => h n (.tail _ hn)

open Classical in
noncomputable def clash (f : List Nat) : Option Item → Option Item
  | none => none
  | some it => if ∃ x ∈ f, x ∈ it.names then none else some it

theorem clash_id {f : List Nat} {o : Option Item} (h : ∀ x ∈ f, ∀ it, o = some it → x ∉ it.names) : clash f o = o := by
  cases o with
  | none => rfl
  | some it =>
    simp only [clash]
    rw [if_neg]
    rintro ⟨x, h1, h2⟩
    exact h x h1 it rfl h2

theorem findI_purgeI_eq {t d : Nat} : ∀ {l : List (Nat × Item)}, Nodup' l → findI t (purgeI d l) = if t = d then none else clash [d] (findI t l)
  | [], _ => by simp [purgeI, findI, clash]
  | (u, v) :: l, ⟨h1, h2⟩ => by
    have ih := findI_purgeI_eq (t := t) (d := d) h2
    simp only [purgeI]
    split
    · rename_i hu
      have hu := beqT hu; subst hu
      rw [ih, findI_cons]
      by_cases e : t = u
      · simp [e]
      · simp [e]
    · rename_i hu
      split
      · rename_i hm
        have hm := memN_iff.1 hm
        rw [ih, findI_cons]
        by_cases e : t = u
        · subst e
          rw [if_pos (rfl : t = t), findI_none h1, if_neg (beqN hu), if_neg (beqN hu)]
          simp [clash, hm]
        · rw [if_neg e]
      · rename_i hm
        have hm := memN_false.1 hm
        rw [findI_cons, ih, findI_cons]
        by_cases e : t = u
        · subst e
          rw [if_pos rfl, if_pos rfl, if_neg (beqN hu)]
          simp [clash, hm]
        · rw [if_neg e, if_neg e]

theorem clash_clash {a : Nat} {f : List Nat} {o : Option Item} : clash f (clash [a] o) = clash (a :: f) o := by
  cases o with
  | none => rfl
  | some it =>
    simp only [clash]
    by_cases h : a ∈ it.names
    · simp [h, clash]
    · simp [h, clash]

theorem findI_purgeAllI_eq {t : Nat} : ∀ {f l : List (Nat × Item)}, Nodup' l → findI t (purgeAllI f l) = if t ∈ putNames f then none else clash (putNames f) (findI t l)
  | [], l, _ => by
    simp only [purgeAllI, putNames, List.not_mem_nil, if_false]
    exact (clash_id (by simp)).symm
  | (d, i) :: f, l, hn => by
    simp only [purgeAllI, putNames]
    rw [findI_purgeAllI_eq (nodup_purgeI hn), findI_purgeI_eq hn]
    by_cases h1 : t ∈ putNames f
    · simp [h1]
    · by_cases h2 : t = d
      · simp [h2]; intro _; rfl
      · simp [h1, h2, clash_clash]

theorem findI_none_iff {n : Nat} : ∀ {l : List (Nat × Item)}, findI n l = none ↔ n ∉ putNames l
  | [] => by simp [findI, putNames]
  | (u, v) :: l => by
    rw [findI_cons]
    simp only [putNames, List.mem_cons, not_or]
    by_cases h : n = u
    · simp [h]
    · rw [if_neg h, findI_none_iff (l := l)]; simp [h]

noncomputable def Delta.lookT (d : Delta) (t : Nat) (v : AV) : AV := match d.tmp with
  | some (u, x) => if t = u then x else purgeAllA d.fresh v
  | none => purgeAllA d.fresh v

noncomputable def Delta.lookI (d : Delta) (n : Nat) (o : Option Item) : Option Item := match findI n d.fresh with
  | some it => some it
  | none => match findI n d.put with
    | some it => some it
    | none => clash (putNames d.fresh) (if n ∈ d.gone then none else o)

theorem apply_T_eq (s : AS) (d : Delta) (t : Nat) : (s.apply d).T t = d.lookT t (s.T t) := by
  unfold AS.T AS.apply Delta.lookT
  cases hd : d.tmp with
  | none => exact findT_purgeAllT_eq _ _ _
  | some p =>
    obtain ⟨u, x⟩ := p
    show findT t ((u, x) :: purgeAllT d.fresh s.tmps) = _
    rw [findT_cons, findT_purgeAllT_eq]

theorem apply_I_eq {s : AS} {d : Delta} (hn : Nodup' s.items) (n : Nat) : (s.apply d).I n = d.lookI n (s.I n) := by
  unfold AS.I AS.apply Delta.lookI
  show findI n (d.fresh ++ dropAllI (putNames d.fresh) (putAllI d.put (purgeAllI d.fresh (dropAllI d.gone s.items)))) = _
  rw [findI_append]
  cases hf : findI n d.fresh with
  | some it => rfl
  | none =>
    show findI n (dropAllI (putNames d.fresh) (putAllI d.put (purgeAllI d.fresh (dropAllI d.gone s.items)))) = _
    rw [find_dropAll, if_neg (findI_none_iff.1 hf), find_putAll]
    cases hp : findI n d.put with
    | some it => rfl
    | none => 
      show findI n (purgeAllI d.fresh (dropAllI d.gone s.items)) = _
      rw [findI_purgeAllI_eq (nodup_dropAll hn), if_neg (findI_none_iff.1 hf), find_dropAll]

/-! ### the same state -/

structure Eqv (s t : AS) : Prop where
  n : s.n = t.n
  lo : s.lo = t.lo
  T : s.T = t.T
  I : s.I = t.I

theorem Eqv.refl (s : AS) : Eqv s s := ⟨rfl, rfl, rfl, rfl⟩
theorem Eqv.symm {s t : AS} (h : Eqv s t) : Eqv t s := ⟨h.n.symm, h.lo.symm, h.T.symm, h.I.symm⟩
theorem Eqv.trans {s t u : AS} (h : Eqv s t) (h' : Eqv t u) : Eqv s u := ⟨h.n.trans h'.n, h.lo.trans h'.lo, h.T.trans h'.T, h.I.trans h'.I⟩

theorem Eqv.apply {s t : AS} (h : Eqv s t) (hs : Nodup' s.items) (ht : Nodup' t.items) (d : Delta) : Eqv (s.apply d) (t.apply d) := by
  refine ⟨h.n, h.lo, ?_, ?_⟩
  · funext u; rw [apply_T_eq, apply_T_eq, h.T]
  · funext u; rw [apply_I_eq hs, apply_I_eq ht, h.I]

theorem Sim.eqv {w0 : World} {Mu : MuT} {ρ : Rho} {s t : AS} {a : Act} {w : World} (h : Sim w0 Mu ρ s a w) (e : Eqv s t) (hn : Nodup' t.items) : Sim w0 Mu ρ t a w := by
  have hS : s.S = t.S := by unfold AS.S; rw [e.I]
  refine ⟨h.defers, hn, e.n ▸ h.size, ?_, ?_, ?_, ?_, ?_, h.mono, h.frame, by rw [← e.lo, ← hS]; exact h.pin, h.still⟩
  · intro u; rw [← hS, ← e.T]; exact h.rel u
  · intro n it hi; rw [← hS]; rw [← e.I] at hi; exact h.hold n it hi
  · rw [← e.I]; exact h.own
  · rw [← e.I]; exact h.sep
  · rw [← e.I]; exact h.lt

/-! ### an operation hangs on what it reads -/

theorem evAll_congr {ev ev' : Operand → AV} : ∀ {l : List Operand}, (∀ x ∈ l, ev x = ev' x) → evAll ev l = evAll ev' l
  | [], _ => rfl
  | x :: l, h => by rw [evAll, evAll, h x (.head _), evAll_congr fun y hy => h y (.tail _ hy)]

theorem evParts_congr {ev ev' : Operand → AV} : ∀ {l : List (Nat × Operand)}, (∀ x ∈ partOps l, ev x = ev' x) → evParts ev l = evParts ev' l
  | [], _ => rfl
  | (i, x) :: l, h => by
    simp only [partOps] at h
    rw [evParts, evParts, h x (.head _), evParts_congr fun y hy => h y (.tail _ hy)]

theorem opt_congr {ev ev' : Operand → AV} : ∀ {x : Option Operand}, (∀ y ∈ optL x, ev y = ev' y) → opt ev x = opt ev' x
  | none, _ => rfl
  | some x, h => by rw [opt, opt, h x (by simp [optL])]

theorem stepCore_congr {Θ : Types} {Γ : Ctx} {op : Op} {dst : Option Nat} {ev ev' : Operand → AV} {I : Nat → Option Item} (h : ∀ x ∈ opsOf op, ev x = ev' x) :
    stepCore Θ Γ op dst ev I = stepCore Θ Γ op dst ev' I := by
  cases op
  case slice t x lo hi mx =>
    simp only [opsOf, List.mem_cons, List.mem_append] at h
    simp only [stepCore]
    rw [h x (.inl rfl), opt_congr (x := lo) fun y hy => h y (.inr (.inl hy)), opt_congr (x := hi) fun y hy => h y (.inr (.inr (.inl hy))),
      opt_congr (x := mx) fun y hy => h y (.inr (.inr (.inr hy)))]
  case build t ps =>
    simp only [opsOf] at h
    simp only [stepCore]
    rw [evParts_congr h]
  case buildSlice t l ps =>
    simp only [opsOf] at h
    simp only [stepCore]
    rw [evParts_congr h]
  case call c =>
    simp only [opsOf, List.mem_append] at h
    simp only [stepCore]
    rw [evAll_congr fun y hy => h y (.inr hy)]
    split
    · rfl
    · rename_i f hf
      rw [hf] at h
      rw [h f (.inl (by simp))]
    · rfl
  all_goals first
    | rfl
    | (simp only [opsOf, List.mem_cons, List.not_mem_nil, or_false, forall_eq_or_imp, forall_eq] at h
       simp only [stepCore, h])

theorem tmpsOf_mem {t : Nat} : ∀ {l : List Operand}, .tmp t ∈ l → t ∈ tmpsOf l
  | [], h => by cases h
  | x :: l, h => by
    rcases List.mem_cons.1 h with e | h
    · subst e; exact .head _
    · have := tmpsOf_mem h
      cases x <;> first | exact .tail _ this | exact this

theorem evO_congr {T T' : Nat → AV} {l : List Operand} (h : ∀ t ∈ tmpsOf l, T t = T' t) : ∀ x ∈ l, evO T x = evO T' x := by
  intro x hx
  cases x with
  | tmp t => exact h t (tmpsOf_mem hx)
  | _ => rfl

theorem opNames_congr {ev ev' : Operand → AV} : ∀ {l : List Operand}, (∀ x ∈ l, ev x = ev' x) → opNames ev l = opNames ev' l
  | [], _ => rfl
  | x :: l, h => by rw [opNames, opNames, h x (.head _), opNames_congr fun y hy => h y (.tail _ hy)]

theorem restrict_congr {l : List Nat} {I I' : Nat → Option Item} (h : ∀ n ∈ l, I n = I' n) : restrict l I = restrict l I' := by
  funext n
  unfold restrict
  split
  · rename_i hm; exact h n (memN_iff.1 hm)
  · rfl

theorem guardOf_congr {ops : List Oper} {T T' : Nat → AV} {g : Option (Nat × Bool)} (h : ∀ t ∈ guardTmp ops g, T t = T' t) : guardOf ops T g = guardOf ops T' g := by
  unfold guardOf
  split
  · rfl
  · rename_i j want
    split
    · rename_i d hd
      rw [h d (by simp [guardTmp, hd, optL])]
    · rfl

theorem itemNames_congr {I I' : Nat → Option Item} : ∀ {l : List Nat}, (∀ n ∈ l, I n = I' n) → itemNames I l = itemNames I' l
  | [], _ => rfl
  | n :: l, h => by rw [itemNames, itemNames, h n (.head _), itemNames_congr fun y hy => h y (.tail _ hy)]

theorem clos_congr {I I' : Nat → Option Item} : ∀ (k : Nat) {l : List Nat}, (∀ n ∈ closN I k l, I n = I' n) → closN I k l = closN I' k l
  | 0, _, _ => rfl
  | k + 1, l, h => by
    have h1 : itemNames I l = itemNames I' l := itemNames_congr fun n hn => h n (clos_sub (k + 1) hn)
    show closN I k (unionN (itemNames I l) l) = closN I' k (unionN (itemNames I' l) l)
    rw [← h1]
    exact clos_congr k h

theorem opReads_congr {op : Op} {ev ev' : Operand → AV} {I I' : Nat → Option Item} (h : ∀ x ∈ opsOf op, ev x = ev' x) (hI : ∀ n ∈ opReads op ev I, I n = I' n) : opReads op ev I = opReads op ev' I' := by
  have h2 := opNames_congr h
  unfold opReads at hI ⊢
  split
  · rename_i c
    simp only at hI
    rw [clos_congr 4 hI, h2]
  · exact h2

/-- an operation does the same in states that agree where it reads -/
theorem stepG_congr {Θ : Types} {Γ : Ctx} {ops : List Oper} {o : Oper} {s t : AS} (hn : s.n = t.n) (hlo : s.lo = t.lo)
    (hT : ∀ u ∈ tmpsOf (opsOf o.op) ++ guardTmp ops o.guard, s.T u = t.T u) (hI : ∀ n ∈ opReads o.op (evO s.T) s.I, s.I n = t.I n) :
    stepG Θ Γ ops o s = stepG Θ Γ ops o t ∧ ∀ d, logOf ops o s.T s.I d = logOf ops o t.T t.I d := by
  have h1 : ∀ x ∈ opsOf o.op, evO s.T x = evO t.T x := evO_congr fun u hu => hT u (List.mem_append.2 (.inl hu))
  have h2 : opReads o.op (evO s.T) s.I = opReads o.op (evO t.T) t.I := opReads_congr h1 hI
  have h3 : guardOf ops s.T o.guard = guardOf ops t.T o.guard := guardOf_congr fun u hu => hT u (List.mem_append.2 (.inr hu))
  have h4 : stepD Θ Γ o s.T s.I = stepD Θ Γ o t.T t.I := by
    unfold stepD
    rw [stepCore_congr h1, restrict_congr hI, h2]
  constructor
  · have h5 : stepG0 Θ Γ ops o s = stepG0 Θ Γ ops o t := by
      unfold stepG0
      have : dstOk s o = dstOk t o := by unfold dstOk; rw [hn, hlo]
      rw [this, h3, h4]
    unfold stepG
    rw [h5]
  · intro d; unfold logOf; rw [h2]

/-! ### two operations that are apart -/

structure Lbl where
  i : Nat
  o : Oper
  d : Delta
  lg : Log

def NoM (s : AS) (f : Nat) : Prop := (∀ t, f ∉ (s.T t).names) ∧ ∀ n it, s.I n = some it → f ∉ it.names

structure SayOk (x : Lbl) : Prop where
  wt : x.lg.wt = match x.d.tmp with | some (u, _) => [u] | none => []
  writes : x.lg.writes = putNames x.d.fresh ++ (putNames x.d.put ++ x.d.gone)
  says : x.lg.says = (match x.d.tmp with | some (_, v) => v.names | none => []) ++ (putSays x.d.fresh ++ putSays x.d.put)
  fresh : x.lg.fresh = putNames x.d.fresh

theorem sayOk_of {ops : List Oper} {x : Lbl} {T : Nat → AV} {I : Nat → Option Item} (h : x.lg = logOf ops x.o T I x.d) : SayOk x := by
  constructor <;> rw [h] <;> rfl

theorem NoM.apply {s : AS} {x : Lbl} {f : Nat} (hn : Nodup' s.items) (hx : SayOk x) (h : NoM s f) (hf : f ∉ x.lg.says) : NoM (s.apply x.d) f := by
  rw [hx.says] at hf
  simp only [List.mem_append, not_or] at hf
  obtain ⟨f1, f2, f3⟩ := hf
  constructor
  · intro t
    rcases AS.apply_T s x.d t with ⟨v, h1, h2⟩ | ⟨_, h2 | ⟨h2, _⟩⟩
    · rw [h2]; rw [h1] at f1; exact f1
    · rw [h2]; simp [AV.names, SV.names, At.names]
    · rw [h2]; exact h.1 t
  · intro n it hi
    rcases AS.apply_I hn hi with h1 | ⟨_, _, h1 | ⟨_, _, h1⟩⟩
    · exact fun hm => f2 (Sim.nrm.putSays_mem (findI_mem h1) hm)
    · exact fun hm => f3 (Sim.nrm.putSays_mem (findI_mem h1) hm)
    · exact h.2 n it h1

theorem lookT_of_not {x : Lbl} (hx : SayOk x) {s : AS} (hf : ∀ f ∈ x.lg.fresh, NoM s f) {t : Nat} (h : t ∉ x.lg.wt) : (s.apply x.d).T t = s.T t := by
  rw [apply_T_eq]
  rw [hx.wt] at h
  have h1 : purgeAllA x.d.fresh (s.T t) = s.T t := purgeAllA_id fun f hm => (hf f (hx.fresh ▸ hm)).1 t
  unfold Delta.lookT
  split
  · rename_i u v hu
    rw [hu] at h
    rw [if_neg (by simpa using h), h1]
  · exact h1

theorem lookI_of_not {x : Lbl} (hx : SayOk x) {s : AS} (hn : Nodup' s.items) (hf : ∀ f ∈ x.lg.fresh, NoM s f) {n : Nat} (h : n ∉ x.lg.writes) : (s.apply x.d).I n = s.I n := by
  rw [apply_I_eq hn]
  rw [hx.writes] at h
  simp only [List.mem_append, not_or] at h
  unfold Delta.lookI
  rw [findI_none h.1, findI_none h.2.1]
  simp only [if_neg h.2.2]
  exact clash_id fun f hm it hi => (hf f (hx.fresh ▸ hm)).2 n it hi

theorem lookT_same {x : Lbl} (hx : SayOk x) (s t : AS) {u : Nat} (h : u ∈ x.lg.wt) : (s.apply x.d).T u = (t.apply x.d).T u := by
  rw [apply_T_eq, apply_T_eq]
  rw [hx.wt] at h
  unfold Delta.lookT
  split
  · rename_i u' v hu
    rw [hu] at h
    have : u = u' := by simpa using h
    rw [if_pos this, if_pos this]
  · rename_i hu; rw [hu] at h; cases h

theorem lookI_same {x : Lbl} (hx : SayOk x) {s t : AS} (hs : Nodup' s.items) (ht : Nodup' t.items) {n : Nat} (h : n ∈ x.lg.writes) : (s.apply x.d).I n = (t.apply x.d).I n := by
  rw [apply_I_eq hs, apply_I_eq ht]
  rw [hx.writes] at h
  simp only [List.mem_append] at h
  unfold Delta.lookI
  cases h1 : findI n x.d.fresh with
  | some it => rfl
  | none =>
    cases h2 : findI n x.d.put with
    | some it => rfl
    | none =>
      have h3 : n ∈ x.d.gone := by
        rcases h with h | h | h
        · exact absurd h (findI_none_iff.1 h1)
        · exact absurd h (findI_none_iff.1 h2)
        · exact h
      simp only [if_pos h3]

structure Apart (a b : Log) : Prop where
  wr : ∀ t ∈ a.wt, t ∉ b.rt
  rw : ∀ t ∈ b.wt, t ∉ a.rt
  ww : ∀ t ∈ a.wt, t ∉ b.wt
  iwr : ∀ n ∈ a.writes, n ∉ b.reads
  irw : ∀ n ∈ b.writes, n ∉ a.reads
  iww : ∀ n ∈ a.writes, n ∉ b.writes
  iws : ∀ n ∈ a.writes, n ∉ b.says
  isw : ∀ n ∈ b.writes, n ∉ a.says

theorem apartL_spec {a b : Log} (h : apartL a b = true) : Apart a b := by
  simp only [apartL, Bool.and_eq_true, disj_iff] at h
  obtain ⟨h1, h2, h3, h4, h5, h6, h7, h8⟩ := h
  exact ⟨h1, h2, h3, h4, h5, h6, h7, h8⟩

section
variable {P : Program} {Γ : Ctx} {Θ : Types} {ops : List Oper}

inductive LChain (P : Program) (Γ : Ctx) (Θ : Types) (ops : List Oper) : List Lbl → AS → AS → Prop
  | nil {s s' : AS} (h : Eqv s s') : LChain P Γ Θ ops [] s s'
  | cons {x : Lbl} {l : List Lbl} {s s' : AS} (h : StepOut P Γ Θ ops s x.o x.d) (hl : x.lg = logOf ops x.o s.T s.I x.d) (r : LChain P Γ Θ ops l (s.apply x.d) s') : LChain P Γ Θ ops (x :: l) s s'

def FreshNd (x : Lbl) : Prop := Nodup' x.d.fresh

theorem Eqv.step {s t : AS} (e : Eqv s t) (o : Oper) : stepG Θ Γ ops o s = stepG Θ Γ ops o t ∧ ∀ d, logOf ops o s.T s.I d = logOf ops o t.T t.I d :=
  stepG_congr e.n e.lo (fun u _ => by rw [e.T]) (fun n _ => by rw [e.I])

theorem LChain.eqv {l : List Lbl} {s s' : AS} (h : LChain P Γ Θ ops l s s') : ∀ {t : AS}, (∀ x ∈ l, FreshNd x) → Nodup' s.items → Nodup' t.items → Eqv s t → LChain P Γ Θ ops l t s' := by
  induction h with
  | nil h => intro t _ _ _ e; exact .nil (e.symm.trans h)
  | @cons x l s s' h hl r ih =>
    intro t hf hs ht e
    obtain ⟨e1, e2⟩ := e.step (Θ := Θ) (Γ := Γ) (ops := ops) x.o
    refine .cons (by unfold StepOut at h ⊢; rw [← e1]; exact h) (by rw [hl]; exact e2 _) ?_
    exact ih (fun y hy => hf y (.tail _ hy)) (AS.apply_nd hs (hf x (.head _))) (AS.apply_nd ht (hf x (.head _))) (e.apply hs ht x.d)

/-- what holds of labels before and behind -/
def Pair (x y : Lbl) : Prop := ∀ f ∈ y.lg.fresh, f ∉ x.lg.says

theorem LChain.swap {x y : Lbl} {l : List Lbl} {s s' : AS} (hs : Nodup' s.items) (hfd : ∀ z ∈ x :: y :: l, FreshNd z) (hx : ∀ f ∈ x.lg.fresh, NoM s f) (hy : ∀ f ∈ y.lg.fresh, NoM s f)
    (hp : Pair x y) (ha : Apart x.lg y.lg) (h : LChain P Γ Θ ops (x :: y :: l) s s') : LChain P Γ Θ ops (y :: x :: l) s s' := by
  cases h with
  | cons h1 hl1 r =>
    cases r with
    | cons h2 hl2 r =>
      have sx := sayOk_of hl1
      have sy := sayOk_of hl2
      have fx := hfd x (.head _)
      have fy := hfd y (.tail _ (.head _))
      -- y in s
      have rty : y.lg.rt = tmpsOf (opsOf y.o.op) ++ guardTmp ops y.o.guard := by rw [hl2]; rfl
      have rdy : y.lg.reads = opReads y.o.op (evO (s.apply x.d).T) (s.apply x.d).I := by rw [hl2]; rfl
      have rtx : x.lg.rt = tmpsOf (opsOf x.o.op) ++ guardTmp ops x.o.guard := by rw [hl1]; rfl
      have rdx : x.lg.reads = opReads x.o.op (evO s.T) s.I := by rw [hl1]; rfl
      obtain ⟨c1, c2⟩ := stepG_congr (Θ := Θ) (Γ := Γ) (ops := ops) (o := y.o) (s := s.apply x.d) (t := s) rfl rfl
        (fun u hu => lookT_of_not sx hx fun hw => ha.wr u hw (rty ▸ hu))
        (fun n hn => lookI_of_not sx hs hx fun hw => ha.iwr n hw (rdy ▸ hn))
      obtain ⟨d1, d2⟩ := stepG_congr (Θ := Θ) (Γ := Γ) (ops := ops) (o := x.o) (s := s) (t := s.apply y.d) rfl rfl
        (fun u hu => (lookT_of_not sy hy fun hw => ha.rw u hw (rtx ▸ hu)).symm)
        (fun n hn => (lookI_of_not sy hs hy fun hw => ha.irw n hw (rdx ▸ hn)).symm)
      have n1 := AS.apply_nd hs fx
      have n2 := AS.apply_nd hs fy
      have n12 := AS.apply_nd n1 fy
      have n21 := AS.apply_nd n2 fx
      have fxy : ∀ f ∈ x.lg.fresh, f ∉ y.lg.says := fun f hf => ha.iws f (by rw [sx.writes]; rw [sx.fresh] at hf; exact List.mem_append.2 (.inl hf))
      have hy' : ∀ f ∈ y.lg.fresh, NoM (s.apply x.d) f := fun f hf => (hy f hf).apply hs sx (hp f hf)
      have hx' : ∀ f ∈ x.lg.fresh, NoM (s.apply y.d) f := fun f hf => (hx f hf).apply hs sy (fxy f hf)
      refine .cons (by unfold StepOut at h2 ⊢; rw [← c1]; exact h2) (by rw [hl2]; exact c2 _) (.cons (by unfold StepOut at h1 ⊢; rw [← d1]; exact h1) (by rw [hl1]; exact d2 _) ?_)
      refine r.eqv (fun z hz => hfd z (.tail _ (.tail _ hz))) n12 n21 ⟨rfl, rfl, ?_, ?_⟩
      · funext u
        by_cases ux : u ∈ x.lg.wt
        · rw [lookT_of_not sy hy' (ha.ww u ux)]; exact lookT_same sx _ _ ux
        · rw [lookT_of_not sx hx' ux]
          by_cases uy : u ∈ y.lg.wt
          · exact lookT_same sy _ _ uy
          · rw [lookT_of_not sy hy' uy, lookT_of_not sx hx ux, lookT_of_not sy hy uy]
      · funext u
        by_cases ux : u ∈ x.lg.writes
        · rw [lookI_of_not sy n1 hy' (ha.iww u ux)]; exact lookI_same sx hs n2 ux
        · rw [lookI_of_not sx n2 hx' ux]
          by_cases uy : u ∈ y.lg.writes
          · exact lookI_same sy n1 hs uy
          · rw [lookI_of_not sy n1 hy' uy, lookI_of_not sx hs hx ux, lookI_of_not sy hs hy uy]

theorem LChain.front {x : Lbl} {l2 : List Lbl} {s' : AS} : ∀ {l1 : List Lbl} {s : AS}, Nodup' s.items → (∀ z ∈ l1 ++ x :: l2, FreshNd z) → (∀ z ∈ l1 ++ x :: l2, ∀ f ∈ z.lg.fresh, NoM s f) →
    (l1 ++ x :: l2).Pairwise Pair → (∀ y ∈ l1, Apart y.lg x.lg) → LChain P Γ Θ ops (l1 ++ x :: l2) s s' → LChain P Γ Θ ops (x :: (l1 ++ l2)) s s'
  | [], s, _, _, _, _, _, h => h
  | y :: l1, s, hs, hfd, hno, hpw, hap, h => by
    cases h with
    | cons h1 hl1 r =>
      have sy := sayOk_of hl1
      simp only [List.cons_append, List.pairwise_cons] at hpw
      have hr := LChain.front (l1 := l1) (s := s.apply y.d) (AS.apply_nd hs (hfd y (.head _))) (fun z hz => hfd z (.tail _ hz))
        (fun z hz f hf => (hno z (.tail _ hz) f hf).apply hs sy (hpw.1 z hz f hf)) hpw.2 (fun z hz => hap z (.tail _ hz)) r
      have hxm : x ∈ l1 ++ x :: l2 := by simp
      refine LChain.swap hs ?_ (hno y (.head _)) (hno x (.tail _ hxm)) (hpw.1 x hxm) (hap y (.head _)) (.cons h1 hl1 hr)
      intro z hz
      apply hfd z
      have hz : z ∈ y :: x :: (l1 ++ l2) := hz
      simp only [List.cons_append, List.mem_cons, List.mem_append] at hz ⊢
      rcases hz with h | h | h | h
      · exact .inl h
      · exact .inr (.inr (.inl h))
      · exact .inr (.inl h)
      · exact .inr (.inr (.inr h))

end

/-! ### every order -/

section
variable {P : Program} {Γ : Ctx} {Θ : Types}

structure LsOk (ops : Array Oper) (anc : Nat → List Nat) (rem : List Lbl) (listed : Array Bool) : Prop where
  size : listed.size = ops.size
  idx : ∀ x ∈ rem, ops[x.i]? = some x.o
  lst : ∀ i, i < ops.size → (listed.getD i true = false ↔ ∃ x ∈ rem, x.i = i)
  inc : rem.Pairwise fun x y => x.i < y.i
  pair : rem.Pairwise fun x y => Pair x y ∧ (x.i ∈ anc y.i ∨ Apart x.lg y.lg)
  closed : ∀ i, i < ops.size → (∀ x ∈ rem, x.i ≠ i) → ∀ j ∈ anc i, ∀ x ∈ rem, x.i ≠ j
  edges : ∀ i o, ops[i]? = some o → ∀ e ∈ o.after.toList, Region.binds .any e = true → e.on < i ∧ e.on ∈ anc i
  anc : ∀ i o, ops[i]? = some o → ∀ j ∈ anc i, ∃ e ∈ o.after.toList, Region.binds .any e = true ∧ (j = e.on ∨ j ∈ anc e.on)

theorem mem_ready {ops : Array Oper} {listed : Array Bool} {i : Nat} : i ∈ Region.ready .any ops listed ↔ i < ops.size ∧ listed.getD i true = false ∧ ∃ o, ops[i]? = some o ∧ ∀ e ∈ o.after.toList, Region.binds .any e = true → listed.getD e.on false = true := by
  unfold Region.ready
  simp only [List.mem_filter, List.mem_range, Bool.and_eq_true, Bool.not_eq_true']
  constructor
  · rintro ⟨h1, h2, h3⟩
    refine ⟨h1, h2, ops[i], Array.getElem?_eq_getElem h1, ?_⟩
    rw [Array.getElem?_eq_getElem h1] at h3
    simp only [Option.map_some, Option.getD_some] at h3
    rw [← Array.all_toList] at h3
    intro e he hb
    have := List.all_eq_true.1 h3 e he
    simpa [hb] using this
  · rintro ⟨h1, h2, o, h3, h4⟩
    refine ⟨h1, h2, ?_⟩
    rw [h3]
    simp only [Option.map_some, Option.getD_some]
    rw [← Array.all_toList]
    refine List.all_eq_true.2 fun e he => ?_
    cases hb : Region.binds .any e with
    | false => simp
    | true => simpa using h4 e he hb

theorem LChain.sayOk {ops : List Oper} {l : List Lbl} {s s' : AS} (h : LChain P Γ Θ ops l s s') : ∀ x ∈ l, SayOk x := by
  induction h with
  | nil _ => intro x hx; cases hx
  | cons h hl r ih =>
    intro y hy
    rcases List.mem_cons.1 hy with e | hy
    · subst e; exact sayOk_of hl
    · exact ih y hy

theorem any_ops (hΘ : TypesOk P Θ) (hΓ : CtxOk P Γ) {ops : Array Oper} {anc : Nat → List Nat} {s' : AS} (hs' : Nodup' s'.items) :
    ∀ (fuel : Nat) (rem : List Lbl) (listed : Array Bool) (s : AS), rem.length = fuel → LsOk ops anc rem listed → LChain P Γ Θ ops.toList rem s s' → (∀ x ∈ rem, FreshNd x) →
      (∀ x ∈ rem, ∀ f ∈ x.lg.fresh, NoM s f) → dstsOk s.n ops.toList = true → ∀ {w0 Mu ρ a w} {Q : Exit → Act → World → Prop}, Sim w0 Mu ρ s a w → (∀ a' w' ρ', Sim w0 Mu ρ' s' a' w' → Q .normal a' w') →
      wpAny P .any ops Q fuel listed a w := by
  intro fuel
  induction fuel with
  | zero =>
    intro rem listed s hlen hls hch _ _ _ w0 Mu ρ a w Q hs hQ
    have : rem = [] := List.eq_nil_of_length_eq_zero hlen
    subst this
    cases hch with
    | nil e =>
      refine ⟨?_, hQ _ _ ρ (hs.eqv e hs')⟩
      cases hr : Region.ready .any ops listed with
      | nil => rfl
      | cons i l =>
        have hi : i ∈ Region.ready .any ops listed := by rw [hr]; exact .head _
        obtain ⟨h1, h2, _⟩ := mem_ready.1 hi
        obtain ⟨x, hx, _⟩ := (hls.lst i h1).1 h2
        cases hx
  | succ fuel ih =>
    intro rem listed s hlen hls hch hfd hno hok w0 Mu ρ a w Q hs hQ
    have hnl : ∀ j, listed.getD j false = true → ∀ z ∈ rem, z.i ≠ j := by
      intro j hj z hz e
      subst e
      have hlt : z.i < ops.size := by
        have := hls.idx z hz
        by_cases h : z.i < ops.size
        · exact h
        · rw [Array.getElem?_eq_none (by omega)] at this; cases this
      have h2 := (hls.lst z.i hlt).2 ⟨z, hz, rfl⟩
      rw [Array.getD_eq_getD_getElem?, Array.getElem?_eq_getElem (by rw [hls.size]; exact hlt)] at hj h2
      simp only [Option.getD_some] at hj h2
      rw [hj] at h2; cases h2
    constructor
    · intro hr
      exfalso
      cases rem with
      | nil => simp at hlen
      | cons x0 rest =>
        have hx := hls.idx x0 (.head _)
        have hlt : x0.i < ops.size := by
          by_cases h : x0.i < ops.size
          · exact h
          · rw [Array.getElem?_eq_none (by omega)] at hx; cases hx
        have : x0.i ∈ Region.ready .any ops listed := by
          refine mem_ready.2 ⟨hlt, (hls.lst _ hlt).2 ⟨x0, .head _, rfl⟩, x0.o, hx, fun e he hb => ?_⟩
          obtain ⟨e1, _⟩ := hls.edges _ _ hx e he hb
          have hlt2 : e.on < ops.size := by omega
          by_cases hg : listed.getD e.on false = true
          · exact hg
          · exfalso
            have hg' : listed.getD e.on true = false := by
              rw [Array.getD_eq_getD_getElem?, Array.getElem?_eq_getElem (by rw [hls.size]; exact hlt2)] at hg ⊢
              simpa using hg
            obtain ⟨z, hz, hzi⟩ := (hls.lst _ hlt2).1 hg'
            have hinc := hls.inc
            rw [List.pairwise_cons] at hinc
            rcases List.mem_cons.1 hz with e2 | hz
            · subst e2; omega
            · have := hinc.1 z hz; omega
        rw [hr] at this; cases this
    · intro i hi
      obtain ⟨hlt, hl, o, ho, hedge⟩ := mem_ready.1 hi
      obtain ⟨x, hx, rfl⟩ := (hls.lst i hlt).1 hl
      have hxo := hls.idx x hx
      have hoe : o = x.o := by rw [ho] at hxo; injection hxo
      subst hoe
      have hancx : ∀ k ∈ anc x.i, ∀ z ∈ rem, z.i ≠ k := by
        intro k hk z hz
        obtain ⟨e, he, hb, h1⟩ := hls.anc _ _ ho k hk
        have hlis := hnl _ (hedge e he hb)
        rcases h1 with rfl | h1
        · exact hlis z hz
        · have hlt2 := (hls.edges _ _ ho e he hb).1
          exact hls.closed e.on (by omega) hlis k h1 z hz
      obtain ⟨l1, l2, rfl⟩ := List.append_of_mem hx
      have hpair := hls.pair
      have hinc := hls.inc
      rw [List.pairwise_append] at hpair hinc
      have hap : ∀ y ∈ l1, Apart y.lg x.lg := by
        intro y hy
        rcases (hpair.2.2 y hy x (.head _)).2 with h | h
        · exact absurd rfl (hancx _ h y (List.mem_append.2 (.inl hy)))
        · exact h
      have hpw : (l1 ++ x :: l2).Pairwise Pair := hls.pair.imp fun h => h.1
      have hne : ∀ z ∈ l1 ++ l2, z.i ≠ x.i := by
        intro z hz
        rcases List.mem_append.1 hz with hz | hz
        · have := hinc.2.2 z hz x (.head _); omega
        · have := (List.pairwise_cons.1 hinc.2.1).1 z hz; omega
      have hsub : (l1 ++ l2).Sublist (l1 ++ x :: l2) := List.Sublist.append (List.Sublist.refl _) (List.sublist_cons_self _ _)
      have hmem : ∀ z ∈ l1 ++ l2, z ∈ l1 ++ x :: l2 := fun z hz => hsub.subset hz
      have hfr := LChain.front hs.nd hfd hno hpw hap hch
      cases hfr with
      | cons h1 hl1 r =>
        have sx := sayOk_of hl1
        unfold wpOp
        simp only [ho]
        have hstep := stepG_sound hΘ hΓ hok h1 w0 Mu ρ a w Q (wpAny P .any ops Q fuel (listed.setIfInBounds x.i true)) hs (fun a' w' ρ' hs'' => by
          refine ih (l1 ++ l2) _ (s.apply x.d) ?_ ?_ r (fun z hz => hfd z (hmem z hz)) ?_ hok hs'' hQ
          · simp only [List.length_append, List.length_cons] at hlen ⊢; omega
          · refine ⟨by simp [hls.size], fun z hz => hls.idx z (hmem z hz), ?_, hls.inc.sublist hsub, hls.pair.sublist hsub, ?_, hls.edges, hls.anc⟩
            · intro j hj
              rw [Array.getD_eq_getD_getElem?, Array.getElem?_setIfInBounds]
              by_cases e : x.i = j
              · subst e
                rw [if_pos rfl, if_pos (by rw [hls.size]; exact hj)]
                simp only [Option.getD_some]
                constructor
                · intro h; cases h
                · rintro ⟨z, hz, e⟩; exact absurd e (hne z hz)
              · rw [if_neg e, ← Array.getD_eq_getD_getElem?, hls.lst j hj]
                constructor
                · rintro ⟨z, hz, rfl⟩
                  refine ⟨z, ?_, rfl⟩
                  simp only [List.mem_append, List.mem_cons] at hz ⊢
                  rcases hz with h | h | h
                  · exact .inl h
                  · subst h; exact absurd rfl e
                  · exact .inr h
                · rintro ⟨z, hz, rfl⟩; exact ⟨z, hmem z hz, rfl⟩
            · intro j hj hnj k hk z hz
              by_cases e : j = x.i
              · subst e; exact hancx k hk z (hmem z hz)
              · refine hls.closed j hj ?_ k hk z (hmem z hz)
                intro z' hz' e'
                simp only [List.mem_append, List.mem_cons] at hz'
                rcases hz' with h | h | h
                · exact hnj z' (List.mem_append.2 (.inl h)) e'
                · subst h; exact e e'.symm
                · exact hnj z' (List.mem_append.2 (.inr h)) e'
          · intro z hz f hf
            refine (hno z (hmem z hz) f hf).apply hs.nd sx ?_
            rcases List.mem_append.1 hz with h | h
            · have sz := hch.sayOk z (hmem z hz)
              refine (hap z h).iws f ?_
              rw [sz.writes]; rw [sz.fresh] at hf
              exact List.mem_append.2 (.inl hf)
            · exact (List.pairwise_cons.1 hpair.2.1).1 z h |>.1 f hf)
        split at hstep
        · rename_i hw; rw [if_pos hw]; exact .inl hstep
        · rename_i hw; rw [if_neg hw]; exact hstep

end

end Go.Eng

