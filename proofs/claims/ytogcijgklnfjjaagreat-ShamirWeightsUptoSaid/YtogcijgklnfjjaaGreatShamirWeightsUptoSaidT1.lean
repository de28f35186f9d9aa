/- A part of the proof: ShamirWeights: for any identifiers, identifier and place whose data stay within 1,048,576: Lagrange and Weights answer as the document. -/
import Derived.Test.YtogcijgklnfjjaaGreatShamirWeightsUptoSaidT0
import Derived.Laws.MakeOwn
import Derived.MapKept
set_option linter.unusedVariables false
set_option linter.unusedSimpArgs false

namespace Go.Eng
noncomputable section
open Go
set_option maxRecDepth 100000
set_option linter.unusedVariables false
section
variable {P : Program} {Γ : Ctx} {Θ : Types} {s : AS} {o : Oper} {d : Delta} {I : Nat → Option Item}
def Rho.set (ρ : Rho) (d : Nat) (l : Option (Nat × Nat)) (t : Nat) : Rho := { loc := fun n => if n = d then l else ρ.loc n, tot := fun n => if n = d then t else ρ.tot n, out := ρ.out }
theorem Rho.set_loc (ρ : Rho) (d : Nat) (l : Option (Nat × Nat)) (t : Nat) : (ρ.set d l t).loc d = l := by simp [Rho.set]
theorem Rho.set_tot (ρ : Rho) (d : Nat) (l : Option (Nat × Nat)) (t : Nat) : (ρ.set d l t).tot d = t := by simp [Rho.set]
theorem Rho.set_ne (ρ : Rho) {d n : Nat} (l : Option (Nat × Nat)) (t : Nat) (h : n ≠ d) : (ρ.set d l t).loc n = ρ.loc n ∧ (ρ.set d l t).tot n = ρ.tot n := by simp [Rho.set, h]
theorem step_fresh_any {w0 : World} {Mu : MuT} {ρ : Rho} {a : Act} {w w' : World} (hs : Sim w0 Mu ρ s a w) (hst : Still w w') {n : Nat} {v : AV} {it : Item} {gone : List Nat} {x : Value} {l : Option (Nat × Nat)} {tot : Nat} {Q : Exit → Act → World → Prop}
  (hd : o.dst = some n) (hlt : s.Dst n) (hrun : (execOp a.eval o).run P w = .ok (.value x) w')
  (hkeep : ∀ m it p, s.I m = some it → m ≠ n → m ∉ gone → ρ.loc m = some p → w'.heap[p.1]? = w.heap[p.1]?) (hsize : w.heap.size ≤ w'.heap.size)
  (hframe : ∀ b, b < w0.heap.size → ¬ Mu b → w'.heap[b]? = w.heap[b]?)
  (hit : ∀ S', (∀ m, m ≠ n → Agree ρ (ρ.set n l tot) s.S S' m) → S' n = some it.shape → HoldI (ρ.set n l tot) S' n w' it)
  (hv : ∀ S', (∀ m, m ≠ n → Agree ρ (ρ.set n l tot) s.S S' m) → S' n = some it.shape → RelV (ρ.set n l tot) S' v x)
  (hl : ∀ p, l = some p → p.1 < w'.heap.size ∧ (it.owned = true → w0.heap.size ≤ p.1 ∨ Mu p.1) ∧ ∀ m it' q, s.I m = some it' → m ≠ n → m ∉ gone → it.owned = true ∨ it'.owned = true → ρ.loc m = some q → p.1 ≠ q.1) :
  o.wp P a w (fun a' w' => ∃ ρ', Sim w0 Mu ρ' (s.apply { tmp := some (n, v), fresh := [(n, it)], gone := gone }) a' w') Q := by
 unfold Oper.wp
 rw [hrun, Oper.upon_value]
 refine ⟨ρ.set n l tot, ?_⟩
 have hnp : ∀ m, m ∉ putNames [(n, it)] → m ≠ n := fun m h e => h (by simp [putNames, e])
 have good : Good ρ (ρ.set n l tot) s { tmp := some (n, v), fresh := [(n, it)], gone := gone } w w' := by
  refine ⟨⟨by simp [putNames], trivial⟩, fun m hm => Rho.set_ne ρ l tot (hnp m hm), fun m it h => by simp [findI] at h, ?_, hsize, fun m hm => by
   simp only [putNames, List.mem_singleton] at hm
   subst hm
   exact ⟨hlt.2.1, Nat.lt_trans hlt.2.2 (by decide)⟩, hst, rfl⟩
  intro m it' p hi hm _ hg hp
  exact hkeep m it' p hi (hnp m hm) hg hp
 have hag : ∀ m, m ≠ n → Agree ρ (ρ.set n l tot) s.S (s.apply { tmp := some (n, v), fresh := [(n, it)], gone := gone }).S m := fun m hm =>
  good.agree hs.nd (by simp [putNames, hm])
 have hSn : (s.apply { tmp := some (n, v), fresh := [(n, it)], gone := gone }).S n = some it.shape := by
  apply S_of
  unfold AS.I AS.apply
  rw [findI_append]; simp [findI_cons]
 refine sim_step_any hs good ?_ ?_ ?_ ?_ ?_ hframe
 ·
  intro t v' e
  injection e with e; injection e with e1 e2; subst e1; subst e2
  exact ⟨hlt.1, x, hv _ hag hSn, put_eq hd⟩
 ·
  intro e; cases e
 ·
  intro m it' h
  rw [findI_cons] at h
  split at h
  ·
   rename_i e; injection h with h; subst h; subst e; exact hit _ hag hSn
  ·
   simp [findI] at h
 ·
  intro m it' h; simp [findI] at h
 ·
  intro m it' p h hp
  rw [findI_cons] at h
  split at h
  ·
   rename_i e; injection h with h; subst h; subst e
   rw [Rho.set_loc] at hp
   obtain ⟨h1, h2, h3⟩ := hl p hp
   refine ⟨h1, h2, ?_⟩
   intro k it' q hk hne ho2 hq
   rw [(Rho.set_ne ρ l tot (Ne.symm hne)).1] at hq
   rcases AS.apply_I hs.nd hk with h4 | ⟨_, _, h4 | ⟨_, h5, h4⟩⟩
   ·
    rw [findI_cons] at h4
    split at h4
    ·
     rename_i e; exact absurd e.symm hne
    ·
     simp [findI] at h4
   ·
    simp [findI] at h4
   ·
    exact h3 k it' q h4 (Ne.symm hne) h5 ho2 hq
  ·
   simp [findI] at h
theorem step_fresh {w0 : World} {Mu : MuT} {ρ : Rho} {a : Act} {w w' : World} (hs : Sim w0 Mu ρ s a w) (hst : Still w w') {n : Nat} {v : AV} {it : Item} {gone : List Nat} {x : Value} {l : Option (Nat × Nat)} {tot : Nat} {Q : Exit → Act → World → Prop}
  (hd : o.dst = some n) (hlt : s.Dst n) (hrun : (execOp a.eval o).run P w = .ok (.value x) w')
  (hkeep : ∀ m it p, s.I m = some it → m ≠ n → m ∉ gone → ρ.loc m = some p → w'.heap[p.1]? = w.heap[p.1]?) (hsize : w.heap.size ≤ w'.heap.size)
  (hframe : ∀ b, b < w0.heap.size → ¬ Mu b → w'.heap[b]? = w.heap[b]?)
  (hit : ∀ S', (∀ m, m ≠ n → Agree ρ (ρ.set n l tot) s.S S' m) → S' n = some it.shape → HoldI (ρ.set n l tot) S' n w' it)
  (hv : ∀ S', (∀ m, m ≠ n → Agree ρ (ρ.set n l tot) s.S S' m) → S' n = some it.shape → RelV (ρ.set n l tot) S' v x)
  (hl : ∀ p, l = some p → p.1 < w'.heap.size ∧ (w0.heap.size ≤ p.1 ∨ Mu p.1) ∧ ∀ m it' q, s.I m = some it' → m ≠ n → m ∉ gone → ρ.loc m = some q → p.1 ≠ q.1) :
  o.wp P a w (fun a' w' => ∃ ρ', Sim w0 Mu ρ' (s.apply { tmp := some (n, v), fresh := [(n, it)], gone := gone }) a' w') Q :=
 step_fresh_any hs hst hd hlt hrun hkeep hsize hframe hit hv fun p hp => ⟨(hl p hp).1, fun _ => (hl p hp).2.1, fun m it' q h1 h2 h3 _ h4 => (hl p hp).2.2 m it' q h1 h2 h3 h4⟩
theorem heap_push_old {w w' : World} {ob : Obj} (h : w'.heap = w.heap.push ob) {b : Nat} (hb : b < w.heap.size) : w'.heap[b]? = w.heap[b]? := by
 rw [h, Array.getElem?_push]
 rw [if_neg (by omega)]
theorem heap_push_new {w w' : World} {ob : Obj} (h : w'.heap = w.heap.push ob) : w'.heap[w.heap.size]? = some ob := by
 rw [h]; simp
theorem step_block {w0 : World} {Mu : MuT} {ρ : Rho} {a : Act} {w w' : World} (hs : Sim w0 Mu ρ s a w) (hst : Still w w') {n : Nat} {v : AV} {it : Item} {gone : List Nat} {x : Value} {ob : Obj} {tot : Nat} {Q : Exit → Act → World → Prop}
  (hd : o.dst = some n) (hlt : s.Dst n) (hrun : (execOp a.eval o).run P w = .ok (.value x) w') (hheap : w'.heap = w.heap.push ob)
  (hit : ∀ S', (∀ m, m ≠ n → Agree ρ (ρ.set n (some (w.heap.size, 0)) tot) s.S S' m) → S' n = some it.shape → HoldI (ρ.set n (some (w.heap.size, 0)) tot) S' n w' it)
  (hv : ∀ S', (∀ m, m ≠ n → Agree ρ (ρ.set n (some (w.heap.size, 0)) tot) s.S S' m) → S' n = some it.shape → RelV (ρ.set n (some (w.heap.size, 0)) tot) S' v x) :
  o.wp P a w (fun a' w' => ∃ ρ', Sim w0 Mu ρ' (s.apply { tmp := some (n, v), fresh := [(n, it)], gone := gone }) a' w') Q := by
 have hsz : w'.heap.size = w.heap.size + 1 := by rw [hheap]; simp
 refine step_fresh hs hst hd hlt hrun ?_ (by omega) ?_ hit hv ?_
 ·
  intro m it' p hi _ _ hp
  exact heap_push_old hheap (hs.lt m it' p hi hp)
 ·
  intro b hb _
  exact heap_push_old hheap (Nat.lt_of_lt_of_le hb hs.mono)
 ·
  intro p hp
  injection hp with hp; subst hp
  refine ⟨by simp only [hsz]; omega, .inl hs.mono, ?_⟩
  intro m it' q hi _ _ hq
  have := hs.lt m it' q hi hq
  simp only; omega
theorem rel_newptr {ρ : Rho} {S' : Sh} {n b z : Nat} {l : List At} (tot : Nat) (hS : S' n = some (Item.obj l).shape) : RelV (ρ.set n (some (b, 0)) tot) S' (va (.ptr n 0 .z z)) (.pointer (some ⟨b, 0, none⟩)) := by
 refine ⟨(b, 0), Rho.set_loc _ _ _ _, rfl, ?_⟩
 intro sh hsh L hL
 rw [hS] at hsh
 injection hsh with hsh
 subst hsh
 simp [Item.shape, Shape.isObj]
theorem wp_alloc (hΘ : TypesOk P Θ) {t : Nat} (hdst : ∀ n, o.dst = some n → s.Dst n) (ho : o.op = .alloc t) (h : (stepCore Θ Γ (.alloc t) o.dst (evO s.T) I).Out P Γ d) : WpStep P s o d := by
 simp only [stepCore] at h
 split at h
 ·
  rename_i n ti hd ht
  simp only [D.Out] at h; subst h
  intro w0 Mu ρ a w Q hs
  obtain ⟨i, h1, h2, _, h3, z, h4, h5⟩ := (hΘ t ti ht).info
  refine step_block hs ⟨rfl, rfl⟩ (w' := w.alloc (.cells z.cells t)) (ob := .cells z.cells t) (tot := 0) (x := .pointer (some ⟨w.heap.size, 0, none⟩)) hd (hdst n hd) ?_ rfl ?_ ?_
  ·
   simp [execOp, ho, Instr.alloc, zeroValue, run_typeInfo h1, h4, newVar, newRow]
  ·
   intro S' hag hS
   refine ⟨w.heap.size, t, z.cells.toList, Rho.set_loc _ _ _ _, ?_, h5.frame (by rw [h3]; simp)⟩
   rw [heap_push_new (w := w) (ob := .cells z.cells t) rfl]
  ·
   intro S' hag hS
   exact rel_newptr 0 hS
 ·
  exact h.elim
theorem wp_box (hΘ : TypesOk P Θ) {t : Nat} {y : Operand} (hdst : ∀ n, o.dst = some n → s.Dst n) (ho : o.op = .box t y) (h : (stepCore Θ Γ (.box t y) o.dst (evO s.T) I).Out P Γ d) : WpStep P s o d := by
 simp only [stepCore] at h
 split at h
 ·
  rename_i n ti v hd ht hy
  split at h
  ·
   rename_i hb
   simp only [Bool.and_eq_true, Bool.not_eq_true'] at hb
   simp only [D.Out] at h; subst h
   intro w0 Mu ρ a w Q hs
   have hr := ev_one hs hy
   have hc := RelSV.cells hr hb.2.1
   refine step_block hs ⟨rfl, rfl⟩ (w' := w.alloc (.cells (a.eval y).cells t)) (ob := .cells (a.eval y).cells t) (tot := 0) (x := .pointer (some ⟨w.heap.size, 0, none⟩)) hd (hdst n hd) ?_ rfl ?_ ?_
   ·
    simp [execOp, ho, Instr.box, newVar, newRow]
   ·
    intro S' hag hS
    refine ⟨w.heap.size, t, (a.eval y).cells.toList, Rho.set_loc _ _ _ _, ?_, hc.frame ?_⟩
    ·
     rw [heap_push_new (w := w) (ob := .cells (a.eval y).cells t) rfl]
    ·
     intro m hm
     apply hag
     intro e; subst e
     have hn : m ∉ v.names := memN_false.1 hb.2.2
     apply hn
     cases v with
     | one at_ => simpa [SV.atoms, namesL, SV.names] using hm
     | agg l => exact hm
   ·
    intro S' hag hS
    exact rel_newptr 0 hS
  ·
   exact h.elim
 ·
  exact h.elim
theorem allZ_iff : ∀ {l : List Int}, allZ l = true → l = List.replicate l.length 0
 | [], _ => rfl
 | x :: l, h => by
  simp only [allZ, Bool.and_eq_true, decide_eq_true_eq] at h
  obtain ⟨h1, h2⟩ := h
  subst h1
  rw [List.length_cons, List.replicate_succ, ← allZ_iff h2]
theorem mixOf_cells {ρ : Rho} {S : Sh} : ∀ {zs : List At} {l : List CK} {cs : List Value}, mixOf zs = some l → RelL ρ S zs cs → cs = l.map fun c => c.val 0
 | [], l, cs, h, r => by
  simp only [mixOf] at h; injection h with h; subst h; exact r
 | a :: zs, l, cs, h, ⟨c1, c2, e, r1, r2⟩ => by
  simp only [mixOf] at h
  split at h
  ·
   rename_i k z l' hm
   split at h
   ·
    rename_i hz
    injection h with h; subst h
    have hz : z = 0 := by simpa using hz
    simp only [RelAt] at r1
    rw [e, r1, mixOf_cells hm r2, hz]; rfl
   ·
    cases h
  ·
   rename_i f b l' hm
   split at h
   ·
    rename_i hz
    injection h with h; subst h
    have hz : b = 0 := by simpa using hz
    simp only [RelAt] at r1
    rw [e, r1, mixOf_cells hm r2, hz]; rfl
   ·
    cases h
  ·
   rename_i k m z l' hm
   split at h
   ·
    rename_i hz
    rw [Bool.and_eq_true] at hz
    injection h with h; subst h
    obtain ⟨r1, r3⟩ := r1
    have h2 := beqT hz.2
    rw [e, r1, mixOf_cells hm r2, allZ_iff hz.1, h2]
    simp [CK.val]
   ·
    cases h
  ·
   cases h
theorem cellsK_zeros_mix (l : List CK) : cellsK (.mix l) (zerosOf l.length) = l.map fun c => c.val 0 := by
 apply List.ext_getElem?
 intro i
 rw [cellsK_get, List.getElem?_map]
 by_cases hi : i < l.length
 ·
  rw [List.getElem?_eq_getElem hi, show (zerosOf l.length)[i]? = some 0 by simp [zerosOf, hi]]
  simp [cellK, Nat.mod_eq_of_lt hi, ckAt, List.getElem?_eq_getElem hi]
 ·
  rw [show (zerosOf l.length)[i]? = none by simp [zerosOf]; omega, List.getElem?_eq_none (l := l) (by omega)]; rfl
theorem elemKind_zero {t : Nat} {ti : TI} {k : RK} (ht : TyOk P t ti) (h : elemKind ti = some k) :
  ∃ i z, P.info? t = some i ∧ i.zero = some z ∧ i.size = ti.size ∧ i.bytes = ti.bytes ∧ z.cells = (cellsK k (zerosOf ti.size)).toArray ∧ PosK k ti.size := by
 obtain ⟨i, h1, h2, h3, _, z, h4, h5⟩ := ht.info
 unfold elemKind at h
 split at h
 ·
  rename_i k' z' hz
  split at h
  ·
   rename_i hb
   injection h with h; subst h
   simp only [Bool.and_eq_true, decide_eq_true_eq] at hb
   rw [hz] at h5
   obtain ⟨c1, c2, e1, e2, e3⟩ := h5
   simp only [RelL, RelAt] at e2 e3
   subst e2; subst e3
   have hsz := beqT hb.2
   refine ⟨i, z, h1, h4, h2, h3, ?_, by omega, trivial⟩
   rw [hsz]
   apply Array.ext'
   rw [e1, hb.1]; rfl
  ·
   cases h
 ·
  rename_i k' m zs hz
  split at h
  ·
   rename_i hb
   injection h with h; subst h
   simp only [Bool.and_eq_true] at hb
   rw [hz] at h5
   obtain ⟨c1, c2, e1, ⟨e2, e4⟩, e3⟩ := h5
   simp only [RelL] at e3
   subst e3
   have hsz := beqT hb.2.1
   have hp := ble_iff.1 hb.2.2
   refine ⟨i, z, h1, h4, h2, h3, ?_, by omega, trivial⟩
   apply Array.ext'
   rw [e1, e2, allZ_iff hb.1, e4, hsz]
   simp [cellsK, zerosOf]
  ·
   cases h
 ·
  split at h
  ·
   rename_i l hl
   split at h
   ·
    rename_i hb
    injection h with h; subst h
    simp only [Bool.and_eq_true] at hb
    have b1 := beqT hb.1; have b2 := ble_iff.1 hb.2.1
    refine ⟨i, z, h1, h4, h2, h3, ?_, by omega, b1⟩
    apply Array.ext'
    rw [mixOf_cells hl h5, ← b1, ← cellsK_zeros_mix]
   ·
    cases h
  ·
   cases h
theorem zeros_map (k : RK) (n sz : Nat) (h : PosK k sz) : (Array.range (n * sz)).map (fun i => ((cellsK k (zerosOf sz)).toArray)[i % ((cellsK k (zerosOf sz)).toArray).size]!) = (cellsK k (zerosOf (n * sz))).toArray := by
 have hs : (cellsK k (zerosOf sz)).length = sz := by rw [cellsK_length]; simp [zerosOf]
 apply Array.ext
 ·
  simp [cellsK_length, zerosOf]
 ·
  intro i h1 h2
  have hlt : i % sz < sz := Nat.mod_lt _ h.1
  have hi : i < n * sz := by simpa using h1
  simp only [Array.getElem_map, Array.getElem_range, List.size_toArray, hs]
  rw [getElem!_pos _ _ (by simpa [hs] using hlt)]
  have e1 : (cellsK k (zerosOf sz))[i % sz]? = some (cellK k (i % sz) 0) := by
   rw [cellsK_get, show (zerosOf sz)[i % sz]? = some 0 by simp [zerosOf, hlt]]; rfl
  have e2 : (cellsK k (zerosOf (n * sz)))[i]? = some (cellK k i 0) := by
   rw [cellsK_get, show (zerosOf (n * sz))[i]? = some 0 by simp [zerosOf, hi]]; rfl
  have e3 : cellK k i 0 = cellK k (i % sz) 0 := by
   have := cellK_shift (k := k) (es := sz) h.2 (i / sz) (i % sz) 0
   rw [← this]; congr 1
   have := Nat.div_add_mod i sz
   rw [Nat.mul_comm] at this; omega
  have f1 := (List.getElem?_eq_some_iff.1 e1).2
  have f2 := (List.getElem?_eq_some_iff.1 e2).2
  simp only [List.getElem_toArray]
  rw [f1, f2, e3]
theorem flatAtoms_cells {ρ : Rho} {S : Sh} {l : List CK} : ∀ {az : List At} {off : Nat} {ys : List Int} {cs : List Value}, flatAtoms l az off = some ys → RelL ρ S az cs → ys.length = sizesL az ∧ ∀ i, cs[i]? = (ys[i]?).map (ckAt l (off + i)).val
 | [], off, ys, cs, h, r => by
  simp only [flatAtoms] at h; injection h with h; subst h
  simp only [RelL] at r; subst r
  exact ⟨rfl, fun i => by simp⟩
 | a :: az, off, ys, cs, h, ⟨c1, c2, e, r1, r2⟩ => by
  subst e
  simp only [flatAtoms] at h
  split at h
  ·
   split at h
   ·
    rename_i k x _ _ k' m hk hm
    split at h
    ·
     rename_i he
     have he := kindEq_iff.1 he; subst he
     injection h with h; subst h
     obtain ⟨i1, i2⟩ := flatAtoms_cells hm r2
     simp only [RelAt] at r1; subst r1
     refine ⟨by simp [sizesL, At.size, i1]; omega, fun i => ?_⟩
     cases i with
     | zero => simp [hk, CK.val]
     | succ i =>
      rw [List.singleton_append, List.getElem?_cons_succ, List.getElem?_cons_succ, i2 i, show off + (i + 1) = off + 1 + i by omega]
    ·
     cases h
   ·
    cases h
  ·
   split at h
   ·
    rename_i f b _ _ f' m hk hm
    split at h
    ·
     rename_i he
     have he := fltEq_iff.1 he; subst he
     injection h with h; subst h
     obtain ⟨i1, i2⟩ := flatAtoms_cells hm r2
     simp only [RelAt] at r1; subst r1
     refine ⟨by simp [sizesL, At.size, i1]; omega, fun i => ?_⟩
     cases i with
     | zero => simp [hk, CK.val]
     | succ i =>
      rw [List.singleton_append, List.getElem?_cons_succ, List.getElem?_cons_succ, i2 i, show off + (i + 1) = off + 1 + i by omega]
    ·
     cases h
   ·
    cases h
  ·
   split at h
   ·
    rename_i k n xs _ _ m hk hm
    injection h with h; subst h
    obtain ⟨i1, i2⟩ := flatAtoms_cells hm r2
    obtain ⟨q1, q2⟩ := r1
    subst q1
    refine ⟨by simp [sizesL, At.size, i1, q2], fun i => ?_⟩
    by_cases hi : i < n
    ·
     rw [List.getElem?_append_left (by simp; omega), List.getElem?_append_left (by omega), List.getElem?_map]
     have : ckAt l (off + i) = .int k := by
      have : ∀ (n off i : Nat), allK l k off n = true → i < n → ckAt l (off + i) = .int k := by
       intro n
       induction n with
       | zero => intro off i _ h; omega
       | succ n ih =>
        intro off i ha hlt
        simp only [allK, Bool.and_eq_true] at ha
        cases i with
        | zero =>
         have h1 := ha.1
         split at h1
         ·
          rename_i k' e; rw [Nat.add_zero, e, kindEq_iff.1 h1]
         ·
          cases h1
        | succ i => rw [show off + (i + 1) = off + 1 + i by omega]; exact ih (off + 1) i ha.2 (by omega)
      exact this n off i hk hi
     rw [this]; rfl
    ·
     rw [List.getElem?_append_right (by simp; omega), List.getElem?_append_right (by omega), List.length_map, q2, i2 (i - n), show off + n + (i - n) = off + i by omega]
   ·
    cases h
  ·
   cases h
theorem flat_whole {ρ : Rho} {S : Sh} {l : List CK} {az : List At} {ys : List Int} {cs : List Value} (h : flatAtoms l az 0 = some ys) (hs : sizesL az = l.length) (r : RelL ρ S az cs) : cs = cellsK (.mix l) ys ∧ ys.length = l.length := by
 obtain ⟨h1, h2⟩ := flatAtoms_cells h r
 refine ⟨?_, by omega⟩
 apply List.ext_getElem?
 intro i
 rw [h2 i, cellsK_get, Nat.zero_add]
 by_cases hi : i < l.length
 ·
  congr 1
  funext x
  show _ = (ckAt l (i % l.length)).val x
  rw [Nat.mod_eq_of_lt hi]
 ·
  rw [List.getElem?_eq_none (by omega)]; rfl
theorem rel_newrow {ρ : Rho} {S' : Sh} {n b tot len c : Nat} {k : RK} {es : Nat} {xs : List Int} (hS : S' n = some (Item.row k es xs).shape) (hlen : rl es xs.length = len) (hc : len ≤ c) (ht : c * es ≤ tot) :
  RelV (ρ.set n (some (b, 0)) tot) S' (va (.own n)) (.slice (some ⟨b, 0, none⟩) len c) := by
 show RelAt (ρ.set n (some (b, 0)) tot) S' (.own n) [_]
 simp only [RelAt, hS, Item.shape, Rho.set_loc, Rho.set_tot, Option.map_some]
 exact ⟨c, by rw [hlen]; rfl, by rw [hlen]; exact hc, by simp, ht⟩
theorem elemOfSlice_ok (hΘ : TypesOk P Θ) {t : Nat} {ei : TI} (h : elemOfSlice Θ t = some ei) : ∃ e, P.underlying t = some (.slice e) ∧ findTy e Θ = some ei ∧ TyOk P e ei := by
 unfold elemOfSlice at h
 split at h
 ·
  rename_i e ht
  exact ⟨e, und_slice hΘ ht, h, hΘ e ei h⟩
 ·
  cases h
theorem cell1_rel {ρ : Rho} {S : Sh} {a : At} {X : Value} (h : a.cell1 = true) (r : RelSV ρ S (.one a) X) : RelAt ρ S a [X] ∧ X.cells = #[X] := by
 have hr : RelAt ρ S a [X] := by
  cases a <;> first | exact r | (simp [At.cell1] at h; done)
 refine ⟨hr, ?_⟩
 have ho := hr.oneCells X (by simp)
 cases X <;> first | rfl | (simp [Value.oneCell'] at ho; done)
theorem fillT_sound {w0 : World} {Mu : MuT} {ρ : Rho} {a : Act} {w : World} (hs : Sim w0 Mu ρ s a w) : ∀ (l : List (Nat × Operand)) (i : Nat) (az : List At) (pre z : List Value), cellsOf (evParts (evO s.T) l) = some az → inOrder i (evParts (evO s.T) l) = true → pre.length = i → z.length = l.length →
  ∃ cs, Instr.fill (fun i => some (i * 1, 1)) (pre ++ z).toArray (l.map fun x => (x.1, a.eval x.2)) = some (pre ++ cs).toArray ∧ RelL ρ s.S az cs ∧ cs.length = az.length ∧ az.length = l.length ∧ (∀ b ∈ az, b.cell1 = true)
 | [], i, az, pre, z, h, _, _, hz => by
  simp only [evParts, cellsOf] at h
  injection h with h; subst h
  obtain rfl := List.eq_nil_of_length_eq_zero (by simpa using hz)
  exact ⟨[], rfl, rfl, rfl, rfl, by simp⟩
 | (j, x) :: l, i, az, pre, z, h, ho, hp, hz => by
  simp only [evParts, inOrder, Bool.and_eq_true] at ho
  obtain ⟨ho1, ho2⟩ := ho
  have hij := beqT ho1
  subst hij
  simp only [evParts, cellsOf] at h
  split at h
  ·
   rename_i aa l' e4 e5
   split at h
   ·
    rename_i hc
    injection h with h; subst h
    obtain ⟨z0, z, rfl⟩ : ∃ z0 z', z = z0 :: z' := by
     cases z with
     | nil => simp at hz
     | cons z0 z => exact ⟨z0, z, rfl⟩
    obtain ⟨r1, r2⟩ := cell1_rel hc (ev_one hs e4)
    obtain ⟨cs, g1, g2, g3, g4, g5⟩ := fillT_sound hs l (i + 1) l' (pre ++ [a.eval x]) z e5 ho2 (by simp [hp]) (by simpa using hz)
    refine ⟨a.eval x :: cs, ?_, ⟨[a.eval x], cs, rfl, r1, g2⟩, by simp [g3], by simp [g4], ?_⟩
    ·
     simp only [List.map_cons]
     rw [fill_one _ _ i (i * 1) 1 _ _ rfl (by rw [r2]; rfl) (by simp; omega)]
     rw [show (pre ++ a.eval x :: cs).toArray = ((pre ++ [a.eval x]) ++ cs).toArray by simp, ← g1]
     congr 1
     subst hp
     simp [r2]
    ·
     intro b hb
     rcases List.mem_cons.1 hb with rfl | hb
     ·
      exact hc
     ·
      exact g5 b hb
   ·
    cases h
  ·
   cases h
theorem fillM_sound {w0 : World} {Mu : MuT} {ρ : Rho} {a : Act} {w : World} (hs : Sim w0 Mu ρ s a w) {lk : List CK} {es : Nat} (hes : lk.length = es) : ∀ (l : List (Nat × Operand)) (i : Nat) (ys : List Int) (pre z : List Value), fillMix lk (evParts (evO s.T) l) i = some ys → allLive es (evParts (evO s.T) l) = true → pre.length = i * es → z.length = l.length * es →
  Instr.fill (fun i => some (i * es, es)) (pre ++ z).toArray (l.map fun x => (x.1, a.eval x.2)) = some (pre ++ cellsK (.mix lk) ys).toArray ∧ ys.length = l.length * es
 | [], i, ys, pre, z, h, _, _, hz => by
  simp only [evParts, fillMix] at h
  injection h with h; subst h
  obtain rfl := List.eq_nil_of_length_eq_zero (by simpa using hz)
  exact ⟨rfl, by simp⟩
 | (j, x) :: l, i, ys, pre, z, h, ho, hp, hz => by
  simp only [evParts, allLive, Bool.and_eq_true] at ho
  obtain ⟨ho1, ho2⟩ := ho
  simp only [evParts, fillMix] at h
  split at h
  ·
   rename_i v e4
   split at h
   ·
    rename_i y1 y2 e5 e6
    split at h
    ·
     rename_i hij
     have hij := beqT hij; subst hij
     injection h with h; subst h
     rw [e4] at ho1
     simp only [Bool.and_eq_true] at ho1
     have hsz := beqT ho1.2
     obtain ⟨q1, q2⟩ := flat_whole e5 (by rw [hsz, hes]) (RelSV.cells (ev_one hs e4) ho1.1)
     have hxs : (a.eval x).cells.size = es := by
      rw [← Array.length_toList, q1, cellsK_length, q2, hes]
     have hz' : z.length = es + l.length * es := by rw [hz, List.length_cons, Nat.add_mul, Nat.one_mul]; omega
     obtain ⟨g1, g2⟩ := fillM_sound hs hes l (i + 1) y2 (pre ++ cellsK (.mix lk) y1) (z.drop es) e6 ho2 (by rw [List.length_append, cellsK_length, q2, hp, hes, Nat.add_mul, Nat.one_mul]) (by rw [List.length_drop]; omega)
     refine ⟨?_, by rw [List.length_append, q2, g2, hes, List.length_cons, Nat.add_mul, Nat.one_mul]; omega⟩
     simp only [List.map_cons]
     rw [fill_one _ _ i (i * es) es _ _ rfl hxs (by simp; omega)]
     rw [cellsK_append (k := .mix lk) (es := es) hes (m := 1) (by rw [q2, hes, Nat.one_mul]), show pre ++ (cellsK (.mix lk) y1 ++ cellsK (.mix lk) y2) = pre ++ cellsK (.mix lk) y1 ++ cellsK (.mix lk) y2 by rw [List.append_assoc], ← g1]
     congr 1
     apply Array.ext'
     simp only [List.toList_toArray, q1]
     rw [← hp, List.take_left', List.append_assoc]
     ·
      congr 2
      rw [List.drop_append, List.drop_of_length_le (by omega), List.nil_append]
      congr 1; omega
     ·
      rfl
    ·
     cases h
   ·
    cases h
  ·
   cases h
theorem rel_newtab {ρ : Rho} {S' : Sh} {n b tot len c : Nat} {l : List At} (hS : S' n = some (Item.tab l).shape) (hlen : l.length = len) (hc : len ≤ c) (ht : c ≤ tot) :
  RelV (ρ.set n (some (b, 0)) tot) S' (va (.own n)) (.slice (some ⟨b, 0, none⟩) len c) := by
 show RelAt (ρ.set n (some (b, 0)) tot) S' (.own n) [_]
 simp only [RelAt, hS, Item.shape, Rho.set_loc, Rho.set_tot, Option.map_some]
 exact ⟨c, by rw [hlen]; rfl, by rw [hlen]; exact hc, by simp, ht⟩
theorem RelL.setN {ρ : Rho} {S S' : Sh} {n : Nat} {l : Option (Nat × Nat)} {t : Nat} {az : List At} {cs : List Value} (h : n ∉ namesL az) (hag : ∀ m, m ≠ n → Agree ρ (ρ.set n l t) S S' m) (r : RelL ρ S az cs) : RelL (ρ.set n l t) S' az cs :=
 r.frame fun m hm => hag m fun e => h (e ▸ hm)
theorem wp_buildSlice (hΘ : TypesOk P Θ) {t len : Nat} {parts : Array (Nat × Operand)} (hdst : ∀ n, o.dst = some n → s.Dst n) (ho : o.op = .buildSlice t len parts) (h : (stepCore Θ Γ (.buildSlice t len parts) o.dst (evO s.T) I).Out P Γ d) : WpStep P s o d := by
 simp only [stepCore] at h
 split at h
 ·
  rename_i n ei hd he
  split at h
  ·
   split at h
   ·
    rename_i az hcells hb
    split at h
    ·
     rename_i hio
     simp only [Bool.and_eq_true, Bool.not_eq_true'] at hb hio
     have hb1 := beqT hb.1
     have hb2 := ble_iff.1 hb.2.1
     have hb3 := beqT hb.2.2
     have hnn := memN_false.1 hio.2
     simp only [D.Out] at h; subst h
     intro w0 Mu ρ a w Q hs
     obtain ⟨e, h1, h2, h3⟩ := elemOfSlice_ok hΘ he
     obtain ⟨i, h4, h5, _, _, z, h6, _⟩ := h3.info
     have hrun0 : ∀ zs : List Value, zs.length = len → ∃ cs, Instr.fill (fun i => some (i * 1, 1)) zs.toArray (parts.toList.map fun x => (x.1, a.eval x.2)) = some cs.toArray ∧ RelL ρ s.S az cs ∧ cs.length = az.length ∧ az.length = parts.toList.length ∧ (∀ b ∈ az, b.cell1 = true) := by
      intro zs hz
      have := fillT_sound hs parts.toList 0 az [] zs hcells hio.1 rfl (by rw [hz, hb1])
      simpa using this
     have hlen : az.length = len := by
      obtain ⟨_, _, _, _, g4, _⟩ := hrun0 (List.replicate len undef) (by simp)
      rw [g4, hb1]
     have main : ∀ zs : List Value, zs.length = len → ∃ cs : List Value, (execOp a.eval o).run P w = .ok (.value (.slice (some ⟨w.heap.size, 0, none⟩) len len)) (w.alloc (.cells cs.toArray e)) ∧ RelL ρ s.S az cs ∧ cs.length = az.length ∧ (∀ b ∈ az, b.cell1 = true) := by
      intro zs _
      by_cases h0 : len = 0
      ·
       obtain ⟨cs, g1, g2, g3, _, g5⟩ := hrun0 [] (by simp [h0])
       refine ⟨cs, ?_, g2, g3, g5⟩
       have hr0 : (Array.range 0 : Array Nat) = #[] := by apply Array.ext'; simp
       have g1' : Instr.fill (fun i => some (i, 1)) #[] (parts.toList.map fun x => (x.1, a.eval x.2)) = some cs.toArray := by
        have : (fun i : Nat => some (i * 1, 1)) = fun i => some (i, 1) := by funext i; rw [Nat.mul_one]
        rw [← this]; exact g1
       simp [execOp, ho, Instr.buildSlice, run_underlying h1, run_sizeOf h3, hb3, h0, newRow, hr0, g1']
      ·
       obtain ⟨cs, g1, g2, g3, _, g5⟩ := hrun0 ((Array.range (len * 1)).map (fun i => z.cells[i % z.cells.size]!)).toList (by simp)
       refine ⟨cs, ?_, g2, g3, g5⟩
       rw [Array.toArray_toList] at g1
       simp [execOp, ho, Instr.buildSlice, run_underlying h1, run_sizeOf h3, hb3, h0, newRow, show ¬ 2 ^ 24 < len by omega, zeroValue, run_typeInfo h4, h6]
       simp at g1
       rw [g1]
       simp
     obtain ⟨cs, hrun, hrel, hcl, hc1⟩ := main (List.replicate len undef) (by simp)
     refine step_block hs ⟨rfl, rfl⟩ (w' := w.alloc (.cells cs.toArray e)) (ob := .cells cs.toArray e) (tot := len) (x := .slice (some ⟨w.heap.size, 0, none⟩) len len) hd (hdst n hd) hrun rfl ?_ ?_
     ·
      intro S' hag hS
      refine ⟨hc1, .inr ⟨w.heap.size, e, cs, [], Rho.set_loc _ _ _ _, ?_, RelL.setN hnn hag hrel, by simp [Rho.set_tot, hlen]⟩⟩
      rw [heap_push_new (w := w) (ob := .cells cs.toArray e) rfl]; simp
     ·
      intro S' hag hS
      exact rel_newtab hS hlen (Nat.le_refl _) (Nat.le_refl _)
    ·
     exact h.elim
   ·
    exact h.elim
  split at h
  ·
   rename_i k hk
   split at h
   ·
    rename_i xs hx
    split at h
    ·
     rename_i hle
     have hle := ble_iff.1 hle
     simp only [D.Out] at h; subst h
     intro w0 Mu ρ a w Q hs
     obtain ⟨e, h1, h2, h3⟩ := elemOfSlice_ok hΘ he
     obtain ⟨i, z, h4, h5, h6, _, h7, hpos⟩ := elemKind_zero h3 hk
     obtain ⟨g1, g2⟩ := fill_sound hs parts.toList _ _ hx (by simp [zerosOf])
     refine step_block hs ⟨rfl, rfl⟩ (w' := w.alloc (.cells (xs.map (Value.int k)).toArray e)) (ob := .cells (xs.map (Value.int k)).toArray e) (tot := xs.length) (x := .slice (some ⟨w.heap.size, 0, none⟩) len len) hd (hdst n hd) ?_ rfl ?_ ?_
     ·
      have hz := zeros_map (.one k) len ei.size hpos
      rw [← h7] at hz
      rw [show (cellsK (.one k) (zerosOf (len * ei.size))) = (zerosOf (len * ei.size)).map (Value.int k) from rfl] at hz
      rw [← hz] at g1
      by_cases h0 : len * ei.size = 0
      ·
       rw [h0] at g1
       rw [show (Array.range 0).map (fun i => z.cells[i % z.cells.size]!) = #[] from by apply Array.ext'; simp] at g1
       have hr0 : (Array.range 0 : Array Nat) = #[] := by apply Array.ext'; simp
       simp [execOp, ho, Instr.buildSlice, run_underlying h1, run_sizeOf h3, h0, g1, newRow, hr0]
      ·
       simp [execOp, ho, Instr.buildSlice, run_underlying h1, run_sizeOf h3, h0, g1, newRow, show ¬ 2 ^ 24 < len * ei.size by omega, zeroValue, run_typeInfo h4, h5]
     ·
      intro S' hag hS
      refine ⟨hpos, ⟨len, g2⟩, .inr ⟨w.heap.size, e, [], Rho.set_loc _ _ _ _, ?_, by simp [Rho.set_tot]⟩⟩
      rw [heap_push_new (w := w) (ob := .cells (xs.map (Value.int k)).toArray e) rfl]; simp [cellsK]
     ·
      intro S' hag hS
      exact rel_newrow hS (by rw [g2, rl_mul hpos.1]) (Nat.le_refl _) (by omega)
    ·
     exact h.elim
   ·
    exact h.elim
  ·
   rename_i lk hk
   split at h
   ·
    rename_i xs hx
    split at h
    ·
     rename_i hle
     simp only [Bool.and_eq_true] at hle
     have hl0 := beqT hle.1
     have hall := hle.2.2
     have hle := ble_iff.1 hle.2.1
     simp only [D.Out] at h; subst h
     intro w0 Mu ρ a w Q hs
     obtain ⟨e, h1, h2, h3⟩ := elemOfSlice_ok hΘ he
     obtain ⟨i, z, h4, h5, h6, _, h7, hpos⟩ := elemKind_zero h3 hk
     have hz := zeros_map (.mix lk) len ei.size hpos
     rw [← h7] at hz
     obtain ⟨g1, g2⟩ := fillM_sound hs (es := ei.size) hpos.2 parts.toList 0 xs [] (cellsK (.mix lk) (zerosOf (len * ei.size))) hx hall (by simp) (by rw [cellsK_length]; simp [zerosOf, hl0])
     rw [List.nil_append, List.nil_append] at g1
     rw [← hl0] at g2
     refine step_block hs ⟨rfl, rfl⟩ (w' := w.alloc (.cells (cellsK (.mix lk) xs).toArray e)) (ob := .cells (cellsK (.mix lk) xs).toArray e) (tot := xs.length) (x := .slice (some ⟨w.heap.size, 0, none⟩) len len) hd (hdst n hd) ?_ rfl ?_ ?_
     ·
      rw [← hz] at g1
      by_cases h0 : len * ei.size = 0
      ·
       rw [h0] at g1
       rw [show (Array.range 0).map (fun i => z.cells[i % z.cells.size]!) = #[] from by apply Array.ext'; simp] at g1
       have hr0 : (Array.range 0 : Array Nat) = #[] := by apply Array.ext'; simp
       simp [execOp, ho, Instr.buildSlice, run_underlying h1, run_sizeOf h3, h0, g1, newRow, hr0]
      ·
       simp [execOp, ho, Instr.buildSlice, run_underlying h1, run_sizeOf h3, h0, g1, newRow, show ¬ 2 ^ 24 < len * ei.size by omega, zeroValue, run_typeInfo h4, h5]
     ·
      intro S' hag hS
      refine ⟨hpos, ⟨len, g2⟩, .inr ⟨w.heap.size, e, [], Rho.set_loc _ _ _ _, ?_, by simp [Rho.set_tot]⟩⟩
      rw [heap_push_new (w := w) (ob := .cells (cellsK (.mix lk) xs).toArray e) rfl]; simp
     ·
      intro S' hag hS
      exact rel_newrow hS (by rw [g2, rl_mul hpos.1]) (Nat.le_refl _) (by omega)
    ·
     exact h.elim
   ·
    exact h.elim
  ·
   exact h.elim
 ·
  exact h.elim
theorem wrap_small (n : Int) (h1 : 0 ≤ n) (h2 : n ≤ 281474976710656) : IntKind.i64.wrap n = n := by
 unfold IntKind.wrap
 have e1 : IntKind.i64.bits = 64 := rfl
 have e2 : IntKind.i64.signed = true := rfl
 simp only [e1, e2, Bool.true_and, decide_eq_true_eq]
 split <;> omega
theorem wp_makeSlice (hΘ : TypesOk P Θ) {t : Nat} {lo co : Operand} (hdst : ∀ n, o.dst = some n → s.Dst n) (ho : o.op = .makeSlice t lo co) (h : (stepCore Θ Γ (.makeSlice t lo co) o.dst (evO s.T) I).Out P Γ d) : WpStep P s o d := by
 simp only [stepCore] at h
 split at h
 ·
  rename_i n ei l c hd he hl hc
  split at h
  ·
   rename_i k hk
   obtain ⟨hb, h⟩ := chk_out h
   simp only [D.Out] at h; subst h
   simp only [Bool.and_eq_true, decide_eq_true_eq] at hb
   obtain ⟨hb1, hb2, hb4, hb3⟩ := hb
   intro w0 Mu ρ a w Q hs
   obtain ⟨e, h1, h2, h3⟩ := elemOfSlice_ok hΘ he
   obtain ⟨i, z, h4, h5, h6, h8, h7, hpos⟩ := elemKind_zero h3 hk
   have hz := zeros_map k c.toNat ei.size hpos
   rw [← h7] at hz
   refine step_block hs ⟨rfl, rfl⟩ (w' := w.alloc (.cells (cellsK k (zerosOf (c.toNat * ei.size))).toArray e)) (ob := .cells (cellsK k (zerosOf (c.toNat * ei.size))).toArray e) (tot := c.toNat * ei.size) (x := .slice (some ⟨w.heap.size, 0, none⟩) l.toNat c.toNat) hd (hdst n hd) ?_ rfl ?_ ?_
   ·
    have hm := run_make (P := P) w t e i z h1 h4 h5 .i64 .i64 l c hb1 hb2 (by rw [h8, Int.mul_comm]; exact hb3) (by omega)
    unfold madeCells at hm
    rw [h6, hz] at hm
    simp only [execOp, ho, ev_int hs hl, ev_int hs hc, Sem.run_bind, hm, Result.andThen_ok, Sem.run_pure]
   ·
    intro S' hag hS
    refine ⟨hpos, ⟨l.toNat, by simp [zerosOf, mulE_eq]⟩, .inr ⟨w.heap.size, e, cellsK k ((zerosOf (c.toNat * ei.size)).drop (mulE l.toNat ei.size)), Rho.set_loc _ _ _ _, ?_, ?_⟩⟩
    ·
     rw [heap_push_new (w := w) (ob := .cells (cellsK k (zerosOf (c.toNat * ei.size))).toArray e) rfl]
     congr 3
     rw [← cellsK_append hpos.2 (m := l.toNat) (by simp [zerosOf, mulE_eq])]
     congr 1
     have hle : l.toNat * ei.size ≤ c.toNat * ei.size := Nat.mul_le_mul_right _ (by omega)
     simp [zerosOf, mulE_eq, List.replicate_append_replicate]
     omega
    ·
     have hle : l.toNat * ei.size ≤ c.toNat * ei.size := Nat.mul_le_mul_right _ (by omega)
     simp [Rho.set_tot, cellsK_length, zerosOf, mulE_eq]; omega
   ·
    intro S' hag hS
    exact rel_newrow hS (by simp [zerosOf, mulE_eq, rl_mul hpos.1]) (by omega) (Nat.le_refl _)
  ·
   exact h.elim
 ·
  exact h.elim
theorem formEq_forms : ∀ {l m : List At}, formEq l m = true → formsOf l = formsOf m
 | [], [], _ => rfl
 | [], _ :: _, h => by simp [formEq] at h
 | _ :: _, [], h => by simp [formEq] at h
 | a :: l, b :: m, h => by
  simp only [formEq] at h
  split at h
  ·
   simp only [Bool.and_eq_true] at h
   obtain ⟨⟨h1, h2⟩, h3⟩ := h
   simp [formsOf, At.form, beqT h2, formEq_forms h3]
  ·
   cases h
  ·
   cases h
  ·
   cases h
  ·
   cases h
  ·
   rename_i h1 h2 h3 h4 h5
   have fa : a.form = none := by cases a <;> first | rfl | simp_all
   have fb : b.form = none := by cases b <;> first | rfl | simp_all
   simp [formsOf, fa, fb, formEq_forms h]
end
section
variable {P : Program} {Γ : Ctx} {Θ : Types} {s : AS} {o : Oper} {d : Delta} {I : Nat → Option Item}
theorem step_putW {w0 : World} {Mu : MuT} {ρ : Rho} {a : Act} {w w' : World} (hs : Sim w0 Mu ρ s a w) {n b : Nat} {it it' : Item} {v : AV} {r : Next} {x : Value} {Q : Exit → Act → World → Prop}
  (hdst : ∀ m, o.dst = some m → s.Dst m) (hi : s.I n = some it) (hown : it.owned = true) (hloc : ρ.loc n = some (b, 0)) (hsh : it'.shape = it.shape) (ho' : it'.owned = it.owned)
  (hrun : (execOp a.eval o).run P w = .ok r w') (hr : (r = .value x) ∨ (r = .skip ∧ x = undef)) (hv : RelV ρ s.S v x)
  (hold : HoldI ρ s.S n w' it') (hoth : ∀ k, k ≠ b → w'.heap[k]? = w.heap[k]?) (hsz : w.heap.size ≤ w'.heap.size) (hst : Still w w') :
  o.wp P a w (fun a' w' => ∃ ρ', Sim w0 Mu ρ' (s.apply { tmp := tmpOf o.dst v, put := [(n, it')] }) a' w') Q := by
 have up : o.upon P a (fun a' w' => ∃ ρ', Sim w0 Mu ρ' (s.apply { tmp := tmpOf o.dst v, put := [(n, it')] }) a' w') Q (.ok r w') =
   (∃ ρ', Sim w0 Mu ρ' (s.apply { tmp := tmpOf o.dst v, put := [(n, it')] }) (a.put o.dst x) w') := by
  rcases hr with rfl | ⟨rfl, rfl⟩ <;> rfl
 unfold Oper.wp
 rw [hrun, up]
 refine ⟨ρ, ?_⟩
 have hothers : ∀ m it2 p, s.I m = some it2 → m ≠ n → ρ.loc m = some p → w'.heap[p.1]? = w.heap[p.1]? := fun m it2 p hm hne hp =>
  hoth p.1 (fun e => hs.sep n m it it2 (b, 0) p hi hm hown (Ne.symm hne) hloc hp e.symm)
 have hSeq : (s.apply { tmp := tmpOf o.dst v, put := [(n, it')] }).S = s.S := by
  funext m
  unfold AS.S AS.I AS.apply
  simp only [List.nil_append, purgeAllI, dropAllI, putNames]
  rw [find_putAll, findI_cons]
  by_cases h : m = n
  ·
   subst h
   rw [if_pos rfl]
   unfold AS.I at hi
   rw [hi]; simp [hsh]
  ·
   rw [if_neg h]; simp [findI]
 have good : Good ρ ρ s { tmp := tmpOf o.dst v, put := [(n, it')] } w w' := by
  refine ⟨trivial, fun _ _ => ⟨rfl, rfl⟩, ?_, ?_, hsz, by simp [putNames], hst, rfl⟩
  ·
   intro m it2 h
   rw [findI_cons] at h
   split at h
   ·
    rename_i e; injection h with h; subst h; subst e
    exact ⟨it, hi, hsh, ho', by simp [putNames]⟩
   ·
    simp [findI] at h
  ·
   intro m it2 p hm _ hp _ hpl
   rw [findI_cons] at hp
   split at hp
   ·
    cases hp
   ·
    rename_i e; exact hothers m it2 p hm e hpl
 refine sim_step hs good ?_ ?_ ?_ ?_ ?_ ?_
 ·
  intro t v' e
  rw [hSeq]
  simp only [tmpOf] at e
  split at e
  ·
   rename_i m hm
   injection e with e; injection e with e1 e2; subst e1; subst e2
   exact ⟨(hdst _ hm).1, x, hv, put_eq hm⟩
  ·
   cases e
 ·
  intro e
  simp only [tmpOf] at e
  split at e
  ·
   cases e
  ·
   rename_i hm; rw [hm]; rfl
 ·
  intro m it2 h; simp [findI] at h
 ·
  intro m it2 h
  rw [hSeq]
  rw [findI_cons] at h
  split at h
  ·
   rename_i e; injection h with h; subst h; subst e; exact hold
  ·
   simp [findI] at h
 ·
  intro m it2 p h; simp [findI] at h
 ·
  intro k hk hm
  refine hoth k ?_
  rintro rfl
  rcases hs.own n it (k, 0) hi hown hloc with h | h
  ·
   simp only at h; omega
  ·
   exact hm h
theorem step_put {w0 : World} {Mu : MuT} {ρ : Rho} {a : Act} {w : World} (hs : Sim w0 Mu ρ s a w) {n b : Nat} {it it' : Item} {v : AV} {r : Next} {x : Value} {cs : Array Value} {Q : Exit → Act → World → Prop}
  (hdst : ∀ m, o.dst = some m → s.Dst m) (hi : s.I n = some it) (hown : it.owned = true) (hloc : ρ.loc n = some (b, 0)) (hsh : it'.shape = it.shape) (ho' : it'.owned = it.owned)
  (hrun : (execOp a.eval o).run P w = .ok r (w.setRow b cs)) (hr : (r = .value x) ∨ (r = .skip ∧ x = undef)) (hv : RelV ρ s.S v x)
  (hold : HoldI ρ s.S n (w.setRow b cs) it') :
  o.wp P a w (fun a' w' => ∃ ρ', Sim w0 Mu ρ' (s.apply { tmp := tmpOf o.dst v, put := [(n, it')] }) a' w') Q :=
 step_putW hs hdst hi hown hloc hsh ho' hrun hr hv hold (fun k hk => setRow_other w b k cs hk) (by simp) ⟨rfl, rfl⟩
theorem forms_setBase : ∀ (l : List At) (b : Nat) (ys : List Int), formsOf (setBase l b ys) = formsOf l
 | [], _, _ => rfl
 | a :: l, 0, ys => by cases a <;> rfl
 | a :: l, b + 1, ys => by
  simp only [setBase]
  split
  ·
   simp [formsOf, forms_setBase l]
  ·
   rfl
theorem RelL.setBase {ρ : Rho} {S : Sh} : ∀ {l : List At} {b : Nat} {k : IntKind} {xs ys : List Int} {cs : List Value}, atBase l b = some (k, xs) → ys.length = xs.length → RelL ρ S l cs →
  ∃ c1 c2, cs = c1 ++ (xs.map (Value.int k) ++ c2) ∧ c1.length = b ∧ RelL ρ S (setBase l b ys) (c1 ++ (ys.map (Value.int k) ++ c2))
 | [], b, k, xs, ys, cs, h, _, r => by simp [atBase] at h
 | a :: l, 0, k, xs, ys, cs, h, hy, ⟨c1, c2, e, r1, r2⟩ => by
  simp only [atBase] at h
  split at h
  ·
   rename_i k' m xs'
   injection h with h; injection h with h1 h2; subst h1; subst h2
   obtain ⟨e1, e2⟩ := r1
   subst e; subst e1
   exact ⟨[], c2, rfl, rfl, ys.map (Value.int _), c2, rfl, ⟨rfl, by rw [hy, e2]⟩, r2⟩
  ·
   cases h
 | a :: l, b + 1, k, xs, ys, cs, h, hy, ⟨c1, c2, e, r1, r2⟩ => by
  simp only [atBase] at h
  split at h
  ·
   rename_i hb
   obtain ⟨d1, d2, e2, e3, e4⟩ := RelL.setBase h hy r2
   subst e; subst e2
   have hb' := ble_iff.1 hb
   refine ⟨c1 ++ d1, d2, by simp, by simp [r1.length, e3]; omega, ?_⟩
   simp only [Eng.setBase, hb]
   exact ⟨c1, d1 ++ (ys.map (Value.int k) ++ d2), by simp, r1, e4⟩
  ·
   cases h
theorem HoldI.setContent {ρ : Rho} {S : Sh} {n : Nat} {w : World} {it it' : Item} {base : Nat} {k : IntKind} {xs ys : List Int} (h : HoldI ρ S n w it) (hc : it.content base = some (k, xs)) (hpos : 0 < xs.length) (hy : ys.length = xs.length)
  (hset : it.setContent base ys = some it') :
  it.owned = true ∧ it'.shape = it.shape ∧ it'.owned = it.owned ∧ ∃ b T c1 c2, ρ.loc n = some (b, 0) ∧ w.heap[b]? = some (.cells (c1 ++ (xs.map (Value.int k) ++ c2)).toArray T (0, 0)) ∧ c1.length = base ∧
   HoldI ρ S n (w.setRow b (c1 ++ (ys.map (Value.int k) ++ c2)).toArray) it' := by
 cases it with
 | obj l =>
  simp only [Item.setContent] at hset
  injection hset with hset; subst hset
  obtain ⟨b, T, cs, e1, e2, r⟩ := h
  obtain ⟨c1, c2, e3, e4, e5⟩ := RelL.setBase hc hy r
  subst e3
  refine ⟨rfl, by simp [Item.shape, forms_setBase], rfl, b, T, c1, c2, e1, e2, e4, b, T, _, e1, ?_, e5⟩
  exact setRow_heap w b _ _ T _ e2
 | row k' es xs' =>
  simp only [Item.setContent] at hset
  injection hset with hset; subst hset
  simp only [Item.content] at hc
  split at hc
  ·
   split at hc
   ·
    injection hc with hc; injection hc with h1 h2; subst h1; subst h2
    obtain ⟨p0, ⟨m, pm⟩, r⟩ := h
    rcases r with ⟨_, e, _⟩ | ⟨b, T, sp, e1, e2, e3⟩
    ·
     rw [e] at hpos; simp at hpos
    ·
     refine ⟨rfl, by simp [Item.shape, hy], rfl, b, T, [], sp, e1, e2, rfl, p0, ⟨m, by rw [hy]; exact pm⟩, .inr ⟨b, T, sp, e1, ?_, by rw [hy]; exact e3⟩⟩
     exact setRow_heap w b _ _ T _ e2
   ·
    cases hc
  ·
   cases hc
 | view k' es xs' => simp [Item.setContent] at hset
 | tab l => simp [Item.setContent] at hset
 | dview k' es rows => simp [Item.setContent] at hset
 | mp kk vk l => simp [Item.setContent] at hset
theorem mix_write {l : List CK} {es i off : Nat} {xs ys : List Int} {cs sp : List Value} (hl : l.length = es) (ho : off + ys.length ≤ es) (hx : i * es + off + ys.length ≤ xs.length) (hc : cs.length = ys.length)
  (h : ∀ j, cs[j]? = (ys[j]?).map (ckAt l (off + j)).val) :
  (cellsK (.mix l) xs ++ sp).take (i * es + off) ++ cs ++ (cellsK (.mix l) xs ++ sp).drop (i * es + off + cs.length) = cellsK (.mix l) (splice xs (.at (i * es + off)) ys) ++ sp := by
 have hL := cellsK_length (.mix l) xs
 have hs : (splice xs (.at (i * es + off)) ys).length = xs.length := splice_length _ _ _ hx
 apply List.ext_getElem?
 intro q
 have hget : ∀ q, q < xs.length → (cellsK (.mix l) (splice xs (.at (i * es + off)) ys) ++ sp)[q]? = ((splice xs (.at (i * es + off)) ys)[q]?).map (cellK (.mix l) q) := fun q hq => by
  rw [List.getElem?_append_left (by rw [cellsK_length, hs]; exact hq), cellsK_get]
 have hget0 : ∀ q, q < xs.length → (cellsK (.mix l) xs ++ sp)[q]? = (xs[q]?).map (cellK (.mix l) q) := fun q hq => by
  rw [List.getElem?_append_left (by rw [cellsK_length]; exact hq), cellsK_get]
 have htk : ((cellsK (.mix l) xs ++ sp).take (i * es + off)).length = i * es + off := by rw [List.length_take, List.length_append, hL]; omega
 by_cases h1 : q < i * es + off
 ·
  rw [List.append_assoc, List.getElem?_append_left (by omega), List.getElem?_take_of_lt h1, hget0 q (by omega), hget q (by omega)]
  congr 1
  simp only [splice]
  rw [List.getElem?_append_left (by rw [List.length_take]; omega), List.getElem?_take_of_lt h1]
 ·
  by_cases h2 : q < i * es + off + ys.length
  ·
   rw [List.getElem?_append_left (by rw [List.length_append]; omega), List.getElem?_append_right (by omega), htk, h, hget q (by omega)]
   have e1 : (splice xs (.at (i * es + off)) ys)[q]? = ys[q - (i * es + off)]? := by
    simp only [splice]
    rw [List.getElem?_append_right (by rw [List.length_take]; omega), List.length_take, Nat.min_eq_left (by omega), List.getElem?_append_left (by omega)]
   rw [e1]
   congr 1
   funext x
   have := ck_at (l := l) (es := es) (i := i) (off := off + (q - (i * es + off))) hl (by omega) x
   rw [show i * es + (off + (q - (i * es + off))) = q by omega] at this
   exact this.symm
  ·
   rw [List.getElem?_append_right (by rw [List.length_append]; omega), List.length_append, htk, List.getElem?_drop, show i * es + off + cs.length + (q - (i * es + off + cs.length)) = q by omega]
   by_cases h3 : q < xs.length
   ·
    rw [hget0 q h3, hget q h3]
    congr 1
    simp only [splice]
    rw [List.getElem?_append_right (by rw [List.length_take]; omega), List.length_take, Nat.min_eq_left (by omega), List.getElem?_append_right (by omega), List.getElem?_drop]
    congr 1; omega
   ·
    rw [List.getElem?_append_right (by omega), List.getElem?_append_right (by rw [cellsK_length, hs]; omega), cellsK_length, cellsK_length, hs]
theorem splice_cells (c1 c2 : List Value) (k : IntKind) (xs vs : List Int) (e : Nat) (h : e + vs.length ≤ xs.length) :
  (c1 ++ (xs.map (Value.int k) ++ c2)).take (c1.length + e) ++ (vs.map (Value.int k)) ++ (c1 ++ (xs.map (Value.int k) ++ c2)).drop (c1.length + e + vs.length) =
   c1 ++ ((xs.take e ++ (vs ++ xs.drop (e + vs.length))).map (Value.int k) ++ c2) := by
 have h1 : (c1 ++ (xs.map (Value.int k) ++ c2)).take (c1.length + e) = c1 ++ (xs.take e).map (Value.int k) := by
  rw [List.take_append, List.take_of_length_le (by omega), List.take_append_of_le_length (by simp; omega)]
  simp
 have h2 : (c1 ++ (xs.map (Value.int k) ++ c2)).drop (c1.length + e + vs.length) = (xs.drop (e + vs.length)).map (Value.int k) ++ c2 := by
  rw [List.drop_append, List.drop_of_length_le (by omega), List.nil_append, List.drop_append_of_le_length (by simp; omega)]
  simp; congr 1; omega
 rw [h1, h2]; simp
theorem run_write {P : Program} {w : World} {b : Nat} {T : TypeId} {c1 c2 : List Value} {k : IntKind} {xs vs : List Int} {e : Nat} (hh : w.heap[b]? = some (.cells (c1 ++ (xs.map (Value.int k) ++ c2)).toArray T (0, 0))) (h : e + vs.length ≤ xs.length) :
  (storeCells (adr (b, 0) (c1.length + e)) (vs.map (Value.int k))).run P w = .ok () (w.setRow b (c1 ++ ((xs.take e ++ (vs ++ xs.drop (e + vs.length))).map (Value.int k) ++ c2)).toArray) := by
 have := run_storeCells_at (P := P) b (c1.length + e) T (vs.map (Value.int k)) 0 _ w hh (by simp; omega) (by simp [Value.oneCell'])
 simp only [Nat.add_zero, List.length_map] at this
 rw [adr]
 simp only [Nat.zero_add]
 rw [this, splice_cells c1 c2 k xs vs e h]
theorem run_storeVar {t : Nat} {ti : TI} (ht : TyOk P t ti) (x : Value) (p : Addr) (w : World) (h : x.cells.size = ti.size) : (storeVar t p x).run P w = (storeCells p x.cells.toList).run P w := by
 simp [storeVar, run_sizeOf ht, h]
theorem dead_form : ∀ (l x y : List At), formEq l (x ++ ([At.dead] ++ y)) = true → False
 | [], [], y, h => by simp [formEq] at h
 | [], _ :: _, y, h => by simp [formEq] at h
 | a :: l, [], y, h => by
  simp only [List.nil_append, List.cons_append] at h
  cases a <;> simp [formEq] at h
 | a :: l, b :: x, y, h => by
  simp only [List.cons_append, formEq] at h
  split at h
  ·
   simp only [Bool.and_eq_true] at h; exact dead_form l x y h.2
  ·
   cases h
  ·
   cases h
  ·
   cases h
  ·
   cases h
  ·
   exact dead_form l x y h
theorem allCell1_iff : ∀ {l : List At}, allCell1 l = true ↔ ∀ a ∈ l, a.cell1 = true
 | [] => by simp [allCell1]
 | a :: l => by simp [allCell1, allCell1_iff (l := l)]
theorem wp_store (hΘ : TypesOk P Θ) (hI : ∀ n it, I n = some it → s.I n = some it) {t : Nat} {x y : Operand} (hdst : ∀ n, o.dst = some n → s.Dst n) (ho : o.op = .store t x y) (h : (stepCore Θ Γ (.store t x y) o.dst (evO s.T) I).Out P Γ d) : WpStep P s o d := by
 simp only [stepCore] at h
 split at h
 ·
  rename_i ti n b f z v ht hx hy
  split at h
  ·
   rename_i it hit
   split at h
   ·
    rename_i hz
    simp only [Bool.and_eq_true] at hz
    have hz1 := ble_iff.1 hz.1
    have hz2 := beqT hz.2.1
    have hpos := ble_iff.1 hz.2.2
    split at h
    ·
     rename_i it' hst
     have hd : d = { tmp := tmpOf o.dst (.s (.one .dead)), put := [(n, it')] } := by
      simp only [D.Out] at h; subst h
      unfold tmpOf; rfl
     subst hd
     intro w0 Mu ρ a w Q hs
     have hi := hI _ _ hit
     obtain ⟨p, h1, h2, h3⟩ := ev_ptr hs hx
     have hr := ev_one hs hy
     have hok := hΘ t ti ht
     have nums : ∀ (k : IntKind) (xs : List Int) (e : Nat) (vs : List Int), it.content b = some (k, xs) → f = .at e → (a.eval y).cells.toList = vs.map (Value.int k) → vs.length = ti.size →
       it.setContent b (xs.take e ++ (vs ++ xs.drop (e + vs.length))) = some it' → 0 < ti.size → o.wp P a w (fun a' w' => ∃ ρ', Sim w0 Mu ρ' (s.apply { tmp := tmpOf o.dst (.s (.one .dead)), put := [(n, it')] }) a' w') Q := by
      intro k xs e vs hc hf hcells hlen hset hpos
      have hL := (hs.hold n it hi).content hc
      have hle : e + z ≤ xs.length := by
       have := h3 _ (S_of hi) _ hL.1
       rw [hf] at this; exact this
      obtain ⟨g1, g2, g3, bl, T, c1, c2, g4, g5, g6, g7⟩ := (hs.hold n it hi).setContent hc (by omega) (ys := xs.take e ++ (vs ++ xs.drop (e + vs.length))) (by simp; omega) hset
      rw [g4] at h1; injection h1 with h1; subst h1
      refine step_put hs (x := undef) (r := .skip) hdst hi g1 g4 g2 g3 ?_ (.inr ⟨rfl, rfl⟩) trivial g7
      have hw := run_write (P := P) (e := e) (vs := vs) g5 (by omega)
      rw [g6] at hw
      have hsz : (a.eval y).cells.size = ti.size := by
       have := congrArg List.length hcells
       simpa [hlen] using this
      simp only [execOp, ho, Instr.storeAt, h2, Instr.sureAddr, Sem.run_bind, Sem.run_pure, Result.andThen_ok, run_storeVar hok _ _ _ hsz, hcells, hf, Off.val, hw]
     unfold storeItem at hst
     split at hst
     ·
      split at hst
      ·
       rename_i l
       split at hst
       ·
        rename_i m hm
        split at hst
        ·
         rename_i hfe
         injection hst with hst; subst hst
         obtain ⟨bl, T, cs, g1, g2, g3⟩ := hs.hold n _ hi
         rw [g1] at h1; injection h1 with h1; subst h1
         have hlive : v.live = true := by
          cases v with
          | one at_ => cases at_ <;> first | rfl | (
            exfalso
            unfold replAtoms at hm
            split at hm
            ·
             rename_i p1 q1 e1
             split at hm
             ·
              rename_i p2 q2 e2
              injection hm with hm
              have e3 := split_eq e1
              have : formEq l m = true := hfe
              rw [← hm] at this
              exact dead_form l p1 q2 this
             ·
              cases hm
            ·
             cases hm)
          | agg l' => rfl
         have hc := RelSV.cells hr hlive
         have hlen := hc.length
         obtain ⟨g4, g5⟩ := RelL.repl hm g3 hc
         refine step_put hs (x := undef) (r := .skip) hdst hi rfl g1 (by simp [Item.shape, formEq_forms hfe]) rfl ?_ (.inr ⟨rfl, rfl⟩) trivial ⟨bl, T, _, g1, setRow_heap w bl _ _ T _ g2, g5⟩
         have hsz : (a.eval y).cells.size = ti.size := by rw [← hz2, ← hlen]; simp
         have := run_storeCells_at (P := P) bl b T (a.eval y).cells.toList 0 _ w g2 (by simp [hsz]; exact g4) hc.oneCells
         simp only [Nat.add_zero, hlen, hz2, List.append_assoc] at this
         have ea : adr (bl, 0) (b + Off.z.val) = ⟨bl, b, none⟩ := by simp [adr, Off.val]
         simp only [execOp, ho, Instr.storeAt, h2, Instr.sureAddr, Sem.run_bind, Sem.run_pure, Result.andThen_ok, run_storeVar hok _ _ _ hsz, ea, this]
        ·
         cases hst
       ·
        cases hst
      ·
       rename_i l
       split at hst
       ·
        rename_i m hm
        split at hst
        ·
         rename_i hfe
         injection hst with hst; subst hst
         simp only [Bool.and_eq_true] at hfe
         have f1 := beqT hfe.1; have f2 := beqT hfe.2.1; have f3 := allCell1_iff.1 hfe.2.2
         obtain ⟨g0, ⟨g1, _⟩ | ⟨bl, T, cs, sp, g1, g2, g3, g4⟩⟩ := hs.hold n _ hi
         ·
          rw [g1] at h1; cases h1
         rw [g1] at h1; injection h1 with h1; subst h1
         have hlive : v.live = true := by
          cases v with
          | one at_ => cases at_ <;> first | rfl | (
            exfalso
            unfold replAtoms at hm
            split at hm
            ·
             split at hm
             ·
              injection hm with hm
              have := f3 .dead (by rw [← hm]; simp [SV.atoms])
              cases this
             ·
              cases hm
            ·
             cases hm)
          | agg l' => rfl
         have hc := RelSV.cells hr hlive
         have hlen := hc.length
         obtain ⟨g5, g6⟩ := RelL.repl hm g3 hc
         refine step_put hs (x := undef) (r := .skip) hdst hi rfl g1 (by simp [Item.shape, f2]) rfl ?_ (.inr ⟨rfl, rfl⟩) trivial ⟨f3, .inr ⟨bl, T, _, sp, g1, setRow_heap w bl _ _ T _ g2, g6, by rw [f2]; exact g4⟩⟩
         have hsz : (a.eval y).cells.size = ti.size := by rw [← hz2, ← hlen]; simp
         have := run_storeCells_at (P := P) bl b T (a.eval y).cells.toList 0 _ w g2 (by simp [hsz]; omega) hc.oneCells
         simp only [Nat.add_zero, hlen, hz2] at this
         have ea : adr (bl, 0) (b + Off.z.val) = ⟨bl, b, none⟩ := by simp [adr, Off.val]
         have ec : List.take b (cs ++ sp) ++ (a.eval y).cells.toList ++ List.drop (b + ti.size) (cs ++ sp) = List.take b cs ++ ((a.eval y).cells.toList ++ List.drop (b + ti.size) cs) ++ sp := by
          rw [List.take_append_of_le_length (by omega), List.drop_append_of_le_length (by omega)]
          simp
         rw [ec] at this
         simp only [execOp, ho, Instr.storeAt, h2, Instr.sureAddr, Sem.run_bind, Sem.run_pure, Result.andThen_ok, run_storeVar hok _ _ _ hsz, ea, this]
        ·
         cases hst
       ·
        cases hst
      ·
       cases hst
     ·
      rename_i e
      split at hst
      ·
       rename_i k xs hc
       split at hst
       ·
        rename_i k' u
        split at hst
        ·
         rename_i hb
         simp only [Bool.and_eq_true] at hb
         have e1 := kindEq_iff.1 hb.1
         have e2 := beqT hb.2
         subst e1
         have hu : a.eval y = .int k u := by simpa [RelV, RelSV, RelAt] using hr
         have hL := (hs.hold n it hi).content hc
         have hle : e + z ≤ xs.length := h3 _ (S_of hi) _ hL.1
         refine nums k xs e [u] hc rfl (by rw [hu]; rfl) (by simp [e2]) ?_ (by omega)
         rw [← hst]; congr 1
         rw [set_splice xs e u (by omega)]; rfl
        ·
         cases hst
       ·
        rename_i k' m ys
        split at hst
        ·
         rename_i hb
         simp only [Bool.and_eq_true] at hb
         have e1 := kindEq_iff.1 hb.1
         have e2 := beqT hb.2
         subst e1
         obtain ⟨hu, hlen⟩ := hr
         refine nums k xs e ys hc rfl (by rw [hu]; rfl) (by rw [hlen, e2]) ?_ hpos
         rw [← hst]; rfl
        ·
         cases hst
       ·
        cases hst
      ·
       cases hst
     ·
      rename_i i es off
      split at hst
      ·
       rename_i l es' xs
       split at hst
       ·
        split at hst
        ·
         rename_i hb
         simp only [Bool.and_eq_true] at hb
         have b1 := beqT hb.1; have b2 := beqT hb.2.1; have b3 := Nat.le_of_ble_eq_true hb.2.2
         subst b1
         split at hst
         ·
          rename_i ys hfa
          injection hst with hst; subst hst
          have hlive : v.live = true := by
           cases v with
           | one at_ => cases at_ <;> first | rfl | simp [SV.atoms, flatAtoms] at hfa
           | agg l' => rfl
          have hc := RelSV.cells hr hlive
          obtain ⟨q1, q2⟩ := flatAtoms_cells hfa hc
          obtain ⟨k1, ⟨m, k2⟩, k3⟩ := hs.hold n _ hi
          have hcl : (a.eval y).cells.toList.length = ys.length := by rw [hc.length, q1]
          have hle : i * es + off + z ≤ xs.length := h3 _ (S_of hi) xs.length rfl
          rcases k3 with ⟨e0, _⟩ | ⟨bl, T, sp, g1, g2, g3⟩
          ·
           rw [e0] at h1; cases h1
          ·
           rw [g1] at h1; injection h1 with h1; subst h1
           have hspl : (splice xs (.at (i * es + off)) ys).length = xs.length := splice_length _ _ _ (by simp only [Off.val]; omega)
           have hsz : (a.eval y).cells.size = ti.size := by rw [← hz2, ← q1, ← hcl]; simp
           have hw := run_storeCells_at (P := P) bl (i * es + off) T (a.eval y).cells.toList 0 _ w g2 (by simp [hsz, cellsK_length]; omega) hc.oneCells
           simp only [Nat.add_zero] at hw
           rw [mix_write b2 (by omega) (by omega) hcl q2] at hw
           refine step_put hs (x := undef) (r := .skip) (b := bl) (cs := (cellsK (.mix l) (splice xs (.at (i * es + off)) ys) ++ sp).toArray) hdst hi rfl g1 (by simp [Item.shape, hspl]) rfl ?_ (.inr ⟨rfl, rfl⟩) trivial
            ⟨k1, ⟨m, by rw [hspl]; exact k2⟩, .inr ⟨bl, T, sp, g1, setRow_heap w bl _ _ T _ g2, by rw [hspl]; exact g3⟩⟩
           have ea : adr (bl, 0) (0 + Off.val (.el i es off)) = ⟨bl, i * es + off, none⟩ := by simp [adr, Off.val]
           simp only [execOp, ho, Instr.storeAt, h2, Instr.sureAddr, Sem.run_bind, Sem.run_pure, Result.andThen_ok, run_storeVar hok _ _ _ hsz, ea, hw]
         ·
          cases hst
        ·
         cases hst
       ·
        cases hst
      ·
       cases hst
    ·
     exact h.elim
   ·
    exact h.elim
  ·
   exact h.elim
 ·
  exact h.elim
end
end
end Go.Eng
namespace Go.Eng
noncomputable section
open Go Go.MapKept
set_option maxRecDepth 100000
set_option linter.unusedVariables false
section
variable {P : Program} {Γ : Ctx} {Θ : Types} {s : AS} {o : Oper} {d : Delta} {I : Nat → Option Item}
theorem ents_get {kk : MK} {vk : IntKind} : ∀ {es : List MapEntry} {l : List (List Int)}, EntsOk kk vk es l → ∀ (j : Nat) (e : MapEntry), es[j]? = some e → ∃ r, l[j]? = some r ∧ EntOk kk vk e r
 | [], [], _, j, e, h => by simp at h
 | [], _ :: _, h, _, _, _ => h.elim
 | _ :: _, [], h, _, _, _ => h.elim
 | a :: es, r :: l, ⟨h1, h2⟩, 0, e, h => by
  rw [List.getElem?_cons_zero] at h; injection h with h; subst h; exact ⟨r, rfl, h1⟩
 | a :: es, r :: l, ⟨h1, h2⟩, j + 1, e, h => by
  obtain ⟨q, h3, h4⟩ := ents_get h2 j e (by simpa using h)
  exact ⟨q, by simpa using h3, h4⟩
def SameAt (P : Program) (kt : Nat) (kk : MK) : Prop := ∀ (a b : List Int) (w : World), a.length = kk.len → b.length = kk.len → (Op.equal kt (kk.val a) (kk.val b)).run P w = .ok (decide (a = b)) w
def mfind : List (List Int) → List Int → Nat → Option (Nat × Int)
 | [], _, _ => none
 | e :: l, x, i => match decide (e.tail = x) with | true => some (i, e.headD 0) | false => mfind l x (i + 1)
theorem run_findAsking {kt : Nat} {kk : MK} {vk : IntKind} (hs : SameAt P kt kk) {ks : List Int} (hk : ks.length = kk.len) (w : World) : ∀ (es : List MapEntry) (l : List (List Int)) (i : Nat), EntsOk kk vk es l →
  (Instr.findAsking kt (kk.val ks) es i).run P w = .ok ((mfind l ks i).map fun p => (p.1, .int vk p.2)) w
 | [], [], i, _ => rfl
 | [], _ :: _, _, h => h.elim
 | _ :: _, [], _, h => h.elim
 | e :: es, r :: l, i, ⟨⟨h1, h2, h3⟩, h4⟩ => by
  unfold Instr.findAsking mfind
  rw [h1]
  simp only [Sem.run_bind, hs ks r.tail w hk h2, Result.andThen_ok]
  have e1 : decide (ks = r.tail) = decide (r.tail = ks) := by
   rw [Bool.eq_iff_iff]
   simp only [decide_eq_true_eq]
   exact ⟨Eq.symm, Eq.symm⟩
  rw [e1]
  cases hb : decide (r.tail = ks)
  ·
   simp only [Bool.false_eq_true, if_false]
   exact run_findAsking hs hk w es l (i + 1) h4
  ·
   simp [h3]
theorem findNow_ints {kt : Nat} {k : IntKind} {vk : IntKind} {x : Int} : ∀ (es : List MapEntry) (l : List (List Int)) (i : Nat), EntsOk (.int k) vk es l →
  Instr.findNow (.int k) (.int k x) es i = some ((mfind l [x] i).map fun p => (p.1, .int vk p.2))
 | [], [], i, _ => rfl
 | [], _ :: _, _, h => h.elim
 | _ :: _, [], _, h => h.elim
 | e :: es, r :: l, i, ⟨⟨h1, h2, h3⟩, h4⟩ => by
  unfold Instr.findNow mfind
  obtain ⟨y, hy⟩ : ∃ y, r.tail = [y] := by
   have : r.tail.length = 1 := h2
   match hq : r.tail, this with
   | [y], _ => exact ⟨y, rfl⟩
  rw [h1, hy]
  have e0 : MK.val (.int k) [y] = .int k y := rfl
  rw [e0]
  simp only [Instr.sameNow, if_true]
  have e1 : decide ([y] = [x]) = (x == y) := by
   rw [Bool.eq_iff_iff]
   simp only [decide_eq_true_eq, List.cons.injEq, and_true, beq_iff_eq]
   exact ⟨Eq.symm, Eq.symm⟩
  rw [e1]
  cases hb : (x == y)
  ·
   simp only
   exact findNow_ints (kt := kt) es l (i + 1) h4
  ·
   simp [h3]
structure KeyTy (P : Program) (kt : Nat) (kk : MK) : Prop where
 check : ∀ (b : Bool) (ks : List Int) (w : World), ks.length = kk.len → (Instr.checkKey b 10000 kt (kk.val ks)).run P w = .ok () w
 find : ∀ (ks : List Int) (vk : IntKind) (es : List MapEntry) (l : List (List Int)) (w : World), ks.length = kk.len → EntsOk kk vk es l →
  (Instr.findKey kt (kk.val ks) es).run P w = .ok ((mfind l ks 0).map fun p => (p.1, .int vk p.2)) w
 stays : ∀ (ks : List Int) (w : World), ks.length = kk.len → (Instr.keyThatStays (kk.val ks) (kk.val ks)).run P w = .ok (kk.val ks) w
theorem sameBits_arr (k : IntKind) (n : Nat) : ∀ (xs : List Int), ((xs.map (Value.int k)).zip (xs.map (Value.int k))).all (fun (x, y) => Instr.sameBits (n + 1) x y) = true
 | [] => rfl
 | x :: xs => by
  simp only [List.map_cons, List.zip_cons_cons, List.all_cons, sameBits_arr k n xs, Bool.and_true]
  simp [Instr.sameBits]
theorem keyTy_int {kt : Nat} {k : IntKind} (ht : P.underlying kt = some (.int k)) : KeyTy P kt (.int k) := by
 have one : ∀ ks : List Int, ks.length = 1 → ∃ x, ks = [x] := fun ks h => match ks, h with | [x], _ => ⟨x, rfl⟩
 refine ⟨fun b ks w h => ?_, fun ks vk es l w h he => ?_, fun ks w h => ?_⟩
 ·
  obtain ⟨x, rfl⟩ := one ks h
  exact run_checkKey ht (k := .int k x) (by simp [IsKey]) b 9999
 ·
  obtain ⟨x, rfl⟩ := one ks h
  exact run_findKey (k := .int k x) ht (findNow_ints (kt := kt) es l 0 he)
 ·
  obtain ⟨x, rfl⟩ := one ks h
  exact run_keyThatStays (d := .int k) (k := .int k x) (by simp [IsKey])
theorem keyTy_arr {kt e : Nat} {k : IntKind} {m : Nat} {i : TypeInfo} (ht : P.underlying kt = some (.array m e)) (he : P.underlying e = some (.int k)) (hi : P.info? e = some i) (hs : i.size = 1) : KeyTy P kt (.arr k m) := by
 have hsz : ∀ w, (sizeOf e).run P w = .ok 1 w := fun w => by simp [sizeOf, run_typeInfo hi, hs]
 refine ⟨fun b ks w h => ?_, fun ks vk es l w h he2 => ?_, fun ks w h => ?_⟩
 ·
  have h : ks.length = m := h
  show (Instr.checkKey b (9999 + 1) kt (.agg (ks.map (Value.int k)).toArray)).run P w = .ok () w
  rw [Instr.checkKey]
  simp only [Sem.run_bind, run_underlying ht, Result.andThen_ok]
  simp only [Std.Legacy.Range.forIn_eq_forIn_range', Std.Legacy.Range.size, Nat.sub_zero, Nat.add_one_sub_one, Nat.div_one]
  have each : ∀ j ∈ List.range' 0 m, j < ks.length := fun j hj => by simp at hj; omega
  generalize List.range' 0 m = is at each
  induction is with
  | nil => simp
  | cons j is ih =>
   have hj := each j (.head _)
   have hag : (isAgg e).run P w = .ok false w := by simp [isAgg, run_underlying he]
   have hp : (part e (ks.map (Value.int k)).toArray (j * 1)).run P w = .ok (.int k ks[j]) w := by simp [part, hag, hj]
   have hc : (Instr.checkKey b 9999 e (.int k ks[j])).run P w = .ok () w := run_checkKey he (by simp [IsKey]) b 9998
   simp only [List.forIn_cons, Sem.run_bind, hsz, Result.andThen_ok, hp, hc, Sem.run_pure]
   exact ih (fun y hy => each y (.tail _ hy))
 ·
  have hsa : SameAt P kt (.arr k m) := fun a b w ha hb => run_equal_ints ht he hi hs a b ha hb w
  have hf : Instr.findNow (.array m e) (MK.val (.arr k m) ks) es 0 = some none → es = [] := by
   cases es with
   | nil => intro _; rfl
   | cons x es => intro h; simp [Instr.findNow, Instr.sameNow] at h
  cases es with
  | nil =>
   cases l with
   | cons => exact he2.elim
   | nil => simp [Instr.findKey, run_underlying ht, Instr.findNow, mfind]
  | cons x es =>
   have hn : Instr.findNow (.array m e) (MK.val (.arr k m) ks) (x :: es) 0 = none := by simp [Instr.findNow, Instr.sameNow]
   simp only [Instr.findKey, Sem.run_bind, run_underlying ht, Result.andThen_ok, hn]
   exact run_findAsking hsa h w _ _ 0 he2
 ·
  have hb : Instr.sameBits 10000 (.agg (ks.map (Value.int k)).toArray) (.agg (ks.map (Value.int k)).toArray) = true := by
   simp only [Instr.sameBits, beq_self_eq_true, Bool.true_and]
   exact sameBits_arr k 9998 ks
  show (Instr.keyThatStays (.agg (ks.map (Value.int k)).toArray) (.agg (ks.map (Value.int k)).toArray)).run P w = _
  simp [Instr.keyThatStays, hb]
  rfl
theorem mkOf_ok (hΘ : TypesOk P Θ) {kt : Nat} {kk : MK} (h : mkOf Θ kt = some kk) : KeyTy P kt kk := by
 unfold mkOf at h
 split at h
 ·
  rename_i k hk
  injection h with h; subst h
  obtain ⟨dd, h1, h2⟩ := tyIs_ok hΘ hk
  cases dd <;> simp [TDesc] at h2
  subst h2
  exact keyTy_int h1
 ·
  split at h
  ·
   rename_i k m ha
   injection h with h; subst h
   obtain ⟨e, i, h1, h2, h3, h4⟩ := arrInts_ok hΘ ha
   exact keyTy_arr h1 h2 h3 h4
  ·
   cases h
theorem mapTy_ok (hΘ : TypesOk P Θ) {t : Nat} {kk : MK} {vk : IntKind} (h : mapTy Θ t = some (kk, vk)) : ∃ kt et, P.underlying t = some (.map kt et) ∧ KeyTy P kt kk ∧ ∀ w, (zeroValue et).run P w = .ok (.int vk 0) w := by
 unfold mapTy at h
 split at h
 ·
  rename_i kt et hm
  split at h
  ·
   rename_i kk' ti hkk hti
   split at h
   ·
    rename_i vk' k z hd hz
    split at h
    ·
     rename_i hb
     simp only [Bool.and_eq_true, decide_eq_true_eq] at hb
     injection h with h; injection h with h3 h4; subst h3; subst h4
     obtain ⟨dd, h1, h2⟩ := tyIs_ok hΘ hm
     cases dd <;> simp [TDesc] at h2
     obtain ⟨rfl, rfl⟩ := h2
     obtain ⟨ii, g1, _, _, _, zv, g2, g3⟩ := (hΘ _ ti hti).info
     refine ⟨_, _, h1, mkOf_ok hΘ hkk, fun w => ?_⟩
     obtain ⟨i2, q1, q2⟩ := (hΘ _ ti hti).zint vk' hd
     rw [g1] at q1; injection q1 with q1; subst q1
     simp [zeroValue, run_typeInfo g1, q2]
    ·
     cases h
   ·
    cases h
  ·
   cases h
 ·
  cases h
theorem keyOf_ok {ρ : Rho} {S : Sh} {kk : MK} {v : AV} {ks : List Int} {x : Value} (h : keyOf kk v = some ks) (hr : RelV ρ S v x) : x = kk.val ks ∧ ks.length = kk.len := by
 unfold keyOf at h
 split at h
 ·
  split at h
  ·
   rename_i hk
   injection h with h; subst h
   have := kindEq_iff.1 hk; subst this
   simp only [RelV, RelSV, RelAt, List.cons.injEq, and_true] at hr
   exact ⟨hr, rfl⟩
  ·
   cases h
 ·
  split at h
  ·
   rename_i hk
   injection h with h; subst h
   simp only [Bool.and_eq_true] at hk
   have := kindEq_iff.1 hk.1; subst this
   obtain ⟨h1, h2⟩ := hr
   exact ⟨h1, by rw [h2]; exact (beqT hk.2).symm⟩
  ·
   cases h
 ·
  cases h
theorem ev_map {w0 : World} {Mu : MuT} {ρ : Rho} {a : Act} {w : World} (hs : Sim w0 Mu ρ s a w) {x : Operand} {n : Nat} {kk : MK} {vk : IntKind} {l : List (List Int)} (hx : evO s.T x = .s (.one (.mapv n))) (hi : s.I n = some (.mp kk vk l)) :
  ∃ b es c, ρ.loc n = some (b, 0) ∧ a.eval x = .map (some b) ∧ w.heap[b]? = some (.map es c) ∧ EntsOk kk vk es.toList l := by
 have hr := ev_one hs hx
 obtain ⟨p, h1, h2⟩ := (show RelAt ρ s.S (.mapv n) [a.eval x] from hr)
 obtain ⟨b, es, c, h3, h4, h5⟩ := hs.hold n _ hi
 rw [h1] at h3; injection h3 with h3; subst h3
 injection h2 with h2
 exact ⟨b, es, c, h1, h2, h4, h5⟩
theorem mfind_get : ∀ (l : List (List Int)) (x : List Int) (i : Nat), mget l x = ((mfind l x i).map (·.2)).getD 0 ∧ mhas l x = (mfind l x i).isSome
 | [], _, _ => ⟨rfl, rfl⟩
 | e :: l, x, i => by
  unfold mget mhas mfind
  split
  ·
   rename_i hb; rw [hb]; exact ⟨rfl, rfl⟩
  ·
   rename_i hb; rw [hb]; exact mfind_get l x (i + 1)
theorem mfind_put : ∀ (l : List (List Int)) (x : List Int) (v : Int) (i : Nat), match mfind l x i with
  | none => mput l x v = l ++ [v :: x]
  | some (j, _) => i ≤ j ∧ j - i < l.length ∧ (∃ r, l[j - i]? = some r ∧ r.tail = x) ∧ mput l x v = l.set (j - i) (v :: x)
 | [], _, _, _ => rfl
 | e :: l, x, v, i => by
  unfold mfind mput
  cases hb : decide (e.tail = x)
  ·
   have ih := mfind_put l x v (i + 1)
   simp only
   cases hf : mfind l x (i + 1) with
   | none => rw [hf] at ih; simp only [ih]; rfl
   | some p =>
    obtain ⟨j, y⟩ := p
    rw [hf] at ih
    obtain ⟨h1, h2, ⟨r, h3, h4⟩, h5⟩ := ih
    have e1 : j - i = (j - (i + 1)) + 1 := by omega
    refine ⟨by omega, by simp; omega, ⟨r, by rw [e1]; simpa using h3, h4⟩, ?_⟩
    rw [h5, e1]; rfl
  ·
   simp only [decide_eq_true_eq] at hb
   exact ⟨Nat.le_refl _, by simp, ⟨e, by simp, hb⟩, by simp⟩
theorem ents_push {kk : MK} {vk : IntKind} : ∀ {es : List MapEntry} {l : List (List Int)} {e : MapEntry} {r : List Int}, EntsOk kk vk es l → EntOk kk vk e r → EntsOk kk vk (es ++ [e]) (l ++ [r])
 | [], [], e, r, _, h => ⟨h, trivial⟩
 | [], _ :: _, _, _, h, _ => h.elim
 | _ :: _, [], _, _, h, _ => h.elim
 | a :: es, b :: l, e, r, ⟨h1, h2⟩, h => ⟨h1, ents_push h2 h⟩
theorem ents_set {kk : MK} {vk : IntKind} : ∀ {es : List MapEntry} {l : List (List Int)} {e : MapEntry} {r : List Int} (j : Nat), EntsOk kk vk es l → EntOk kk vk e r → EntsOk kk vk (es.set j e) (l.set j r)
 | [], [], e, r, _, _, h => trivial
 | [], _ :: _, _, _, _, h, _ => h.elim
 | _ :: _, [], _, _, _, h, _ => h.elim
 | a :: es, b :: l, e, r, 0, ⟨h1, h2⟩, h => ⟨h, h2⟩
 | a :: es, b :: l, e, r, j + 1, ⟨h1, h2⟩, h => ⟨h1, ents_set j h2 h⟩
theorem ents_length {kk : MK} {vk : IntKind} : ∀ {es : List MapEntry} {l : List (List Int)}, EntsOk kk vk es l → es.length = l.length
 | [], [], _ => rfl
 | [], _ :: _, h => h.elim
 | _ :: _, [], h => h.elim
 | a :: es, b :: l, ⟨_, h⟩ => by simp [ents_length h]
theorem modify_set {α : Type} (f : α → α) (x : α) : ∀ (l : List α) (j : Nat), (∀ y, l[j]? = some y → f y = x) → l.modify j f = l.set j x
 | [], j, _ => by simp
 | a :: l, 0, h => by simp [h a rfl]
 | a :: l, j + 1, h => by simp [modify_set f x l j (fun y hy => h y (by simpa using hy))]
theorem val_lookup (hΘ : TypesOk P Θ) (hI : ∀ n it, I n = some it → s.I n = some it) {t : Nat} {x i : Operand} {ok : Bool} (ho : o.op = .lookup t x i ok) (h : (lookupD Θ I o.dst t (evO s.T x) (evO s.T i) ok).Out P Γ d) : ValStep P s o d := by
 unfold lookupD at h
 split at h
 ·
  rename_i kk vk n ht hx
  split at h
  ·
   rename_i kk' vk' l ks hit hks
   split at h
   ·
    rename_i hb
    simp only [Bool.and_eq_true] at hb
    have e1 := mkEq_iff.1 hb.1; have e2 := kindEq_iff.1 hb.2
    subst e1; subst e2
    obtain ⟨kt, et, h1, h2, h3⟩ := mapTy_ok hΘ ht
    have key : ∀ {w0 Mu ρ a w}, Sim w0 Mu ρ s a w → (Instr.lookup t (a.eval x) (a.eval i) ok).run P w = .ok (if ok then .tuple #[.int vk (mget l ks), .bool (mhas l ks)] else .int vk (mget l ks)) w := by
     intro w0 Mu ρ a w hs
     obtain ⟨b, es, c, g1, g2, g3, g4⟩ := ev_map hs hx (hI _ _ hit)
     obtain ⟨k1, k2⟩ := keyOf_ok hks (ev_one hs rfl)
     obtain ⟨m1, m2⟩ := mfind_get l ks 0
     have hf := h2.find ks vk es.toList l w k2 g4
     rw [g2, k1]
     simp only [Instr.lookup, Sem.run_bind, run_underlying h1, Result.andThen_ok, MapKept.run_getObj_map g3, Sem.run_pure, h2.check _ ks w k2, hf]
     rw [m1, m2]
     cases hq : mfind l ks 0 with
     | none => cases ok <;> simp [h3]
     | some p => cases ok <;> simp
    cases ok with
    | false =>
     have hd := retV_out h
     exact ⟨_, hd, fun w0 Mu ρ a w hs => ⟨_, by simp only [execOp, ho, Sem.run_bind, key hs, Result.andThen_ok, Sem.run_pure]; rfl, rfl⟩⟩
    | true =>
     have hd := retV_out h
     exact ⟨_, hd, fun w0 Mu ρ a w hs => ⟨_, by simp only [execOp, ho, Sem.run_bind, key hs, Result.andThen_ok, Sem.run_pure]; rfl, ⟨_, rfl, _, _, rfl, rfl, _, _, rfl, rfl, rfl⟩⟩⟩
   ·
    exact h.elim
  ·
   exact h.elim
 ·
  exact h.elim
theorem wp_makeMap (hΘ : TypesOk P Θ) {t : Nat} {r : Option Operand} (hdst : ∀ n, o.dst = some n → s.Dst n) (ho : o.op = .makeMap t r) (h : (stepCore Θ Γ (.makeMap t r) o.dst (evO s.T) I).Out P Γ d) : WpStep P s o d := by
 simp only [stepCore] at h
 split at h
 ·
  rename_i n kk vk hd ht
  simp only [D.Out] at h; subst h
  intro w0 Mu ρ a w Q hs
  refine step_block hs ⟨rfl, rfl⟩ (w' := w.alloc (.map #[] 0)) (ob := .map #[] 0) (tot := 0) (x := .map (some w.heap.size)) hd (hdst n hd) ?_ rfl ?_ ?_
  ·
   simp [execOp, ho, Instr.makeMap]
  ·
   intro S' hag hS
   exact ⟨w.heap.size, #[], 0, Rho.set_loc _ _ _ _, heap_push_new (w := w) (ob := .map #[] 0) rfl, trivial⟩
  ·
   intro S' hag hS
   exact ⟨(w.heap.size, 0), Rho.set_loc _ _ _ _, rfl⟩
 ·
  exact h.elim
theorem wp_update (hΘ : TypesOk P Θ) (hI : ∀ n it, I n = some it → s.I n = some it) {t : Nat} {x i v : Operand} (hdst : ∀ n, o.dst = some n → s.Dst n) (ho : o.op = .mapUpdate t x i v)
  (h : (updateD Θ I o.dst t (evO s.T x) (evO s.T i) (evO s.T v)).Out P Γ d) : WpStep P s o d := by
 unfold updateD at h
 split at h
 ·
  rename_i kk vk n k' u ht hx hv
  split at h
  ·
   rename_i kk' vk' l ks hit hks
   split at h
   ·
    rename_i hb
    simp only [Bool.and_eq_true] at hb
    have e1 := mkEq_iff.1 hb.1; have e2 := kindEq_iff.1 hb.2.1; have e3 := kindEq_iff.1 hb.2.2
    subst e1; subst e2; subst e3
    have hd : d = { tmp := tmpOf o.dst (.s (.one .dead)), put := [(n, .mp kk vk (mput l ks u))] } := by
     simp only [D.Out] at h; subst h
     unfold tmpOf; rfl
    subst hd
    obtain ⟨kt, et, h1, h2, h3⟩ := mapTy_ok hΘ ht
    intro w0 Mu ρ a w Q hs
    have hi := hI _ _ hit
    obtain ⟨b, es, c, g1, g2, g3, g4⟩ := ev_map hs hx hi
    obtain ⟨k1, k2⟩ := keyOf_ok hks (ev_one hs rfl)
    have hval : a.eval v = .int vk u := by
     have := ev_one hs hv
     simpa [RelV, RelSV, RelAt] using this
    have hf := h2.find ks vk es.toList l w k2 g4
    have hp := mfind_put l ks u 0
    have hlt : b < w.heap.size := (Array.getElem?_eq_some_iff.1 g3).1
    have main : ∀ es' c', EntsOk kk vk es'.toList (mput l ks u) → (execOp a.eval o).run P w = .ok .skip { w with heap := w.heap.setIfInBounds b (.map es' c') } →
      o.wp P a w (fun a' w' => ∃ ρ', Sim w0 Mu ρ' (s.apply { tmp := tmpOf o.dst (.s (.one .dead)), put := [(n, .mp kk vk (mput l ks u))] }) a' w') Q := by
     intro es' c' hes hrun
     refine step_putW hs (x := undef) (r := .skip) hdst hi rfl g1 rfl rfl hrun (.inr ⟨rfl, rfl⟩) trivial ⟨b, es', c', g1, (MapKept.heap_set g3).1, hes⟩ (fun k hk => (MapKept.heap_set g3).2 k hk) (by simp) ⟨rfl, rfl⟩
    have hrun0 : (execOp a.eval o).run P w = ((Instr.mapUpdate t (a.eval x) (a.eval i) (a.eval v)).run P w).andThen fun _ w' => .ok .skip w' := by
     simp only [execOp, ho, Sem.run_bind]; rfl
    cases hq : mfind l ks 0 with
    | none =>
     rw [hq] at hf hp
     simp only at hp
     refine main (es.push { key := kk.val ks, val := .int vk u, born := c }) (c + 1) ?_ ?_
     ·
      rw [hp, Array.toList_push]
      exact ents_push g4 ⟨rfl, k2, rfl⟩
     ·
      rw [hrun0, g2, k1, hval]
      simp [Instr.mapUpdate, run_underlying h1, MapKept.run_getObj_map g3, h2.check _ ks w k2, hf, MapKept.run_setObj_map _ g3, Result.andThen]
    | some p =>
     obtain ⟨j, y⟩ := p
     rw [hq] at hf hp
     obtain ⟨p1, p2, ⟨r, p3, p4⟩, p5⟩ := hp
     simp only [Nat.sub_zero] at p2 p3 p5
     have hlen := ents_length g4
     have hj : ∃ e, es[j]? = some e := ⟨es[j]'(by simp at hlen; omega), by simp⟩
     obtain ⟨e, hj⟩ := hj
     obtain ⟨r', q1, q2, q3, q4⟩ := ents_get g4 j e (by simpa using hj)
     have hr : r' = r := by rw [p3] at q1; injection q1 with q1; exact q1.symm
     subst hr
     have hkey : e.key = kk.val ks := by rw [q2, p4]
     refine main (es.modify j fun e => { e with key := kk.val ks, val := .int vk u }) c ?_ ?_
     ·
      rw [p5, Array.toList_modify, modify_set _ ({ e with key := kk.val ks, val := .int vk u } : MapEntry) es.toList j (fun y hy => by
       have : y = e := by
        have h5 : es[j]? = some y := by simpa using hy
        rw [hj] at h5; injection h5 with h5; exact h5.symm
       rw [this])]
      exact ents_set j g4 ⟨rfl, k2, rfl⟩
     ·
      rw [hrun0, g2, k1, hval]
      simp [Instr.mapUpdate, run_underlying h1, MapKept.run_getObj_map g3, h2.check _ ks w k2, hf, hj, hkey, h2.stays ks w k2, MapKept.run_setObj_map _ g3, Result.andThen]
   ·
    exact h.elim
  ·
   exact h.elim
 ·
  exact h.elim
end
end
end Go.Eng
namespace Go.Eng
noncomputable section
open Go
set_option maxRecDepth 100000
set_option linter.unusedVariables false
theorem growBy_le (newLen : Nat) : ∀ (r c : Nat), c < newLen → Builtin.growBy newLen r c ≤ newLen + (newLen + 768) / 4
 | 0, c, h => by simp only [Builtin.growBy]; omega
 | r + 1, c, h => by
  simp only [Builtin.growBy]
  rw [if_neg (by omega)]
  by_cases h2 : c + (c + 768) / 4 < newLen
  ·
   exact growBy_le newLen r _ h2
  ·
   cases r with
   | zero => simp only [Builtin.growBy]; omega
   | succ r =>
    simp only [Builtin.growBy]
    rw [if_pos (by omega)]; omega
theorem nextslicecap_le {need cap : Nat} (h : cap < need) : Builtin.nextslicecap need cap ≤ 2 * need + 192 := by
 unfold Builtin.nextslicecap
 split
 ·
  omega
 ·
  split
  ·
   omega
  ·
   have := growBy_le need 4 cap h; omega
theorem nextslicecap_zero {need : Nat} (h : 0 < need) : Builtin.nextslicecap need 0 = need := by
 unfold Builtin.nextslicecap
 rw [if_pos (by omega)]
theorem rl_zero (es : Nat) : rl es 0 = 0 := by unfold rl; split <;> simp
structure SrcAt (k : RK) (es : Nat) (X : Value) (ys : List Int) (m : Nat) (l : Option (Nat × Nat)) (w : World) : Prop where
 val : ∃ A c, X = .slice A m c ∧ m ≤ c ∧ (0 < m → A = l.map (adr · 0))
 len : ys.length = m * es
 pos : PosK k es
 view : ViewAt k ys l w
theorem ViewAt.load {P : Program} {k : RK} {ys : List Int} {p : Nat × Nat} {w w' : World} (h : ViewAt k ys (some p) w) (hw : w'.heap = w.heap) : (loadCells (adr p 0) ys.length).run P w' = .ok (cellsK k ys).toArray w' := by
 have := run_loadCells_list (P := P) w' (adr p 0) (cellsK k ys) (fun j u hu => by
  rw [cellsK_get] at hu
  simp only [Option.map_eq_some_iff] at hu
  obtain ⟨x, hx, rfl⟩ := hu
  obtain ⟨q, e1, e2⟩ := h j x hx
  injection e1 with e1; subst e1
  rw [adr_add, Nat.zero_add]
  unfold World.cell? at e2 ⊢
  rw [hw]; exact e2)
 rw [cellsK_length] at this
 exact this
theorem RowAt.view {k : RK} {xs : List Int} {l : Option (Nat × Nat)} {tot : Nat} {w : World} (h : RowAt k xs l tot w) : ViewAt k xs l w := by
 intro i x hx
 rcases h with ⟨_, e, _⟩ | ⟨b, T, sp, e1, e2, _⟩
 ·
  rw [e] at hx; simp at hx
 ·
  refine ⟨_, e1, ?_⟩
  rw [adr, cell_of e2]
  have hi : i < xs.length := (List.getElem?_eq_some_iff.1 hx).1
  rw [List.getElem?_append_left (by rw [cellsK_length]; omega), Nat.zero_add, cellsK_get, hx]; rfl
theorem SrcAt.first {P : Program} {k : RK} {es : Nat} {X : Value} {ys : List Int} {m : Nat} {l : Option (Nat × Nat)} {w w' : World} (h : SrcAt k es X ys m l w) (hw : w'.heap = w.heap) : (Builtin.firstCells es m X).run P w' = .ok (cellsK k ys).toArray w' := by
 obtain ⟨A, c, rfl, hc, hA⟩ := h.val
 by_cases hm : m = 0
 ·
  subst hm
  have hy : ys = [] := List.eq_nil_of_length_eq_zero (by rw [h.len]; simp)
  subst hy
  cases A <;> simp [Builtin.firstCells, loadCells, loadCellsFrom, cellsK_nil]
 ·
  have hA := hA (by omega)
  have hpos : 0 < ys.length := by rw [h.len]; exact Nat.mul_pos (by omega) h.pos.1
  obtain ⟨p, hp, _⟩ := h.view 0 ys[0] (List.getElem?_eq_getElem hpos)
  subst hp
  rw [hA]
  simp only [Option.map_some, Builtin.firstCells]
  rw [← h.len]
  exact h.view.load hw
section
variable {P : Program} {Γ : Ctx} {Θ : Types} {s : AS} {o : Oper} {d : Delta} {I : Nat → Option Item}
theorem srcNil (k : RK) {es : Nat} (h : PosK k es) (w : World) : SrcAt k es (.slice none 0 0) [] 0 none w :=
 ⟨⟨none, 0, rfl, Nat.le_refl _, by simp⟩, by simp, h, fun i x hx => by simp at hx⟩
theorem sliceData_ok {w0 : World} {Mu : MuT} {ρ : Rho} {a : Act} {w : World} (hs : Sim w0 Mu ρ s a w) (hI : ∀ n it, I n = some it → s.I n = some it) {es : Nat} {x : At} {X : Value} {k : RK} {ys : List Int}
  (h : sliceData I es x = some (k, ys)) (r : RelSV ρ s.S (.one x) X) : ∃ m l, SrcAt k es X ys m l w ∧ sliceLen I es x = some m ∧ (∀ q, l = some q → ∃ n p it, n ∈ x.names ∧ s.I n = some it ∧ ρ.loc n = some p ∧ q.1 = p.1) := by
 cases x <;> simp only [sliceData] at h <;> try (cases h; done)
 ·
  rename_i n
  have fin : ∀ it e zs, I n = some it → (∀ i x, zs[i]? = some x → ∃ p, ρ.loc n = some p ∧ w.cell? (adr p i) = some (cellK k i x)) → sliceLen I es (.own n) = some (rowLen e zs) → e = es → PosK k e → (∃ mm, zs.length = mm * e) → zs = ys → (∃ A c, X = .slice A (rowLen e zs) c ∧ rowLen e zs ≤ c ∧ (0 < rowLen e zs → A = (ρ.loc n).map (adr · 0))) →
    ∃ m l, SrcAt k es X ys m l w ∧ sliceLen I es (.own n) = some m ∧ (∀ q, l = some q → ∃ n' p it, n' ∈ (At.own n).names ∧ s.I n' = some it ∧ ρ.loc n' = some p ∧ q.1 = p.1) := by
   intro it e zs hi hcell hsl he hp ⟨mm, hm⟩ hz ⟨A, c, hX, hc', hA⟩
   subst he; subst hz
   have hlen : zs.length = rowLen e zs * e := by rw [rowLen_eq, hm, rl_mul hp.1]
   refine ⟨rowLen e zs, ρ.loc n, ⟨⟨A, c, hX, hc', hA⟩, hlen, hp, hcell⟩, hsl, ?_⟩
   intro q hq
   exact ⟨n, q, it, by simp [At.names], hI _ _ hi, hq, rfl⟩
  have r' : RelAt ρ s.S (.own n) [X] := r
  simp only [RelAt] at r'
  split at h
  ·
   rename_i k' e zs hi
   split at h
   ·
    rename_i hb
    injection h with h; injection h with h1 h2
    have hi' := hI _ _ hi
    rw [S_of hi'] at r'
    simp only [Item.shape, List.cons.injEq, and_true] at r'
    obtain ⟨c, e1, e2, e3, _⟩ := r'
    subst h1
    obtain ⟨p0, pm, hrow⟩ := hs.hold _ _ hi'
    refine fin _ e zs hi (fun i x hx => ?_) (by simp [sliceLen, hi, hb]) (beqT hb) p0 pm h2 ⟨_, c, e1, e2, fun _ => rfl⟩
    rcases hrow with ⟨_, e, _⟩ | ⟨b, T, sp, g1, g2, _⟩
    ·
     rw [e] at hx; simp at hx
    ·
     refine ⟨_, g1, ?_⟩
     rw [adr, cell_of g2]
     have hlt : i < zs.length := (List.getElem?_eq_some_iff.1 hx).1
     rw [List.getElem?_append_left (by rw [cellsK_length]; omega), Nat.zero_add, cellsK_get, hx]; rfl
   ·
    cases h
  ·
   rename_i k' e zs hi
   split at h
   ·
    rename_i hb
    injection h with h; injection h with h1 h2
    have hi' := hI _ _ hi
    rw [S_of hi'] at r'
    simp only [Item.shape, List.cons.injEq, and_true] at r'
    obtain ⟨A, c, e1, e2, e3⟩ := r'
    subst h1
    obtain ⟨p0, pm, hview⟩ := hs.hold _ _ hi'
    exact fin _ e zs hi hview (by simp [sliceLen, hi, hb]) (beqT hb) p0 pm h2 ⟨_, c, e1, e2, fun hp => e3 (by
     rcases Nat.eq_zero_or_pos zs.length with h0 | h0
     ·
      rw [rowLen_eq, h0] at hp; simp [rl_zero] at hp
     ·
      exact h0)⟩
   ·
    cases h
  ·
   cases h
 ·
  rename_i n b f e len c
  split at h
  ·
   rename_i it hi
   obtain ⟨A, c', e1, e2, e3, e4, e5, e6⟩ := r
   simp only [List.cons.injEq, and_true] at e1
   have hi' := hI _ _ hi
   have fin : ∀ (zs : List Int) (L : Nat), it.shape.len b = some zs.length → PosK k e → sub zs f (len * e) = ys → (∀ i x, (sub zs f (len * e))[i]? = some x → ∃ p, ρ.loc n = some p ∧ w.cell? (adr p (b + f.val + i)) = some (cellK k i x)) → e = es → ∃ m l, SrcAt k es X ys m l w ∧ sliceLen I es (.slc n b f e len c) = some m ∧ (∀ q, l = some q → ∃ n' p it, n' ∈ (At.slc n b f e len c).names ∧ s.I n' = some it ∧ ρ.loc n' = some p ∧ q.1 = p.1) := by
    intro zs L hL hpos hz hcell he
    subst he; subst hz
    have hle := e6 _ (S_of hi') _ hL
    have hsub : sub zs f (len * e) = (zs.drop f.val).take (len * e) := by cases f <;> simp [sub, Off.val]
    have hlen : (sub zs f (len * e)).length = len * e := by rw [hsub]; simp; omega
    by_cases hz : len = 0
    ·
     subst hz
     have hnil : sub zs f (0 * e) = [] := List.eq_nil_of_length_eq_zero (by rw [hlen]; simp)
     exact ⟨0, none, ⟨⟨A, c', e1, e2, by simp⟩, hlen, hpos, by rw [hnil]; intro i x hx; simp at hx⟩, by simp [sliceLen], by simp⟩
    ·
     obtain ⟨p, hp, hA⟩ := e4 (by omega)
     refine ⟨len, some (p.1, p.2 + (b + f.val)), ⟨⟨A, c', e1, e2, fun _ => by rw [hA]; simp [adr]⟩, hlen, hpos, ?_⟩, by simp [sliceLen], ?_⟩
     ·
      intro i x hx
      obtain ⟨q, h1, h2⟩ := hcell i x hx
      rw [hp] at h1; injection h1 with h1; subst h1
      refine ⟨_, rfl, ?_⟩
      rw [← h2]; congr 1; simp [adr]; omega
     ·
      intro q hq
      injection hq with hq; subst hq
      exact ⟨n, p, it, by simp [At.names], hi', hp, rfl⟩
   split at h
   ·
    rename_i k' zs hc
    split at h
    ·
     rename_i hb
     injection h with h; injection h with h1 h2; subst h1
     have he := beqT hb
     obtain ⟨hL, hcell⟩ := (hs.hold n it hi').content hc
     rw [mulE_eq] at h2
     refine fin zs 0 hL ⟨e5, trivial⟩ (by rw [he]; exact h2) (fun i x hx => ?_) he
     have hsub : sub zs f (len * e) = (zs.drop f.val).take (len * e) := by cases f <;> simp [sub, Off.val]
     rw [hsub, List.getElem?_take] at hx
     split at hx
     ·
      rw [List.getElem?_drop] at hx
      obtain ⟨q, h1, h2⟩ := hcell _ _ hx
      exact ⟨q, h1, by rw [Nat.add_assoc]; exact h2⟩
     ·
      cases hx
    ·
     cases h
   ·
    split at h
    ·
     rename_i l es' zs hm
     split at h
     ·
      rename_i i0 es2 off
      split at h
      ·
       split at h
       ·
        rename_i hb
        simp only [Bool.and_eq_true] at hb
        have he := beqT hb.1; have h3 := beqT hb.2.1; have h4 := beqT hb.2.2
        injection h with h; injection h with h1 h2; subst h1
        obtain ⟨_, m1, _, hL, hcell⟩ := (hs.hold n it hi').mixed hm
        refine fin zs 0 hL (by rw [he, ← h3]; exact m1) (by rw [he]; exact h2) (fun i x hx => ?_) he
        simp only [sub] at hx
        rw [List.getElem?_take] at hx
        split at hx
        ·
         rw [List.getElem?_drop] at hx
         obtain ⟨q, h5, h6⟩ := hcell _ _ hx
         refine ⟨q, h5, ?_⟩
         have hsh := cellK_shift (k := .mix l) (es := es') m1.2 i0 i x
         rw [h3, ← h4] at hsh
         rw [← hsh, show i0 * es2 + i = i0 * es2 + 0 + i by omega]
         simp only [Off.val]
         rw [Nat.add_assoc]; exact h6
        ·
         cases hx
       ·
        cases h
      ·
       cases h
     ·
      cases h
    ·
     cases h
  ·
   cases h
structure Src (P : Program) (k : RK) (e : TypeId) (ei : TI) (ts : Array TypeId) (X : Value) (ys : List Int) (m : Nat) (w : World) : Prop where
 len : ys.length = m * ei.size
 slc : (∃ t1 e1, ts[1]? = some t1 ∧ P.underlying t1 = some (.slice e1) ∧ (∃ A c, X = .slice A m c) ∧ ∀ w' : World, w'.heap = w.heap → (Builtin.firstCells ei.size m X).run P w' = .ok (cellsK k ys).toArray w') ∨
  (∃ t1, ts[1]? = some t1 ∧ P.underlying t1 = some (.int .i64) ∧ X = .int .i64 m ∧ (m : Int) * ei.bytes ≤ 281474976710656 ∧ (m : Int) ≤ 281474976710656 ∧ ys = zerosOf (m * ei.size))
theorem zeroCells_eq {k : RK} {sz : Nat} (h : PosK k sz) (n : Nat) : Builtin.zeroCells (cellsK k (zerosOf sz)).toArray n = (cellsK k (zerosOf (n * sz))).toArray := by
 have := zeros_map k n sz h
 unfold Builtin.zeroCells
 rw [← this]
 have hs : (cellsK k (zerosOf sz)).toArray.size = sz := by simp [cellsK_length, zerosOf]
 rw [hs]
theorem append_room {k : RK} {t e : TypeId} {ei : TI} {ts : Array TypeId} {ty : TypeId} {X : Value} {ys : List Int} {m : Nat} {w : World} (h0 : ts[0]? = some t) (ht : P.underlying t = some (.slice e)) (hok : TyOk P e ei) (hk : elemKind ei = some k)
  (src : Src P k e ei ts X ys m w) (base : Option Addr) (sLen sCap : Nat) (hroom : sLen + m ≤ sCap) (w' : World)
  (hst : match base with | none => w' = w | some a => (storeCells (a.add (sLen * ei.size)) (cellsK k ys)).run P w = .ok () w') :
  (Builtin.append_ ts ty #[.slice base sLen sCap, X]).run P w = .ok (.slice base (sLen + m) sCap) w' := by
 obtain ⟨i, z, h1, h2, h3, h4, h5, hpos⟩ := elemKind_zero hok hk
 rcases src.slc with ⟨t1, e1, g1, g2, ⟨A, c, rfl⟩, g4⟩ | ⟨t1, g1, g2, rfl, g4, g6, g5⟩
 ·
  have g4 := g4 w rfl
  cases base with
  | none =>
   subst hst
   simp [Builtin.append_, h0, g1, run_underlying ht, run_underlying g2, run_sizeOf hok, Builtin.lenOf, hroom, g4]
  | some a =>
   simp only at hst
   simp [Builtin.append_, h0, g1, run_underlying ht, run_underlying g2, run_sizeOf hok, Builtin.lenOf, hroom, g4, hst]
 ·
  have hwm : IntKind.i64.wrap (m : Int) = m := wrap_small _ (by omega) g6
  have hb : ¬ ((m : Int) * (i.bytes : Int) > 2 ^ 48) := by
   rw [h4]
   have e : (2 ^ 48 : Int) = 281474976710656 := by decide
   rw [e]; omega
  have hzc : Builtin.zeroCells z.cells m = (cellsK k (zerosOf (m * ei.size))).toArray := by rw [h5]; exact zeroCells_eq hpos m
  cases base with
  | none =>
   subst hst
   by_cases hz : m * ei.size = 0
   ·
    simp [Builtin.append_, h0, g1, run_underlying ht, run_underlying g2, run_sizeOf hok, hroom, asInt, asIntOf, hwm, show ¬ ((m : Int) < 0) by omega, run_typeInfo h1, h4, show ¬ (281474976710656 < (m : Int) * ei.bytes) by omega, hz]
   ·
    simp [Builtin.append_, h0, g1, run_underlying ht, run_underlying g2, run_sizeOf hok, hroom, asInt, asIntOf, hwm, show ¬ ((m : Int) < 0) by omega, run_typeInfo h1, h4, show ¬ (281474976710656 < (m : Int) * ei.bytes) by omega, hz, zeroValue, h2, hzc]
  | some a =>
   simp only at hst
   by_cases hz : m * ei.size = 0
   ·
    have : ys = [] := List.eq_nil_of_length_eq_zero (by rw [src.len]; exact hz)
    subst this
    simp only [cellsK_nil] at hst
    simp [Builtin.append_, h0, g1, run_underlying ht, run_underlying g2, run_sizeOf hok, hroom, asInt, asIntOf, hwm, show ¬ ((m : Int) < 0) by omega, run_typeInfo h1, h4, show ¬ (281474976710656 < (m : Int) * ei.bytes) by omega, hz, hst]
   ·
    rw [g5] at hst
    simp [Builtin.append_, h0, g1, run_underlying ht, run_underlying g2, run_sizeOf hok, hroom, asInt, asIntOf, hwm, show ¬ ((m : Int) < 0) by omega, run_typeInfo h1, h4, show ¬ (281474976710656 < (m : Int) * ei.bytes) by omega, hz, zeroValue, h2, hzc, hst]
theorem append_grow {k : RK} {t e : TypeId} {ei : TI} {ts : Array TypeId} {ty : TypeId} {X : Value} {xs ys : List Int} {m : Nat} {w : World} (h0 : ts[0]? = some t) (ht : P.underlying t = some (.slice e)) (hok : TyOk P e ei) (hk : elemKind ei = some k)
  (src : Src P k e ei ts X ys m w) (base : Option Addr) (sLen sCap : Nat) (hgrow : sCap < sLen + m) (hsize : Builtin.nextslicecap (sLen + m) sCap * ei.bytes ≤ 281474976710656) (hneed : sLen + m ≤ 4611686018427387904)
  (hx : xs.length = sLen * ei.size) (hold : ∀ w' : World, w'.heap = w.heap → (Builtin.firstCells ei.size sLen (.slice base sLen sCap)).run P w' = .ok (cellsK k xs).toArray w') :
  ∃ newCap w', (Builtin.append_ ts ty #[.slice base sLen sCap, X]).run P w = .ok (.slice (some ⟨w.heap.size, 0, none⟩) (sLen + m) newCap) w' ∧ sLen + m ≤ newCap ∧
   w'.heap = w.heap.push (.cells (cellsK k (xs ++ ys ++ zerosOf ((newCap - (sLen + m)) * ei.size))).toArray e) ∧ Still w w' := by
 obtain ⟨i, z, h1, h2, h3, h4, h5, hpos⟩ := elemKind_zero hok hk
 have hzc : ∀ n, Builtin.zeroCells z.cells n = (cellsK k (zerosOf (n * ei.size))).toArray := fun n => by rw [h5]; exact zeroCells_eq hpos n
 have hfo : (Question.appendCap (sLen + m) sCap e).forced = false := rfl
 let c := (Question.appendCap (sLen + m) sCap e).cut (w.tape w.drawn (.appendCap (sLen + m) sCap e))
 have hc : sLen + m ≤ c := Nat.le_add_right _ _
 have hr : ¬ sLen + m ≤ sCap := by omega
 have hmax : ¬ (9223372036854775807 < ((sLen : Int) + (m : Int))) := by omega
 have hsz : ¬ (281474976710656 < Builtin.nextslicecap (sLen + m) sCap * ei.bytes) := by omega
 have hcells : cellsK k (xs ++ ys ++ zerosOf ((c - (sLen + m)) * ei.size)) = cellsK k xs ++ cellsK k ys ++ cellsK k (zerosOf ((c - (sLen + m)) * ei.size)) := by
  rw [cellsK_append hpos.2 (m := sLen + m) (by rw [List.length_append, hx, src.len, Nat.add_mul]), cellsK_append hpos.2 hx]
 refine ⟨c, w.drew.alloc (.cells (cellsK k xs ++ cellsK k ys ++ cellsK k (zerosOf ((c - (sLen + m)) * ei.size))).toArray e), ?_, hc, by rw [hcells]; rfl, rfl, rfl⟩
 have hcut : (Question.appendCap (sLen + m) sCap e).cut (w.tape w.drawn (.appendCap (sLen + m) sCap e)) = c := rfl
 have o1 := hold w.drew rfl
 rcases src.slc with ⟨t1, e1, g1, g2, ⟨A, cc, rfl⟩, g4⟩ | ⟨t1, g1, g2, rfl, g4, g6, g5⟩
 ·
  have n1 := g4 w.drew rfl
  simp [Builtin.append_, h0, g1, run_underlying ht, run_underlying g2, run_sizeOf hok, Builtin.lenOf, hr, run_typeInfo h1, h4, hsz, hfo, hcut, hmax, o1, n1, zeroValue, h2, hzc, newRow, cellsK_nil]
 ·
  have hwm : IntKind.i64.wrap (m : Int) = m := wrap_small _ (by omega) g6
  by_cases hz : m * ei.size = 0
  ·
   have : ys = [] := List.eq_nil_of_length_eq_zero (by rw [src.len]; exact hz)
   subst this
   simp [Builtin.append_, h0, g1, run_underlying ht, run_underlying g2, run_sizeOf hok, hr, asInt, asIntOf, hwm, show ¬ ((m : Int) < 0) by omega, run_typeInfo h1, h4, show ¬ (281474976710656 < (m : Int) * ei.bytes) by omega, hz, hsz, hfo, hcut, hmax, o1, zeroValue, h2, hzc, newRow, cellsK_nil]
  ·
   simp [Builtin.append_, h0, g1, run_underlying ht, run_underlying g2, run_sizeOf hok, hr, asInt, asIntOf, hwm, show ¬ ((m : Int) < 0) by omega, run_typeInfo h1, h4, show ¬ (281474976710656 < (m : Int) * ei.bytes) by omega, hz, hsz, hfo, hcut, hmax, o1, zeroValue, h2, hzc, newRow, g5, cellsK_nil]
theorem elemOfArg_ok (hΘ : TypesOk P Θ) {ts : Array TypeId} {i : Nat} {ei : TI} (h : elemOfArg Θ ts.toList i = some ei) : ∃ t e, ts[i]? = some t ∧ P.underlying t = some (.slice e) ∧ findTy e Θ = some ei ∧ TyOk P e ei := by
 unfold elemOfArg at h
 split at h
 ·
  rename_i t ht
  obtain ⟨e, h1, h2, h3⟩ := elemOfSlice_ok hΘ h
  exact ⟨t, e, by simpa using ht, h1, h2, h3⟩
 ·
  cases h
theorem argTy_ok (hΘ : TypesOk P Θ) {ts : Array TypeId} {i : Nat} {td : TD} (h : argTy Θ ts.toList i = some td) : ∃ t d, ts[i]? = some t ∧ P.underlying t = some d ∧ TDesc td d := by
 unfold argTy at h
 split at h
 ·
  rename_i t ht
  obtain ⟨d, h1, h2⟩ := tyIs_ok hΘ h
  exact ⟨t, d, by simpa using ht, h1, h2⟩
 ·
  cases h
theorem srcOf_ok (hΘ : TypesOk P Θ) {w0 : World} {Mu : MuT} {ρ : Rho} {a : Act} {w : World} (hs : Sim w0 Mu ρ s a w) (hI : ∀ n it, I n = some it → s.I n = some it) {e : TypeId} {ei : TI} {k : RK} {ts : Array TypeId} {xa : At} {X : Value} {ys : List Int} {cnt : Option Int} (hpos : PosK k ei.size)
  (h : srcOf Θ I ei k ts.toList xa = some (ys, cnt)) (hc : okCnt ei.bytes cnt = true) (r : RelSV ρ s.S (.one xa) X) : Src P k e ei ts X ys (rowLen ei.size ys) w := by
 have slices : ∀ t1 d1 e0, ts[1]? = some t1 → P.underlying t1 = some d1 → TDesc (.slice e0) d1 → ∀ m l, SrcAt k ei.size X ys m l w → Src P k e ei ts X ys (rowLen ei.size ys) w := by
  intro t1 d1 e0 h1 h2 h3 m l hsrc
  cases d1 <;> simp [TDesc] at h3
  have hm : rowLen ei.size ys = m := by rw [rowLen_eq, hsrc.len, rl_mul hpos.1]
  rw [hm]
  obtain ⟨A, c, hX, _⟩ := hsrc.val
  exact ⟨hsrc.len, .inl ⟨t1, _, h1, h2, ⟨A, c, hX⟩, fun w' hw => hsrc.first hw⟩⟩
 unfold srcOf at h
 split at h
 ·
  rename_i n
  split at h
  ·
   rename_i ht
   injection h with h; injection h with h1 h2; subst h1; subst h2
   obtain ⟨t1, d1, g1, g2, g3⟩ := argTy_ok hΘ ht
   cases d1 <;> simp [TDesc] at g3
   subst g3
   simp only [okCnt, Bool.and_eq_true, decide_eq_true_eq] at hc
   obtain ⟨hc1, hc2, hc3⟩ := hc
   have hl : (zerosOf (mulE n.toNat ei.size)).length = n.toNat * ei.size := by simp [zerosOf, mulE_eq]
   have hm : rowLen ei.size (zerosOf (mulE n.toNat ei.size)) = n.toNat := by rw [rowLen_eq, hl, rl_mul hpos.1]
   simp only [RelSV, RelAt, List.cons.injEq, and_true] at r
   have hn : ((n.toNat : Nat) : Int) = n := by omega
   rw [hm]
   exact ⟨hl, .inr ⟨t1, g1, g2, by rw [hn]; exact r, by rw [hn]; exact hc3, by rw [hn]; exact hc2, by rw [mulE_eq]⟩⟩
  ·
   cases h
 ·
  split at h
  ·
   rename_i e0 ht
   injection h with h; injection h with h1 h2; subst h1; subst h2
   obtain ⟨t1, d1, g1, g2, g3⟩ := argTy_ok hΘ ht
   simp only [RelSV, RelAt, List.cons.injEq, and_true] at r
   subst r
   exact slices t1 d1 e0 g1 g2 g3 0 none (srcNil k hpos w)
  ·
   cases h
 ·
  split at h
  ·
   rename_i e0 ht
   split at h
   ·
    rename_i k' ys' hd
    split at h
    ·
     rename_i hk
     injection h with h; injection h with h1 h2; subst h1; subst h2
     have := rkEq_iff.1 hk; subst this
     obtain ⟨t1, d1, g1, g2, g3⟩ := argTy_ok hΘ ht
     obtain ⟨m, l, hsrc, _⟩ := sliceData_ok hs hI hd r
     exact slices t1 d1 e0 g1 g2 g3 m l hsrc
    ·
     cases h
   ·
    cases h
  ·
   cases h
theorem args_two {T : Nat → AV} {c : Call} {x y : AV} (h : evAll (evO T) c.args.toList = [x, y]) : ∃ p q, c.args = #[p, q] ∧ evO T p = x ∧ evO T q = y := by
 rw [evAll_eq] at h
 cases hl : c.args.toList with
 | nil => rw [hl] at h; cases h
 | cons p l => cases l with
  | nil => rw [hl] at h; simp at h
  | cons q l => cases l with
   | nil => rw [hl] at h; simp at h; exact ⟨p, q, by apply Array.ext'; simpa using hl, h.1, h.2⟩
   | cons z l => rw [hl] at h; simp at h
theorem wp_grown {w0 : World} {Mu : MuT} {ρ : Rho} {a : Act} {w w' : World} (hs : Sim w0 Mu ρ s a w) (hst : Still w w') {n need nc es : Nat} {k : RK} {zs : List Int} {e : TypeId} {gone : List Nat} {Q : Exit → Act → World → Prop}
  (hd : o.dst = some n) (hlt : s.Dst n) (hpos : PosK k es) (hrun : (execOp a.eval o).run P w = .ok (.value (.slice (some ⟨w.heap.size, 0, none⟩) need nc)) w') (hnc : need ≤ nc) (hlen : zs.length = need * es)
  (hheap : w'.heap = w.heap.push (.cells (cellsK k (zs ++ zerosOf ((nc - need) * es))).toArray e)) :
  o.wp P a w (fun a' w' => ∃ ρ', Sim w0 Mu ρ' (s.apply { tmp := some (n, va (.own n)), fresh := [(n, .row k es zs)], gone := gone }) a' w') Q := by
 refine step_block hs hst (tot := nc * es) hd hlt hrun hheap ?_ ?_
 ·
  intro S' hag hS
  refine ⟨hpos, ⟨need, hlen⟩, .inr ⟨w.heap.size, e, cellsK k (zerosOf ((nc - need) * es)), Rho.set_loc _ _ _ _, ?_, ?_⟩⟩
  ·
   rw [heap_push_new hheap, cellsK_append hpos.2 hlen]
  ·
   rw [Rho.set_tot]
   simp only [cellsK_length, zerosOf, List.length_replicate]
   rw [hlen, ← Nat.add_mul]; congr 1; omega
 ·
  intro S' hag hS
  exact rel_newrow hS (by rw [hlen, rl_mul hpos.1]) hnc (Nat.le_refl _)
theorem cell1_size {a : At} (h : a.cell1 = true) : a.size = 1 := by cases a <;> first | rfl | (simp [At.cell1] at h; done)
theorem sizes_cell1 : ∀ {l : List At}, (∀ a ∈ l, a.cell1 = true) → sizesL l = l.length
 | [], _ => rfl
 | a :: l, h => by
  simp only [sizesL, List.length_cons, cell1_size (h a (.head _)), sizes_cell1 fun b hb => h b (.tail _ hb)]; omega
theorem tab_first {w0 : World} {Mu : MuT} {ρ : Rho} {a : Act} {w : World} (hs : Sim w0 Mu ρ s a w) {m : Nat} {l : List At} {X : Value} (hi : s.I m = some (.tab l)) (r : RelV ρ s.S (va (.own m)) X) :
  (∀ b ∈ l, b.cell1 = true) ∧ ∃ c cs, X = .slice ((ρ.loc m).map (adr · 0)) l.length c ∧ l.length ≤ c ∧ (ρ.loc m = none → c = 0) ∧ c ≤ ρ.tot m ∧ RelL ρ s.S l cs ∧ cs.length = l.length ∧
   ((ρ.loc m = none ∧ l = [] ∧ ρ.tot m = 0) ∨ ∃ b T sp, ρ.loc m = some (b, 0) ∧ w.heap[b]? = some (.cells (cs ++ sp).toArray T (0, 0)) ∧ ρ.tot m = l.length + sp.length) ∧
   ∀ w' : World, w'.heap = w.heap → (Builtin.firstCells 1 l.length X).run P w' = .ok cs.toArray w' := by
 obtain ⟨h1, h2⟩ := hs.hold _ _ hi
 have r' : RelAt ρ s.S (.own m) [X] := r
 simp only [RelAt, S_of hi, Item.shape, List.cons.injEq, and_true] at r'
 obtain ⟨c, g1, g2, g3, g4⟩ := r'
 refine ⟨h1, ?_⟩
 rcases h2 with ⟨e1, e2, e3⟩ | ⟨b, T, cs, sp, e1, e2, e4, e5⟩
 ·
  subst e2
  refine ⟨c, [], g1, g2, g3, g4, rfl, rfl, .inl ⟨e1, rfl, e3⟩, fun w' _ => ?_⟩
  rw [g1, e1]
  simp [Builtin.firstCells]
 ·
  have hl : cs.length = l.length := by rw [e4.length, sizes_cell1 h1]
  refine ⟨c, cs, g1, g2, g3, g4, e4, hl, .inr ⟨b, T, sp, e1, e2, e5⟩, fun w' hw => ?_⟩
  rw [g1, e1]
  simp only [Option.map_some, Builtin.firstCells, Nat.mul_one]
  have := run_loadCells_list (P := P) w' (adr (b, 0) 0) cs (fun j u hu => by
   have e2' : w'.heap[b]? = some (.cells (cs ++ sp).toArray T (0, 0)) := by rw [hw]; exact e2
   rw [adr_add, adr, cell_of e2']
   simp only [Nat.zero_add]
   rw [List.getElem?_append_left (List.getElem?_eq_some_iff.1 hu).1]
   exact hu)
  rw [hl] at this
  exact this
theorem append_roomT {t t1 e e1 : TypeId} {ei : TI} {ts : Array TypeId} {ty : TypeId} {A : Option Addr} {ys : List Value} {m c : Nat} {w : World} (h0 : ts[0]? = some t) (ht : P.underlying t = some (.slice e)) (hok : TyOk P e ei) (hsz : ei.size = 1)
  (g1 : ts[1]? = some t1) (g2 : P.underlying t1 = some (.slice e1)) (hf : ∀ w' : World, w'.heap = w.heap → (Builtin.firstCells 1 m (.slice A m c)).run P w' = .ok ys.toArray w') (base : Option Addr) (sLen sCap : Nat) (hroom : sLen + m ≤ sCap) (w' : World)
  (hst : match base with | none => w' = w | some a => (storeCells (a.add (sLen * 1)) ys).run P w = .ok () w') :
  (Builtin.append_ ts ty #[.slice base sLen sCap, .slice A m c]).run P w = .ok (.slice base (sLen + m) sCap) w' := by
 have g4 := hf w rfl
 cases base with
 | none =>
  subst hst
  simp [Builtin.append_, h0, g1, run_underlying ht, run_underlying g2, run_sizeOf hok, hsz, Builtin.lenOf, hroom, g4]
 | some a =>
  simp only at hst
  rw [Nat.mul_one] at hst
  simp [Builtin.append_, h0, g1, run_underlying ht, run_underlying g2, run_sizeOf hok, hsz, Builtin.lenOf, hroom, g4, hst]
theorem append_growT {t t1 e e1 : TypeId} {ei : TI} {ts : Array TypeId} {ty : TypeId} {A : Option Addr} {xs ys : List Value} {m c : Nat} {w : World} (h0 : ts[0]? = some t) (ht : P.underlying t = some (.slice e)) (hok : TyOk P e ei) (hsz : ei.size = 1) (hz : sizesL ei.zero = 1)
  (g1 : ts[1]? = some t1) (g2 : P.underlying t1 = some (.slice e1)) (hf : ∀ w' : World, w'.heap = w.heap → (Builtin.firstCells 1 m (.slice A m c)).run P w' = .ok ys.toArray w') (base : Option Addr) (sLen sCap : Nat) (hgrow : sCap < sLen + m) (hsize : Builtin.nextslicecap (sLen + m) sCap * ei.bytes ≤ 281474976710656) (hneed : sLen + m ≤ 4611686018427387904)
  (hold : ∀ w' : World, w'.heap = w.heap → (Builtin.firstCells 1 sLen (.slice base sLen sCap)).run P w' = .ok xs.toArray w') :
  ∃ newCap w' sp, (Builtin.append_ ts ty #[.slice base sLen sCap, .slice A m c]).run P w = .ok (.slice (some ⟨w.heap.size, 0, none⟩) (sLen + m) newCap) w' ∧ sLen + m ≤ newCap ∧ sp.length = newCap - (sLen + m) ∧
   w'.heap = w.heap.push (.cells (xs ++ ys ++ sp).toArray e) ∧ Still w w' := by
 obtain ⟨i, h1, h2, h4, _, z, h5, h6⟩ := hok.info
 have hzs : z.cells.size = 1 := by
  have := h6.length
  rw [hz] at this
  simpa using this
 have hfo : (Question.appendCap (sLen + m) sCap e).forced = false := rfl
 let nc := (Question.appendCap (sLen + m) sCap e).cut (w.tape w.drawn (.appendCap (sLen + m) sCap e))
 have hc : sLen + m ≤ nc := Nat.le_add_right _ _
 have hr : ¬ sLen + m ≤ sCap := by omega
 have hmax : ¬ (9223372036854775807 < ((sLen : Int) + (m : Int))) := by omega
 have hsz2 : ¬ (281474976710656 < Builtin.nextslicecap (sLen + m) sCap * ei.bytes) := by omega
 have hcut : (Question.appendCap (sLen + m) sCap e).cut (w.tape w.drawn (.appendCap (sLen + m) sCap e)) = nc := rfl
 have o1 := hold w.drew rfl
 have n1 := hf w.drew rfl
 refine ⟨nc, w.drew.alloc (.cells (xs ++ ys ++ (Builtin.zeroCells z.cells (nc - (sLen + m))).toList).toArray e), (Builtin.zeroCells z.cells (nc - (sLen + m))).toList, ?_, hc, ?_, rfl, rfl, rfl⟩
 ·
  simp [Builtin.append_, h0, g1, run_underlying ht, run_underlying g2, run_sizeOf hok, hsz, Builtin.lenOf, hr, run_typeInfo h1, h4, hsz2, hfo, hcut, hmax, o1, n1, zeroValue, h5, newRow]
  refine congrArg (fun x => w.drew.alloc (Obj.cells x e)) ?_
  apply Array.ext'; simp
 ·
  simp [Builtin.zeroCells, hzs]
theorem wp_grownT {w0 : World} {Mu : MuT} {ρ : Rho} {a : Act} {w w' : World} (hs : Sim w0 Mu ρ s a w) (hst : Still w w') {n need nc : Nat} {l : List At} {cs sp : List Value} {e : TypeId} {gone : List Nat} {Q : Exit → Act → World → Prop}
  (hd : o.dst = some n) (hlt : s.Dst n) (hrun : (execOp a.eval o).run P w = .ok (.value (.slice (some ⟨w.heap.size, 0, none⟩) need nc)) w') (hnc : need ≤ nc) (hlen : l.length = need) (hsp : sp.length = nc - need)
  (hn : n ∉ namesL l) (hc1 : ∀ b ∈ l, b.cell1 = true) (hrel : RelL ρ s.S l cs) (hheap : w'.heap = w.heap.push (.cells (cs ++ sp).toArray e)) :
  o.wp P a w (fun a' w' => ∃ ρ', Sim w0 Mu ρ' (s.apply { tmp := some (n, va (.own n)), fresh := [(n, .tab l)], gone := gone }) a' w') Q := by
 refine step_block hs hst (tot := nc) hd hlt hrun hheap ?_ ?_
 ·
  intro S' hag hS
  refine ⟨hc1, .inr ⟨w.heap.size, e, cs, sp, Rho.set_loc _ _ _ _, ?_, RelL.setN hn hag hrel, ?_⟩⟩
  ·
   rw [heap_push_new hheap]
  ·
   rw [Rho.set_tot, hlen, hsp]; omega
 ·
  intro S' hag hS
  exact rel_newtab hS hlen hnc (Nat.le_refl _)
theorem wp_appendT (hΘ : TypesOk P Θ) (hI : ∀ n it, I n = some it → s.I n = some it) {c : Call} {x y : AV} {e : TI} (hdst : ∀ n, o.dst = some n → s.Dst n) (hb : c.callee = .builtin .append) (hargs : evAll (evO s.T) c.args.toList = [x, y]) (ho : o.op = .call c)
  (he : elemOfArg Θ c.argTypes.toList 0 = some e) (h : (appendT Θ I o.dst c.argTypes.toList e x y).Out P Γ d) : WpStep P s o d := by
 obtain ⟨p, q, hA, hp, hq⟩ := args_two hargs
 have run : ∀ (a : Act) (w : World), (execOp a.eval o).run P w = ((Builtin.append_ c.argTypes o.type #[a.eval p, a.eval q]).run P w).andThen fun v w' => .ok (.value v) w' := by
  intro a w
  simp only [execOp, ho, resolve, hb, hA, Sem.run_bind, Sem.run_pure, Result.andThen_ok, invoke, builtin]
  simp
 unfold appendT at h
 split at h
 ·
  rename_i n sa m hd
  split at h
  ·
   rename_i ys et hm hts
   obtain ⟨t, ee, h0, ht, hte, hok⟩ := elemOfArg_ok hΘ he
   obtain ⟨t1, d1, g1, g2, g3⟩ := argTy_ok hΘ hts
   have hm' := hI _ _ hm
   obtain ⟨e1, rfl⟩ : ∃ e1, d1 = .slice e1 := by
    cases d1 <;> first | exact ⟨_, rfl⟩ | (simp [TDesc] at g3; done)
   split at h
   ·
    split at h
    ·
     rename_i hbb
     simp only [Bool.and_eq_true, Bool.not_eq_true'] at hbb
     obtain ⟨b1, b2, b3, b4⟩ := hbb
     have b1 := beqT b1; have b2 := beqT b2
     have b4 := memN_false.1 b4
     obtain ⟨hle, h⟩ := chk_out h
     simp only [D.Out] at h; subst h
     simp only [Bool.and_eq_true] at hle
     have hle1 := ble_iff.1 hle.1
     have hle2 := ble_iff.1 hle.2
     simp only [big48] at hle1 hle2
     intro w0 Mu ρ a w Q hs
     have hX := ev_one hs hp
     have hS : a.eval p = .slice none 0 0 := by simpa [RelV, RelSV, RelAt] using hX
     obtain ⟨k1, cm, cs, k2, k3, k4, k5, k6, k7, k8, k9⟩ := tab_first (P := P) hs hm' (ev_one hs hq)
     by_cases hy : ys.length = 0
     ·
      have hy0 : ys = [] := List.eq_nil_of_length_eq_zero hy
      subst hy0
      have hr := append_roomT (ty := o.type) (c := cm) h0 ht hok b1 g1 g2 (fun w' hw => by have := k9 w' hw; rw [k2] at this; exact this) none 0 0 (Nat.le_refl _) w rfl
      refine step_fresh hs ⟨rfl, rfl⟩ (w' := w) (x := .slice none 0 0) (l := none) (tot := 0) hd (hdst n hd) (by rw [run, hS, k2, hr]; rfl) (fun _ _ _ _ _ _ _ => rfl) (Nat.le_refl _) (fun _ _ _ => rfl) ?_ ?_ (by simp)
      ·
       intro S' hag hSn
       exact ⟨by simp, .inl ⟨Rho.set_loc _ _ _ _, rfl, Rho.set_tot _ _ _ _⟩⟩
      ·
       intro S' hag hSn
       show RelAt _ S' (.own n) [_]
       simp only [RelAt, hSn, Item.shape, Rho.set_loc, Option.map_none, List.length_nil]
       exact ⟨0, rfl, Nat.le_refl _, fun _ => rfl, by simp⟩
     ·
      obtain ⟨nc, w', sp, hr, hnc, hsp, hheap, hst⟩ := append_growT (ty := o.type) (c := cm) (xs := []) h0 ht hok b1 b2 g1 g2 (fun w' hw => by have := k9 w' hw; rw [k2] at this; exact this) none 0 0 (by omega) (by rw [Nat.zero_add, nextslicecap_zero (by omega)]; have := Nat.mul_le_mul_right e.bytes (show ys.length ≤ 2 * ys.length + 192 by omega); omega) (by omega) (fun w' _ => by simp [Builtin.firstCells])
      rw [List.nil_append] at hheap
      exact wp_grownT hs hst hd (hdst n hd) (by rw [run, hS, k2, hr]; rfl) hnc (by omega) hsp b4 k1 k6 hheap
    ·
     exact h.elim
   ·
    rename_i nm
    split at h
    ·
     rename_i xs hi
     split at h
     ·
      rename_i hbb
      simp only [Bool.and_eq_true, Bool.not_eq_true'] at hbb
      obtain ⟨⟨b1, b2, b3⟩, b4, b5, b6, b7⟩ := hbb
      have b1 := beqT b1; have b2 := beqT b2
      have b3 := beqN b3
      have b6 := memN_false.1 b6
      have b7 := memN_false.1 b7
      obtain ⟨hle, h⟩ := chk_out h
      simp only [D.Out] at h; subst h
      simp only [Bool.and_eq_true] at hle
      have hle1 := ble_iff.1 hle.1
      have hle2 := ble_iff.1 hle.2
      simp only [big48] at hle1 hle2
      intro w0 Mu ρ a w Q hs
      have hi' := hI _ _ hi
      obtain ⟨k1, cm, cs, k2, k3, k4, k5, k6, k7, k8, k9⟩ := tab_first (P := P) hs hm' (ev_one hs hq)
      obtain ⟨j1, cap, ds, j2, j3, j4, j5, j6, j7, j8, j9⟩ := tab_first (P := P) hs hi' (ev_one hs hp)
      have hall : ∀ b ∈ xs ++ ys, b.cell1 = true := fun b hb => by
       rcases List.mem_append.1 hb with hb | hb
       ·
        exact j1 b hb
       ·
        exact k1 b hb
      by_cases hroom : xs.length + ys.length ≤ cap
      ·
       rcases j8 with ⟨hl, hx0, ht0⟩ | ⟨b, T, sp, hl, hh, htot⟩
       ·
        have hc0 := j4 hl
        subst hx0; subst hc0
        have hy0 : ys = [] := List.eq_nil_of_length_eq_zero (by omega)
        subst hy0
        have hr := append_roomT (ty := o.type) (c := cm) h0 ht hok b1 g1 g2 (fun w' hw => by have := k9 w' hw; rw [k2] at this; exact this) none ([] : List At).length 0 (Nat.le_refl _) w rfl
        refine step_fresh hs ⟨rfl, rfl⟩ (w' := w) (x := .slice none 0 0) (l := none) (tot := 0) hd (hdst n hd) (by rw [run, j2, k2, hl]; simp only [Option.map_none]; rw [hr]; rfl) (fun _ _ _ _ _ _ _ => rfl) (Nat.le_refl _) (fun _ _ _ => rfl) ?_ ?_ (by simp)
        ·
         intro S' hag hSn
         exact ⟨by simp, .inl ⟨Rho.set_loc _ _ _ _, rfl, Rho.set_tot _ _ _ _⟩⟩
        ·
         intro S' hag hSn
         show RelAt _ S' (.own n) [_]
         simp only [RelAt, hSn, Item.shape, Rho.set_loc, Option.map_none, List.length_nil, List.append_nil]
         exact ⟨0, rfl, Nat.le_refl _, fun _ => rfl, by simp⟩
       ·
        have hfit : cs.length ≤ sp.length := by omega
        have hst := run_storeCells_at (P := P) b ds.length T cs 0 _ w hh (by simp; omega) (fun v hv => k6.oneCells v hv)
        have hst2 : (storeCells ((adr (b, 0) 0).add (xs.length * 1)) cs).run P w = .ok () (w.setRow b (List.take ds.length (ds ++ sp) ++ (cs ++ List.drop (ds.length + cs.length) (ds ++ sp))).toArray) := by
         rw [adr_add, Nat.mul_one, ← j7]
         simpa [adr] using hst
        have hr := append_roomT (ty := o.type) (c := cm) h0 ht hok b1 g1 g2 (fun w' hw => by have := k9 w' hw; rw [k2] at this; exact this) (some (adr (b, 0) 0)) xs.length cap hroom _ hst2
        have hcells : List.take ds.length (ds ++ sp) ++ (cs ++ List.drop (ds.length + cs.length) (ds ++ sp)) = (ds ++ cs) ++ sp.drop cs.length := by
         rw [List.take_append_of_le_length (by simp), List.take_of_length_le (by simp), List.drop_append, List.drop_of_length_le (by simp)]
         simp
        refine step_fresh hs ⟨rfl, rfl⟩ (w' := w.setRow b ((ds ++ cs) ++ sp.drop cs.length).toArray) (x := .slice (some (adr (b, 0) 0)) (xs.length + ys.length) cap) (l := some (b, 0)) (tot := ρ.tot nm) hd (hdst n hd) ?_ ?_ (by simp) ?_ ?_ ?_ ?_
        ·
         rw [run, j2, k2, hl]
         simp only [Option.map_some]
         rw [← k2] at hr ⊢
         rw [k2] at hr ⊢
         rw [hr, ← hcells]
         rfl
        ·
         intro m2 it2 p2 hm2 hne hng hp2
         refine setRow_other w b p2.1 _ (fun e => ?_)
         exact hs.sep nm m2 _ it2 (b, 0) p2 hi' hm2 rfl (fun e => hng (by simp [e])) hl hp2 e.symm
        ·
         intro k2 hk2 hm2
         rw [setRow_other w b k2]
         rintro rfl
         rcases hs.own nm _ (k2, 0) hi' rfl hl with h | h
         ·
          simp only at h; omega
         ·
          exact hm2 h
        ·
         intro S' hag hSn
         refine ⟨hall, .inr ⟨b, T, ds ++ cs, sp.drop cs.length, Rho.set_loc _ _ _ _, ?_, RelL.setN b6 hag (j6.append k6), ?_⟩⟩
         ·
          exact setRow_heap w b _ _ T _ hh
         ·
          rw [Rho.set_tot, htot]; simp; omega
        ·
         intro S' hag hSn
         show RelAt _ S' (.own n) [_]
         simp only [RelAt, hSn, Item.shape, Rho.set_loc, Rho.set_tot, Option.map_some]
         exact ⟨cap, by rw [List.length_append], by rw [List.length_append]; exact hroom, by simp, j5⟩
        ·
         intro p2 hp2
         injection hp2 with hp2; subst hp2
         refine ⟨by simpa using hs.lt nm _ (b, 0) hi' hl, hs.own nm _ (b, 0) hi' rfl hl, ?_⟩
         intro m2 it2 q2 hm2 hne hng hq2
         exact hs.sep nm m2 _ it2 (b, 0) q2 hi' hm2 rfl (fun e => hng (by simp [e])) hl hq2
      ·
       have hnsc := nextslicecap_le (need := xs.length + ys.length) (cap := cap) (by omega)
       have hnsc2 := Nat.mul_le_mul_right e.bytes hnsc
       obtain ⟨nc, w', sp, hr, hnc, hsp, hheap, hst⟩ := append_growT (ty := o.type) (c := cm) (xs := ds) h0 ht hok b1 b2 g1 g2 (fun w' hw => by have := k9 w' hw; rw [k2] at this; exact this) ((ρ.loc nm).map (adr · 0)) xs.length cap (by omega) (by omega) (by omega) (fun w' hw => by have := j9 w' hw; rw [j2] at this; exact this)
       exact wp_grownT hs hst hd (hdst n hd) (by rw [run, j2, k2, hr]; rfl) hnc (by rw [List.length_append]) hsp b6 hall (j6.append k6) hheap
     ·
      exact h.elim
    ·
     exact h.elim
   ·
    exact h.elim
  ·
   exact h.elim
 ·
  exact h.elim
theorem wp_appendR (hΘ : TypesOk P Θ) (hI : ∀ n it, I n = some it → s.I n = some it) {c : Call} {x y : AV} (hdst : ∀ n, o.dst = some n → s.Dst n) (hb : c.callee = .builtin .append) (hargs : evAll (evO s.T) c.args.toList = [x, y]) (ho : o.op = .call c)
  (h : (appendR Θ I o.dst c.argTypes.toList x y).Out P Γ d) : WpStep P s o d := by
 obtain ⟨p, q, hA, hp, hq⟩ := args_two hargs
 have run : ∀ (a : Act) (w : World), (execOp a.eval o).run P w = ((Builtin.append_ c.argTypes o.type #[a.eval p, a.eval q]).run P w).andThen fun v w' => .ok (.value v) w' := by
  intro a w
  simp only [execOp, ho, resolve, hb, hA, Sem.run_bind, Sem.run_pure, Result.andThen_ok, invoke, builtin]
  simp
 unfold appendR at h
 split at h
 ·
  rename_i n ei sa xa hd he
  split at h
  ·
   rename_i k hk
   split at h
   ·
    rename_i ys cnt hsrc
    obtain ⟨hcnt, h⟩ := chk_out h
    obtain ⟨t, e, h0, ht, hte, hok⟩ := elemOfArg_ok hΘ he
    obtain ⟨i, z, _, _, _, _, _, hpos⟩ := elemKind_zero hok hk
    split at h
    ·
     obtain ⟨hle, h⟩ := chk_out h
     simp only [D.Out] at h; subst h
     simp only [Bool.and_eq_true] at hle
     have hle1 := ble_iff.1 hle.1
     have hle2 := ble_iff.1 hle.2
     intro w0 Mu ρ a w Q hs
     have hX := ev_one hs hp
     have hS : a.eval p = .slice none 0 0 := by simpa [RelV, RelSV, RelAt] using hX
     have src := srcOf_ok hΘ hs hI (e := e) hpos hsrc hcnt (ev_one hs hq)
     have hlen := src.len
     by_cases hm : rowLen ei.size ys = 0
     ·
      have hy0 : ys = [] := List.eq_nil_of_length_eq_zero (by rw [hlen, hm]; simp)
      rw [hm] at src
      have hr := append_room (ty := o.type) h0 ht hok hk src none 0 0 (Nat.le_refl _) w rfl
      refine step_fresh hs ⟨rfl, rfl⟩ (w' := w) (x := .slice none 0 0) (l := none) (tot := 0) hd (hdst n hd) (by rw [run, hS, hr]; rfl) (fun _ _ _ _ _ _ _ => rfl) (Nat.le_refl _) (fun _ _ _ => rfl) ?_ ?_ (by simp)
      ·
       intro S' hag hSn
       subst hy0
       exact ⟨hpos, ⟨0, by simp⟩, .inl ⟨Rho.set_loc _ _ _ _, rfl, Rho.set_tot _ _ _ _⟩⟩
      ·
       intro S' hag hSn
       subst hy0
       show RelAt _ S' (.own n) [_]
       simp only [RelAt, hSn, Item.shape, Rho.set_loc, Option.map_none, List.length_nil, rl_zero]
       exact ⟨0, rfl, Nat.le_refl _, fun _ => rfl, by simp⟩
     ·
      obtain ⟨nc, w', hr, hnc, hheap, hst⟩ := append_grow (ty := o.type) (xs := []) h0 ht hok hk src none 0 0 (by omega) (by rw [Nat.zero_add, nextslicecap_zero (by omega)]; exact hle1) (by simp only [big48] at hle2; omega) (by simp) (fun w' _ => by simp [Builtin.firstCells, cellsK_nil])
      exact wp_grown hs hst hd (hdst n hd) hpos (by rw [run, hS, hr]; rfl) hnc (by rw [Nat.zero_add]; exact hlen) hheap
    ·
     rename_i nm _
     split at h
     ·
      rename_i k' es xs hi
      split at h
      ·
       rename_i hbb
       simp only [Bool.and_eq_true, Bool.not_eq_true'] at hbb
       have e1 := rkEq_iff.1 hbb.1; have e2 := beqT hbb.2.1; have e3 := beqN hbb.2.2
       subst e1; subst e2
       obtain ⟨hle, h⟩ := chk_out h
       simp only [D.Out] at h; subst h
       simp only [Bool.and_eq_true] at hle
       have hle1 := ble_iff.1 hle.1
       have hle2 := ble_iff.1 hle.2
       intro w0 Mu ρ a w Q hs
       have hX := ev_one hs hp
       have src := srcOf_ok hΘ hs hI (e := e) hpos hsrc hcnt (ev_one hs hq)
       have hlen := src.len
       have hi' := hI _ _ hi
       have r' : RelAt ρ s.S (.own nm) [a.eval p] := hX
       simp only [RelAt, S_of hi', Item.shape, List.cons.injEq, and_true] at r'
       obtain ⟨cap, g1, g2, g3, g4⟩ := r'
       obtain ⟨p0, ⟨mm, pm⟩, hrow⟩ := hs.hold _ _ hi'
       have hsl : rl ei.size xs.length = mm := by rw [pm, rl_mul hpos.1]
       rw [hsl] at g1 g2
       have hxl : rowLen ei.size xs = mm := by rw [rowLen_eq]; exact hsl
       rw [hxl] at hle1 hle2
       by_cases hroom : mm + rowLen ei.size ys ≤ cap
       ·
        rcases hrow with ⟨hl, hx0, ht0⟩ | ⟨b, T, sp, hl, hh, htot⟩
        ·
         have hc0 := g3 hl
         subst hc0
         have hy0 : ys = [] := List.eq_nil_of_length_eq_zero (by rw [hlen, show rowLen ei.size ys = 0 by omega]; simp)
         have hr := append_room (ty := o.type) h0 ht hok hk src none mm 0 hroom w rfl
         have hmm : mm = 0 := by omega
         subst hmm; subst hx0; subst hy0
         refine step_fresh hs ⟨rfl, rfl⟩ (w' := w) (x := .slice none 0 0) (l := none) (tot := 0) hd (hdst n hd) (by rw [run, g1, hl]; simp only [Option.map_none]; rw [hr]; simp [rowLen_eq, rl_zero]) (fun _ _ _ _ _ _ _ => rfl) (Nat.le_refl _) (fun _ _ _ => rfl) ?_ ?_ (by simp)
         ·
          intro S' hag hSn
          exact ⟨hpos, ⟨0, by simp⟩, .inl ⟨Rho.set_loc _ _ _ _, rfl, Rho.set_tot _ _ _ _⟩⟩
         ·
          intro S' hag hSn
          show RelAt _ S' (.own n) [_]
          simp only [RelAt, hSn, Item.shape, Rho.set_loc, Option.map_none, List.length_nil, List.append_nil, rl_zero]
          exact ⟨0, rfl, Nat.le_refl _, fun _ => rfl, by simp⟩
        ·
         have hfit : xs.length + ys.length ≤ xs.length + sp.length := by
          have := Nat.mul_le_mul_right ei.size hroom
          rw [Nat.add_mul, ← pm, ← hlen] at this
          omega
         have hst := run_storeCells_at (P := P) b xs.length T (cellsK k ys) 0 _ w hh (by simp [cellsK_length]; omega) (fun v hv => cellsK_cells hv)
         have hst2 : (storeCells ((adr (b, 0) 0).add (mm * ei.size)) (cellsK k ys)).run P w = .ok () (w.setRow b (List.take xs.length (cellsK k xs ++ sp) ++ (cellsK k ys ++ List.drop (xs.length + ys.length) (cellsK k xs ++ sp))).toArray) := by
          rw [adr_add, ← pm]
          simpa [adr, cellsK_length] using hst
         have hr := append_room (ty := o.type) h0 ht hok hk src (some (adr (b, 0) 0)) mm cap hroom _ hst2
         have hcells : (List.take xs.length (cellsK k xs ++ sp) ++ (cellsK k ys ++ List.drop (xs.length + ys.length) (cellsK k xs ++ sp))) = (cellsK k (xs ++ ys)) ++ sp.drop ys.length := by
          rw [List.take_append_of_le_length (by simp [cellsK_length]), List.take_of_length_le (by simp [cellsK_length]), List.drop_append, List.drop_of_length_le (by simp [cellsK_length]), cellsK_append hpos.2 pm]
          simp [cellsK_length]
         refine step_fresh hs ⟨rfl, rfl⟩ (w' := w.setRow b ((cellsK k (xs ++ ys)) ++ sp.drop ys.length).toArray) (x := .slice (some (adr (b, 0) 0)) (mm + rowLen ei.size ys) cap) (l := some (b, 0)) (tot := ρ.tot nm) hd (hdst n hd) ?_ ?_ (by simp) ?_ ?_ ?_ ?_
         ·
          rw [run, g1, hl]
          simp only [Option.map_some]
          rw [hr, ← hcells]
          rfl
         ·
          intro m it2 p2 hm2 hne hng hp2
          refine setRow_other w b p2.1 _ (fun e => ?_)
          exact hs.sep nm m _ it2 (b, 0) p2 hi' hm2 rfl (fun e => hng (by simp [e])) hl hp2 e.symm
         ·
          intro k2 hk2 hm2
          rw [setRow_other w b k2]
          rintro rfl
          rcases hs.own nm _ (k2, 0) hi' rfl hl with h | h
          ·
           simp only at h; omega
          ·
           exact hm2 h
         ·
          intro S' hag hSn
          refine ⟨hpos, ⟨mm + rowLen ei.size ys, by rw [List.length_append, pm, hlen, Nat.add_mul]⟩, .inr ⟨b, T, sp.drop ys.length, Rho.set_loc _ _ _ _, ?_, ?_⟩⟩
          ·
           exact setRow_heap w b _ _ T _ hh
          ·
           rw [Rho.set_tot, htot]; simp; omega
         ·
          intro S' hag hSn
          show RelAt _ S' (.own n) [_]
          simp only [RelAt, hSn, Item.shape, Rho.set_loc, Rho.set_tot, Option.map_some]
          have hl2 : rl ei.size (xs ++ ys).length = mm + rowLen ei.size ys := by
           rw [List.length_append, pm, hlen, ← Nat.add_mul, rl_mul hpos.1]
          exact ⟨cap, by rw [hl2], by rw [hl2]; exact hroom, by simp, g4⟩
         ·
          intro p2 hp2
          injection hp2 with hp2; subst hp2
          refine ⟨by simpa using hs.lt nm _ (b, 0) hi' hl, hs.own nm _ (b, 0) hi' rfl hl, ?_⟩
          intro m it2 q2 hm2 hne hng hq2
          exact hs.sep nm m _ it2 (b, 0) q2 hi' hm2 rfl (fun e => hng (by simp [e])) hl hq2
       ·
        have hnsc := nextslicecap_le (need := mm + rowLen ei.size ys) (cap := cap) (by omega)
        have hnsc2 := Nat.mul_le_mul_right ei.bytes hnsc
        obtain ⟨nc, w', hr, hnc, hheap, hst⟩ := append_grow (ty := o.type) (xs := xs) h0 ht hok hk src ((ρ.loc nm).map (adr · 0)) mm cap (by omega) (by simp only [big48] at hle1; omega) (by simp only [big48] at hle2; omega) pm (fun w' hw' => by
         have hsrc2 : SrcAt k ei.size (.slice ((ρ.loc nm).map (adr · 0)) mm cap) xs mm (ρ.loc nm) w := ⟨⟨_, cap, rfl, g2, fun _ => rfl⟩, pm, hpos, hrow.view⟩
         exact hsrc2.first hw')
        exact wp_grown hs hst hd (hdst n hd) hpos (by rw [run, g1, hr]; rfl) hnc (by rw [List.length_append, pm, hlen, Nat.add_mul]) hheap
      ·
       exact h.elim
     ·
      exact h.elim
    ·
     rename_i nm b f es len cap _
     split at h
     ·
      rename_i k' xs hdat
      split at h
      ·
       rename_i hkk
       have e1 := rkEq_iff.1 hkk
       subst e1
       obtain ⟨hlt, h⟩ := chk_out h
       obtain ⟨hle, h⟩ := chk_out h
       simp only [D.Out] at h; subst h
       simp only [Bool.and_eq_true] at hle
       have hle1 := ble_iff.1 hle.1
       have hle2 := ble_iff.1 hle.2
       intro w0 Mu ρ a w Q hs
       have hX := ev_one hs hp
       have src := srcOf_ok hΘ hs hI (e := e) hpos hsrc hcnt (ev_one hs hq)
       have hlen := src.len
       have hes : es = ei.size := by
        simp only [sliceData] at hdat
        split at hdat
        ·
         split at hdat
         ·
          split at hdat
          ·
           rename_i hb2; exact beqT hb2
          ·
           cases hdat
         ·
          split at hdat
          ·
           split at hdat
           ·
            split at hdat
            ·
             split at hdat
             ·
              rename_i hb2
              rw [Bool.and_eq_true] at hb2
              exact beqT hb2.1
             ·
              cases hdat
            ·
             cases hdat
           ·
            cases hdat
          ·
           cases hdat
        ·
         cases hdat
       subst hes
       obtain ⟨m0, l0, hsrc2, hsl, _⟩ := sliceData_ok hs hI hdat hX
       simp only [sliceLen] at hsl
       split at hsl
       ·
        injection hsl with hsl; subst hsl
        obtain ⟨A, c2, hX2, hc2, _⟩ := hsrc2.val
        obtain ⟨A', c3, hX3, _, hcap, _⟩ := hX
        simp only [List.cons.injEq, and_true] at hX3
        rw [hX2] at hX3
        injection hX3 with hA3 _ hc3
        have hcc := hcap cap rfl
        rw [← hc3] at hcc
        subst hcc
        have hlt' : c2 < len + rowLen ei.size ys := by
         have := ble_iff.1 (show Nat.ble (c2 + 1) (len + rowLen ei.size ys) = true from hlt)
         omega
        have hnsc := nextslicecap_le hlt'
        have hnsc2 := Nat.mul_le_mul_right ei.bytes hnsc
        obtain ⟨nc, w', hr, hnc, hheap, hst⟩ := append_grow (ty := o.type) (xs := xs) h0 ht hok hk src A len c2 hlt' (by simp only [big48] at hle1; omega) (by simp only [big48] at hle2; omega) hsrc2.len (fun w' hw' => by rw [← hX2]; exact hsrc2.first hw')
        exact wp_grown hs hst hd (hdst n hd) hpos (by rw [run, hX2, hr]; rfl) hnc (by rw [List.length_append, hsrc2.len, hlen, Nat.add_mul]) hheap
       ·
        cases hsl
      ·
       exact h.elim
     ·
      exact h.elim
    ·
     exact h.elim
   ·
    exact h.elim
  ·
   exact h.elim
 ·
  exact h.elim
theorem wp_append (hΘ : TypesOk P Θ) (hI : ∀ n it, I n = some it → s.I n = some it) {c : Call} {x y : AV} (hdst : ∀ n, o.dst = some n → s.Dst n) (hb : c.callee = .builtin .append) (hargs : evAll (evO s.T) c.args.toList = [x, y]) (ho : o.op = .call c)
  (h : (appendD Θ I o.dst c.argTypes.toList x y).Out P Γ d) : WpStep P s o d := by
 unfold appendD at h
 split at h
 ·
  rename_i e he
  split at h
  ·
   exact wp_appendT hΘ hI hdst hb hargs ho he h
  ·
   exact wp_appendR hΘ hI hdst hb hargs ho h
 ·
  exact h.elim
end
section
variable {P : Program} {Γ : Ctx} {Θ : Types} {s : AS} {o : Oper} {d : Delta} {I : Nat → Option Item}
theorem wp_copy (hΘ : TypesOk P Θ) (hI : ∀ n it, I n = some it → s.I n = some it) {c : Call} {x y : AV} (hdst : ∀ n, o.dst = some n → s.Dst n) (hb : c.callee = .builtin .copy) (hargs : evAll (evO s.T) c.args.toList = [x, y]) (ho : o.op = .call c)
  (h : (copyD Θ I o.dst c.argTypes.toList x y).Out P Γ d) : WpStep P s o d := by
 obtain ⟨p, q, hA, hp, hq⟩ := args_two hargs
 have run : ∀ (a : Act) (w : World), (execOp a.eval o).run P w = ((Builtin.copy_ c.argTypes o.type #[a.eval p, a.eval q]).run P w).andThen fun v w' => .ok (.value v) w' := by
  intro a w
  simp only [execOp, ho, resolve, hb, hA, Sem.run_bind, Sem.run_pure, Result.andThen_ok, invoke, builtin]
  simp
 unfold copyD at h
 exact h.elim
end
theorem disj_iff {l m : List Nat} : disj l m = true ↔ ∀ n ∈ l, n ∉ m := by
 induction l with
 | nil => simp [disj]
 | cons a l ih =>
  simp only [disj]
  split
  ·
   rename_i h; simp [memN_iff.1 h]
  ·
   rename_i h; simp [ih, memN_false.1 h]
section
variable {P : Program} {Γ : Ctx} {Θ : Types} {s : AS} {o : Oper} {d : Delta} {I : Nat → Option Item}
theorem nameless {ρ : Rho} {S : Sh} {v : SV} {x : Value} (h : v.names = []) (r : RelSV ρ S v x) : RelSV rho0 sh0 v x := r.frame (by rw [h]; simp)
theorem namelessL {ρ : Rho} {S : Sh} {l : List At} {cs : List Value} (h : namesL l = []) (r : RelL ρ S l cs) : RelL rho0 sh0 l cs := r.frame (by rw [h]; simp)
def LocIn (s : AS) (ρ : Rho) (owned : Bool) (names : List Nat) (l : Option (Nat × Nat)) : Prop :=
 ∀ q, l = some q → ∃ n p it, n ∈ names ∧ s.I n = some it ∧ ρ.loc n = some p ∧ q.1 = p.1 ∧ (owned = true → it.owned = true)
theorem argOf_ok {w0 : World} {Mu : MuT} {ρ : Rho} {a : Act} {w : World} (hs : Sim w0 Mu ρ s a w) (hI : ∀ n it, I n = some it → s.I n = some it) {p : PM} {x : AV} {X : Value} {dv : DV} {vs ts : List Nat}
  (hpos : ∀ k es, (p = .view k es ∨ p = .own k es) → PosK k es) (h : argOf I p x = some (dv, vs, ts)) (r : RelV ρ s.S x X) :
  ∃ l t, ArgRel w p dv X l t ∧ LocIn s ρ p.owned (if p.owned then ts else vs) l ∧
   (∀ n ∈ ts, ∃ it, s.I n = some it ∧ it.owned = true ∧ (∀ q, ρ.loc n = some q → l = some q)) ∧
   (∀ q, l = some q → p.owned = true → ∃ n ∈ ts, ρ.loc n = some q) := by
 cases p with
 | val =>
  cases x with
  | s v =>
   simp only [argOf] at h
   split at h
   ·
    rename_i hn
    injection h with h; injection h with h1 h2; injection h2 with h2 h3; subst h1; subst h2; subst h3
    exact ⟨none, 0, ⟨hn, nameless hn r, rfl⟩, (fun q hq => by cases hq), by simp, (fun q hq => by cases hq)⟩
   ·
    cases h
  | t l => simp [argOf] at h
 | view k es =>
  have he := hpos k es (.inl rfl)
  cases x with
  | t l => simp [argOf] at h
  | s v =>
   cases v with
   | agg l => simp [argOf] at h
   | one a' =>
    simp only [argOf] at h
    split at h
    ·
     injection h with h; injection h with h1 h2; injection h2 with h2 h3; subst h1; subst h2; subst h3
     have hX : X = .slice none 0 0 := by simpa [RelV, RelSV, RelAt] using r
     subst hX
     exact ⟨none, 0, ⟨rfl, rfl, he, 0, by simp, none, 0, rfl, Nat.le_refl _, by simp, fun i x hx => by simp at hx, by simp⟩, (fun q hq => by cases hq), by simp, (fun q hq => by cases hq)⟩
    ·
     split at h
     ·
      rename_i k' xs hd
      split at h
      ·
       rename_i hk
       injection h with h; injection h with h1 h2; injection h2 with h2 h3; subst h1; subst h2; subst h3
       have := rkEq_iff.1 hk; subst this
       obtain ⟨m, l, hsrc, _, hl⟩ := sliceData_ok hs hI hd r
       obtain ⟨A, c, hX, hc, hA⟩ := hsrc.val
       refine ⟨l, 0, ⟨rfl, rfl, he, m, hsrc.len, A, c, hX, hc, hA, hsrc.view, ?_⟩, ?_, by simp, ?_⟩
       ·
        intro q hq
        obtain ⟨n, p, it, _, h1, h2, h3⟩ := hl q hq
        rw [h3]; exact hs.lt n it p h1 h2
       ·
        intro q hq
        obtain ⟨n, p, it, h0, h1, h2, h3⟩ := hl q hq
        exact ⟨n, p, it, by simpa [PM.owned] using h0, h1, h2, h3, by simp [PM.owned]⟩
       ·
        intro q _ h; simp [PM.owned] at h
      ·
       cases h
     ·
      cases h
 | own k es =>
  have he := hpos k es (.inr rfl)
  cases x with
  | t l => simp [argOf] at h
  | s v =>
   cases v with
   | agg l => simp [argOf] at h
   | one a' =>
    simp only [argOf] at h
    split at h
    ·
     injection h with h; injection h with h1 h2; injection h2 with h2 h3; subst h1; subst h2; subst h3
     have hX : X = .slice none 0 0 := by simpa [RelV, RelSV, RelAt] using r
     subst hX
     exact ⟨none, 0, ⟨rfl, rfl, he, 0, by simp, 0, rfl, Nat.le_refl _, fun _ => rfl, by simp, .inl ⟨rfl, rfl, rfl⟩⟩, (fun q hq => by cases hq), by simp, (fun q hq => by cases hq)⟩
    ·
     rename_i n
     split at h
     ·
      rename_i k' es' xs hi
      split at h
      ·
       rename_i hb
       injection h with h; injection h with h1 h2; injection h2 with h2 h3; subst h1; subst h2; subst h3
       simp only [Bool.and_eq_true] at hb
       have e1 := rkEq_iff.1 hb.1; have e2 := beqT hb.2; subst e1; subst e2
       have hi' := hI _ _ hi
       have r' : RelAt ρ s.S (.own n) [X] := r
       simp only [RelAt, S_of hi', Item.shape, List.cons.injEq, and_true] at r'
       obtain ⟨c, g1, g2, g3, g4⟩ := r'
       obtain ⟨_, ⟨m, pm⟩, hrow⟩ := hs.hold _ _ hi'
       rw [pm, rl_mul he.1] at g1 g2
       refine ⟨ρ.loc n, ρ.tot n, ⟨rfl, rfl, he, m, pm, c, g1, g2, g3, g4, hrow⟩, ?_, ?_, ?_⟩
       ·
        intro q hq
        exact ⟨n, q, _, by simp [PM.owned], hi', hq, rfl, fun _ => rfl⟩
       ·
        intro n' hn'
        simp only [List.mem_singleton] at hn'; subst hn'
        exact ⟨_, hi', rfl, fun q hq => hq⟩
       ·
        intro q hq _
        exact ⟨n, by simp, hq⟩
      ·
       cases h
     ·
      cases h
    ·
     cases h
 | mt =>
  cases x with
  | t l => simp [argOf] at h
  | s v =>
   cases v with
   | agg l => simp [argOf] at h
   | one a' =>
    simp only [argOf] at h
    split at h
    ·
     injection h with h; injection h with h1 h2; injection h2 with h2 h3; subst h1; subst h2; subst h3
     have hX : X = .pointer none := by simpa [RelV, RelSV, RelAt] using r
     exact ⟨none, 0, ⟨hX, rfl⟩, (fun q hq => by cases hq), by simp, (fun q hq => by cases hq)⟩
    ·
     rename_i n b f z
     split at h
     ·
      split at h
      ·
       split at h
       ·
        rename_i l hi
        split at h
        ·
         rename_i hn
         split at h
         ·
          injection h with h; injection h with h1 h2; injection h2 with h2 h3; subst h1; subst h2; subst h3
          have hi' := hI _ _ hi
          obtain ⟨pp, g1, g2, _⟩ : RelAt ρ s.S (.ptr n 0 .z z) [X] := r
          simp only [List.cons.injEq, and_true] at g2
          obtain ⟨b, T, cs, g3, g4, g5⟩ := hs.hold _ _ hi'
          rw [g3] at g1; injection g1 with g1; subst g1
          refine ⟨some (b, 0), 0, ⟨hn, b, T, cs, rfl, by rw [g2]; rfl, g4, namelessL hn g5⟩, ?_, ?_, ?_⟩
          ·
           intro q hq
           injection hq with hq; subst hq
           exact ⟨n, (b, 0), _, by simp [PM.owned], hi', g3, rfl, fun _ => rfl⟩
          ·
           intro n' hn'
           simp only [List.mem_singleton] at hn'; subst hn'
           exact ⟨_, hi', rfl, fun q hq => by rw [g3] at hq; exact hq⟩
          ·
           intro q hq _
           injection hq with hq; subst hq
           exact ⟨n, by simp, g3⟩
         ·
          cases h
        ·
         cases h
       ·
        cases h
      ·
       cases h
     ·
      cases h
    ·
     cases h
theorem argsOf_ok {w0 : World} {Mu : MuT} {ρ : Rho} {a : Act} {w : World} (hs : Sim w0 Mu ρ s a w) (hI : ∀ n it, I n = some it → s.I n = some it) :
  ∀ {ps : List PM} {xs : List AV} {Xs : List Value} {ds : List DV} {vs ts : List Nat}, (∀ p ∈ ps, ∀ k es, (p = .view k es ∨ p = .own k es) → PosK k es) → argsOf I ps xs = some (ds, vs, ts) →
   Xs.length = xs.length → (∀ (i : Nat) x X, xs[i]? = some x → Xs[i]? = some X → RelV ρ s.S x X) →
   ∃ ℓ τ, ArgsRel w ps ds Xs ℓ τ ∧ (∀ i, LocIn s ρ false (vs ++ ts) (ℓ i)) ∧ (∀ (i : Nat) p, ps[i]? = some p → p.owned = true → LocIn s ρ true ts (ℓ i)) ∧
    (∀ n ∈ ts, ∃ it, s.I n = some it ∧ it.owned = true) ∧
    (∀ n ∈ ts, ∀ q, ρ.loc n = some q → ∃ (i : Nat) (p : PM), ps[i]? = some p ∧ p.owned = true ∧ ℓ i = some q) ∧ xs.length = ps.length
 | [], [], Xs, ds, vs, ts, _, h, hl, _ => by
  simp only [argsOf] at h
  injection h with h; injection h with h1 h2; injection h2 with h2 h3; subst h1; subst h2; subst h3
  have : Xs = [] := List.eq_nil_of_length_eq_zero hl
  subst this
  exact ⟨fun _ => none, fun _ => 0, ⟨rfl, rfl, by simp, fun _ _ => rfl, by simp⟩, (fun i q hq => by cases hq), by simp, by simp, by simp, rfl⟩
 | [], _ :: _, Xs, ds, vs, ts, _, h, _, _ => by simp [argsOf] at h
 | _ :: _, [], Xs, ds, vs, ts, _, h, _, _ => by simp [argsOf] at h
 | p :: ps, x :: xs, Xs, ds, vs, ts, hp, h, hl, hr => by
  simp only [argsOf] at h
  split at h
  ·
   rename_i dv v1 t1 h1
   split at h
   ·
    rename_i ds2 v2 t2 h2
    split at h
    ·
     rename_i hd
     injection h with h; injection h with e1 e2; injection e2 with e2 e3; subst e1; subst e2; subst e3
     simp only [Bool.and_eq_true, disj_iff] at hd
     obtain ⟨hd1, hd2⟩ := hd
     cases Xs with
     | nil => simp at hl
     | cons X Xs =>
      obtain ⟨l, t, a1, a2, a3, a4⟩ := argOf_ok hs hI (hp p (by simp)) h1 (hr 0 x X rfl rfl)
      obtain ⟨ℓ, τ, b1, b2, b3, b4, b5, b6⟩ := argsOf_ok hs hI (Xs := Xs) (fun q hq => hp q (by simp [hq])) h2 (by simpa using hl) (fun i y Y hy hY => hr (i + 1) y Y (by simpa using hy) (by simpa using hY))
      have a2' : LocIn s ρ false (v1 ++ t1) l := fun q hq => by
       obtain ⟨n, p', it, g1, g2, g3, g4, _⟩ := a2 q hq
       refine ⟨n, p', it, ?_, g2, g3, g4, by simp⟩
       split at g1
       ·
        exact List.mem_append.2 (.inr g1)
       ·
        exact List.mem_append.2 (.inl g1)
      refine ⟨fun i => match i with | 0 => l | i + 1 => ℓ i, fun i => match i with | 0 => t | i + 1 => τ i, ⟨by simp [b1.lenD], by simp [b1.lenV], ?_, ?_, ?_⟩, ?_, ?_, ?_, ?_, by simp [b6]⟩
      ·
       intro i q dd u hq hdd hu
       cases i with
       | zero => simp at hq hdd hu; subst hq; subst hdd; subst hu; exact a1
       | succ i => simp at hq hdd hu; exact b1.each i q dd u hq hdd hu
      ·
       intro i hi
       cases i with
       | zero => simp at hi
       | succ i => exact b1.out i (by simpa using hi)
      ·
       intro i j q u v hij hq ho hu hv
       cases i with
       | zero =>
        cases j with
        | zero => exact absurd rfl hij
        | succ j =>
         simp only [List.getElem?_cons_zero, Option.some.injEq] at hq; subst hq
         obtain ⟨n, hn, hn2⟩ := a4 u hu ho
         obtain ⟨it, hn3, hn4, _⟩ := a3 n hn
         obtain ⟨m, p', it', c1, c2, c3, c4, _⟩ := b2 j v hv
         rw [c4]
         exact hs.sep n m it it' u p' hn3 c2 hn4 (fun e => hd1 n hn (e ▸ c1)) hn2 c3
       | succ i =>
        simp only [List.getElem?_cons_succ] at hq
        cases j with
        | zero =>
         obtain ⟨m, p', it', c1, c2, c3, c4, c5⟩ := b3 i q hq ho u hu
         obtain ⟨n, p2, it2, d1, d2, d3, d4, _⟩ := a2' v hv
         rw [c4, d4]
         refine hs.sep m n it' it2 p' p2 c2 d2 (c5 rfl) (fun e => ?_) c3 d3
         rcases List.mem_append.1 d1 with d1 | d1
         ·
          exact hd2 n d1 (e ▸ c1)
         ·
          exact hd1 n d1 (List.mem_append.2 (.inr (e ▸ c1)))
        | succ j => exact b1.sep i j q u v (by omega) hq ho hu hv
      ·
       intro i q hq
       cases i with
       | zero =>
        obtain ⟨n, p', it, g1, g2⟩ := a2' q hq
        refine ⟨n, p', it, ?_, g2⟩
        simp only [List.mem_append] at g1 ⊢
        rcases g1 with g1 | g1
        ·
         exact .inl (.inl g1)
        ·
         exact .inr (.inl g1)
       | succ i =>
        obtain ⟨n, p', it, g1, g2⟩ := b2 i q hq
        refine ⟨n, p', it, ?_, g2⟩
        simp only [List.mem_append] at g1 ⊢
        rcases g1 with g1 | g1
        ·
         exact .inl (.inr g1)
        ·
         exact .inr (.inr g1)
      ·
       intro i q hq ho u hu
       cases i with
       | zero =>
        simp only [List.getElem?_cons_zero, Option.some.injEq] at hq; subst hq
        obtain ⟨n, p', it, g1, g2, g3, g4, g5⟩ := a2 u hu
        rw [if_pos ho] at g1
        exact ⟨n, p', it, List.mem_append.2 (.inl g1), g2, g3, g4, fun _ => g5 ho⟩
       | succ i =>
        simp only [List.getElem?_cons_succ] at hq
        obtain ⟨n, p', it, g1, g2⟩ := b3 i q hq ho u hu
        exact ⟨n, p', it, List.mem_append.2 (.inr g1), g2⟩
      ·
       intro n hn
       rcases List.mem_append.1 hn with hn | hn
       ·
        obtain ⟨it, g1, g2, _⟩ := a3 n hn; exact ⟨it, g1, g2⟩
       ·
        exact b4 n hn
      ·
       intro n hn q hq
       rcases List.mem_append.1 hn with hn | hn
       ·
        obtain ⟨it, g1, g2, g3⟩ := a3 n hn
        have hl := g3 q hq
        refine ⟨0, p, rfl, ?_, hl⟩
        cases hpo : p.owned with
        | true => rfl
        | false =>
         exfalso
         cases p with
         | val =>
          cases x with
          | s v => simp only [argOf] at h1; split at h1 <;> simp_all
          | t l => simp [argOf] at h1
         | view k es =>
          cases x with
          | t l => simp [argOf] at h1
          | s v =>
           cases v with
           | agg l => simp [argOf] at h1
           | one a' =>
            simp only [argOf] at h1
            split at h1
            ·
             simp_all
            ·
             split at h1
             ·
              split at h1 <;> simp_all
             ·
              cases h1
         | own k es => simp [PM.owned] at hpo
         | mt => simp [PM.owned] at hpo
       ·
        obtain ⟨i, q', g1, g2, g3⟩ := b5 n hn q hq
        exact ⟨i + 1, q', by simpa using g1, g2, g3⟩
    ·
     cases h
   ·
    cases h
  ·
   cases h
end
section
variable {P : Program} {Γ : Ctx} {Θ : Types} {s : AS} {o : Oper} {d : Delta} {I : Nat → Option Item}
theorem resName_inj {d i j : Nat} (h : resName d i = resName d j) : i = j := by unfold resName at h; omega
theorem resOf_names {n : Nat} : ∀ {j : Nat} {rs : List RM} {outs : List DV} {vs : List SV} {its : List (Nat × Item)} {rest : List DV}, resOf n j rs outs = some (vs, its, rest) →
  (∀ m ∈ putNames its, ∃ i, j ≤ i ∧ i < j + rs.length ∧ m = resName n i) ∧ Nodup' its
 | j, [], outs, vs, its, rest, h => by
  simp only [resOf] at h
  injection h with h; injection h with h1 h2; injection h2 with h2 h3; subst h2
  exact ⟨by simp [putNames], trivial⟩
 | j, r :: rs, [], vs, its, rest, h => by simp [resOf] at h
 | j, r :: rs, out :: outs, vs, its, rest, h => by
  have step : ∀ {vs' its' rest'}, resOf n (j + 1) rs outs = some (vs', its', rest') → (∀ m ∈ putNames its', ∃ i, j ≤ i ∧ i < j + (r :: rs).length ∧ m = resName n i) ∧ Nodup' its' ∧ resName n j ∉ putNames its' := by
   intro vs' its' rest' h'
   obtain ⟨h1, h2⟩ := resOf_names h'
   refine ⟨fun m hm => ?_, h2, fun hm => ?_⟩
   ·
    obtain ⟨i, g1, g2, g3⟩ := h1 m hm
    exact ⟨i, by omega, by simp only [List.length_cons]; omega, g3⟩
   ·
    obtain ⟨i, g1, g2, g3⟩ := h1 _ hm
    have := resName_inj g3; omega
  have cons : ∀ {its'} (it : Item), (∀ m ∈ putNames its', ∃ i, j ≤ i ∧ i < j + (r :: rs).length ∧ m = resName n i) ∧ Nodup' its' ∧ resName n j ∉ putNames its' →
    (∀ m ∈ putNames ((resName n j, it) :: its'), ∃ i, j ≤ i ∧ i < j + (r :: rs).length ∧ m = resName n i) ∧ Nodup' ((resName n j, it) :: its') := by
   intro its' it ⟨h1, h2, h3⟩
   refine ⟨fun m hm => ?_, h3, h2⟩
   simp only [putNames, List.mem_cons] at hm
   rcases hm with rfl | hm
   ·
    exact ⟨j, Nat.le_refl _, by simp, rfl⟩
   ·
    exact h1 m hm
  simp only [resOf] at h
  split at h
  ·
   split at h
   ·
    split at h
    ·
     rename_i vs' its' rest' h'
     injection h with h; injection h with h1 h2; injection h2 with h2 h3; subst h2
     have := step h'; exact ⟨this.1, this.2.1⟩
    ·
     cases h
   ·
    cases h
  ·
   split at h
   ·
    split at h
    ·
     rename_i vs' its' rest' h'
     injection h with h; injection h with h1 h2; injection h2 with h2 h3; subst h2
     exact cons _ (step h')
    ·
     cases h
   ·
    cases h
  ·
   split at h
   ·
    split at h
    ·
     rename_i vs' its' rest' h'
     injection h with h; injection h with h1 h2; injection h2 with h2 h3; subst h2
     exact cons _ (step h')
    ·
     cases h
   ·
    cases h
  ·
   split at h
   ·
    rename_i vs' its' rest' h'
    injection h with h; injection h with h1 h2; injection h2 with h2 h3; subst h2
    have := step h'; exact ⟨this.1, this.2.1⟩
   ·
    cases h
  ·
   cases h
theorem resOf_ok {n : Nat} {ρ' : Rho} {S' : Sh} {w' : World} : ∀ {j : Nat} {rs : List RM} {os rest0 : List DV} {Xs : List Value} {vs : List SV} {its : List (Nat × Item)} {rest : List DV} {μ : Nat → Option (Nat × Nat)} {τ : Nat → Nat},
  resOf n j rs (os ++ rest0) = some (vs, its, rest) → os.length = rs.length → Xs.length = rs.length →
  (∀ (i : Nat) r ov x, rs[i]? = some r → os[i]? = some ov → Xs[i]? = some x → ResRel w' r ov x (μ (j + i)) (τ (j + i))) →
  (∀ i, i < rs.length → resName n (j + i) ∈ putNames its → ρ'.loc (resName n (j + i)) = μ (j + i) ∧ ρ'.tot (resName n (j + i)) = τ (j + i)) →
  (∀ m it, findI m its = some it → S' m = some it.shape) →
  rest = rest0 ∧ RelT ρ' S' vs Xs ∧ (∀ m it, findI m its = some it → HoldI ρ' S' m w' it) ∧ vs.length = rs.length
 | j, [], os, rest0, Xs, vs, its, rest, μ, τ, h, h1, h2, _, _, _ => by
  have : os = [] := List.eq_nil_of_length_eq_zero h1
  subst this
  have : Xs = [] := List.eq_nil_of_length_eq_zero h2
  subst this
  simp only [resOf, List.nil_append] at h
  injection h with h; injection h with h1 h2; injection h2 with h2 h3; subst h1; subst h2; subst h3
  exact ⟨rfl, rfl, by simp [findI], rfl⟩
 | j, r :: rs, [], rest0, Xs, vs, its, rest, μ, τ, h, h1, h2, _, _, _ => by simp at h1
 | j, r :: rs, ov :: os, rest0, [], vs, its, rest, μ, τ, h, h1, h2, _, _, _ => by simp at h2
 | j, r :: rs, ov :: os, rest0, x :: Xs, vs, its, rest, μ, τ, h, h1, h2, hres, hloc, hS => by
  have hr0 := hres 0 r ov x rfl rfl rfl
  have hl0 := hloc 0 (by simp)
  rw [Nat.add_zero] at hr0 hl0
  have hl0 : ∀ it its', its = (resName n j, it) :: its' → ρ'.loc (resName n j) = μ j ∧ ρ'.tot (resName n j) = τ j := fun it its' e => hl0 (by rw [e]; simp [putNames])
  have tail : ∀ {vs' its' rest'}, resOf n (j + 1) rs (os ++ rest0) = some (vs', its', rest') → (∀ m ∈ putNames its', m ∈ putNames its) → (∀ m it, findI m its' = some it → S' m = some it.shape) →
    rest' = rest0 ∧ RelT ρ' S' vs' Xs ∧ (∀ m it, findI m its' = some it → HoldI ρ' S' m w' it) ∧ vs'.length = rs.length := by
   intro vs' its' rest' h' hsub hS'
   refine resOf_ok (μ := μ) (τ := τ) h' (by simpa using h1) (by simpa using h2) ?_ ?_ hS'
   ·
    intro i r' o' x' a1 a2 a3
    have := hres (i + 1) r' o' x' (by simpa using a1) (by simpa using a2) (by simpa using a3)
    rwa [show j + (i + 1) = j + 1 + i by omega] at this
   ·
    intro i hi hmem
    have := hloc (i + 1) (by simp; omega)
    rw [show j + (i + 1) = j + 1 + i by omega] at this
    exact this (hsub _ hmem)
  have consS : ∀ {its' : List (Nat × Item)} {it : Item}, Nodup' ((resName n j, it) :: its') → (∀ m i, findI m ((resName n j, it) :: its') = some i → S' m = some i.shape) → (∀ m i, findI m its' = some i → S' m = some i.shape) := by
   intro its' it hnd hS m i hm
   refine hS m i ?_
   rw [findI_cons, if_neg]
   ·
    exact hm
   ·
    rintro rfl
    exact hnd.1 (putNames_iff.2 ⟨i, findI_mem hm⟩)
  have hnd := (resOf_names h).2
  simp only [resOf, List.cons_append] at h
  split at h
  ·
   rename_i sv
   split at h
   ·
    rename_i hn
    split at h
    ·
     rename_i vs' its' rest' h'
     injection h with h; injection h with e1 e2; injection e2 with e2 e3; subst e1; subst e2; subst e3
     obtain ⟨g1, g2, g3, g4⟩ := tail h' (fun m hm => hm) hS
     obtain ⟨_, hr, _⟩ := hr0
     exact ⟨g1, ⟨x, Xs, rfl, RelSV.frame (by rw [hn]; simp) hr, g2⟩, g3, by simp [g4]⟩
    ·
     cases h
   ·
    cases h
  ·
   rename_i k es k' es' xs
   split at h
   ·
    rename_i hb
    split at h
    ·
     rename_i vs' its' rest' h'
     injection h with h; injection h with e1 e2; injection e2 with e2 e3; subst e1; subst e2; subst e3
     obtain ⟨g1, g2, g3, g4⟩ := tail h' (fun m hm => .tail _ hm) (consS hnd hS)
     have hl0 := hl0 _ _ rfl
     obtain ⟨c1, c2, c3, m, c4, c, c5, c6, c7, c8, c9⟩ := hr0
     have hSn := hS (resName n j) _ (by rw [findI_cons, if_pos rfl])
     refine ⟨g1, ⟨x, Xs, rfl, ?_, g2⟩, ?_, by simp [g4]⟩
     ·
      show RelAt ρ' S' (.own (resName n j)) [x]
      simp only [RelAt, hSn, Item.shape, hl0.1, hl0.2]
      rw [c4, rl_mul c3.1]
      exact ⟨c, by rw [c5], c6, c7, c8⟩
     ·
      intro mm it hm
      rw [findI_cons] at hm
      split at hm
      ·
       rename_i e
       injection hm with hm; subst hm; subst e
       exact ⟨c3, ⟨m, c4⟩, by rw [hl0.1, hl0.2]; exact c9⟩
      ·
       exact g3 mm it hm
    ·
     cases h
   ·
    cases h
  ·
   rename_i l
   split at h
   ·
    rename_i hn
    split at h
    ·
     rename_i vs' its' rest' h'
     injection h with h; injection h with e1 e2; injection e2 with e2 e3; subst e1; subst e2; subst e3
     obtain ⟨g1, g2, g3, g4⟩ := tail h' (fun m hm => .tail _ hm) (consS hnd hS)
     have hl0 := hl0 _ _ rfl
     obtain ⟨_, b, T, cs, c1, c2, c3, c4⟩ := hr0
     have hSn := hS (resName n j) _ (by rw [findI_cons, if_pos rfl])
     refine ⟨g1, ⟨x, Xs, rfl, ?_, g2⟩, ?_, by simp [g4]⟩
     ·
      refine ⟨(b, 0), by rw [hl0.1, c1], by rw [c2]; rfl, ?_⟩
      intro sh hsh L hL
      rw [hSn] at hsh
      injection hsh with hsh; subst hsh
      simp [Item.shape, Shape.isObj]
     ·
      intro mm it hm
      rw [findI_cons] at hm
      split at hm
      ·
       rename_i e
       injection hm with hm; subst hm; subst e
       exact ⟨b, T, cs, by rw [hl0.1, c1], c3, RelL.frame (by rw [hn]; simp) c4⟩
      ·
       exact g3 mm it hm
    ·
     cases h
   ·
    cases h
  ·
   split at h
   ·
    rename_i vs' its' rest' h'
    injection h with h; injection h with e1 e2; injection e2 with e2 e3; subst e1; subst e2; subst e3
    obtain ⟨g1, g2, g3, g4⟩ := tail h' (fun m hm => hm) hS
    obtain ⟨hr, _⟩ := hr0
    exact ⟨g1, ⟨x, Xs, rfl, by rw [hr]; rfl, g2⟩, g3, by simp [g4]⟩
   ·
    cases h
  ·
   cases h
theorem tupOf_rel {ρ : Rho} {S : Sh} {vs : List SV} {Xs : List Value} (h : RelT ρ S vs Xs) : RelV ρ S (tupOf vs) (resVal Xs) := by
 cases vs with
 | nil => simp only [RelT] at h; subst h; exact ⟨[], rfl, rfl⟩
 | cons a l =>
  obtain ⟨x, r, rfl, h1, h2⟩ := h
  cases l with
  | nil => simp only [RelT] at h2; subst h2; exact h1
  | cons b l =>
   obtain ⟨y, r', rfl, h3, h4⟩ := h2
   exact ⟨x :: y :: r', rfl, x, _, rfl, h1, y, r', rfl, h3, h4⟩
theorem argsOf_get : ∀ {ps : List PM} {xs : List AV} {ds : List DV} {vs ts : List Nat} {i : Nat} {p : PM}, argsOf I ps xs = some (ds, vs, ts) → ps[i]? = some p → ∃ x dv v1 t1, xs[i]? = some x ∧ argOf I p x = some (dv, v1, t1)
 | [], xs, ds, vs, ts, i, p, _, hp => by simp at hp
 | p0 :: ps, [], ds, vs, ts, i, p, h, hp => by simp [argsOf] at h
 | p0 :: ps, x :: xs, ds, vs, ts, i, p, h, hp => by
  simp only [argsOf] at h
  split at h
  ·
   rename_i dv v1 t1 h1
   split at h
   ·
    rename_i ds2 v2 t2 h2
    cases i with
    | zero => simp at hp; subst hp; exact ⟨x, dv, v1, t1, rfl, h1⟩
    | succ i => simp at hp; obtain ⟨y, g⟩ := argsOf_get h2 hp; exact ⟨y, by simpa using g⟩
   ·
    cases h
  ·
   cases h
theorem ownsOf_get : ∀ {ps : List PM} {xs : List AV} {i n : Nat} {k : RK} {es : Nat}, ps[i]? = some (.own k es) → xs[i]? = some (.s (.one (.own n))) → n ∈ ownsOf ps xs
 | [], xs, i, n, k, es, hp, _ => by simp at hp
 | p0 :: ps, [], i, n, k, es, _, hx => by simp at hx
 | p0 :: ps, x :: xs, i, n, k, es, hp, hx => by
  cases i with
  | zero =>
   simp at hp hx; subst hp; subst hx
   simp [ownsOf]
  | succ i =>
   simp at hp hx
   have := ownsOf_get hp hx
   simp only [ownsOf]
   split
   ·
    split
    ·
     exact .tail _ this
    ·
     exact this
   ·
    exact this
theorem adr_inj {p q : Nat × Nat} {k : Nat} (h : adr p k = adr q k) : p = q := by
 unfold adr at h
 injection h with h1 h2
 exact Prod.ext h1 (by omega)
theorem own_name {w0 : World} {Mu : MuT} {ρ : Rho} {a : Act} {w : World} (hs : Sim w0 Mu ρ s a w) (hI : ∀ n it, I n = some it → s.I n = some it) {p : PM} {x : AV} {X : Value} {dv dv' : DV} {v1 t1 : List Nat} {l : Option (Nat × Nat)} {t : Nat}
  (h : argOf I p x = some (dv, v1, t1)) (ho : p.owned = true) (ha : ArgRel w p dv' X l t) (r : RelV ρ s.S x X) {q : Nat × Nat} (hq : l = some q) :
  ∃ n it, s.I n = some it ∧ it.owned = true ∧ ρ.loc n = some q ∧ ((∃ k es, p = .own k es ∧ x = .s (.one (.own n))) ∨ (p = .mt ∧ ∃ z l0, x = .s (.one (.ptr n 0 .z z)) ∧ I n = some (.obj l0))) := by
 subst hq
 cases p with
 | val => simp [PM.owned] at ho
 | view k es => simp [PM.owned] at ho
 | own k es =>
  cases x with
  | t l => simp [argOf] at h
  | s v =>
   cases v with
   | agg l => simp [argOf] at h
   | one a' =>
    simp only [argOf] at h
    split at h
    ·
     exfalso
     have hX : X = .slice none 0 0 := by simpa [RelV, RelSV, RelAt] using r
     cases dv' with
     | lst k' es' xs =>
      obtain ⟨_, _, _, m, _, c, hv, _⟩ := ha
      rw [hX] at hv; simp at hv
     | v s => exact ha
     | fr _ _ => exact ha
     | obj l => exact ha
     | nilp => exact ha
    ·
     rename_i n
     split at h
     ·
      rename_i k' es' xs hi
      have hi' := hI _ _ hi
      refine ⟨n, _, hi', rfl, ?_, .inl ⟨k, es, rfl, rfl⟩⟩
      have r' : RelAt ρ s.S (.own n) [X] := r
      simp only [RelAt, S_of hi', Item.shape, List.cons.injEq, and_true] at r'
      obtain ⟨c, g1, _⟩ := r'
      cases dv' with
      | lst k2 es2 xs2 =>
       obtain ⟨_, _, _, m, _, c', hv, _⟩ := ha
       rw [g1] at hv
       injection hv with hv _ _
       simp only [Option.map_some, Option.map_eq_some_iff] at hv
       obtain ⟨q', hq', e⟩ := hv
       rw [hq', adr_inj e]
      | v s => exact ha.elim
      | fr _ _ => exact ha.elim
      | obj l => exact ha.elim
      | nilp => exact ha.elim
     ·
      cases h
    ·
     cases h
 | mt =>
  cases x with
  | t l => simp [argOf] at h
  | s v =>
   cases v with
   | agg l => simp [argOf] at h
   | one a' =>
    simp only [argOf] at h
    split at h
    ·
     exfalso
     have hX : X = .pointer none := by simpa [RelV, RelSV, RelAt] using r
     cases dv' with
     | obj l =>
      obtain ⟨_, b, T, cs, _, hv, _⟩ := ha
      rw [hX] at hv; cases hv
     | nilp => have := ha.2; cases this
     | v s => exact ha
     | fr _ _ => exact ha
     | lst k es xs => exact ha
    ·
     rename_i n b f z
     split at h
     ·
      split at h
      ·
       split at h
       ·
        rename_i l0 hi
        have hi' := hI _ _ hi
        obtain ⟨pp, g1, g2, _⟩ : RelAt ρ s.S (.ptr n 0 .z z) [X] := r
        simp only [List.cons.injEq, and_true] at g2
        refine ⟨n, _, hi', rfl, ?_, .inr ⟨rfl, z, l0, rfl, hi⟩⟩
        cases dv' with
        | obj l =>
         obtain ⟨_, b, T, cs, hl, hv, _⟩ := ha
         injection hl with hl
         rw [hv] at g2
         injection g2 with g2
         injection g2 with g2
         simp only [Off.val, Nat.add_zero] at g2
         rw [g1, ← adr_inj g2, hl]
        | nilp => have := ha.2; cases this
        | v s => exact ha.elim
        | fr _ _ => exact ha.elim
        | lst k es xs => exact ha.elim
       ·
        cases h
      ·
       cases h
     ·
      cases h
    ·
     cases h
theorem mutsOf_get : ∀ {ps : List PM} {xs : List AV} {outs : List DV} {ms : List (Nat × Item)} {i n z : Nat}, mutsOf I ps xs outs = some ms → ps[i]? = some .mt → xs[i]? = some (.s (.one (.ptr n 0 .z z))) → n ∈ putNames ms
 | [], xs, outs, ms, i, n, z, _, hp, _ => by simp at hp
 | p0 :: ps, [], outs, ms, i, n, z, h, _, hx => by simp at hx
 | p0 :: ps, x :: xs, outs, ms, i, n, z, h, hp, hx => by
  simp only [mutsOf] at h
  cases i with
  | zero =>
   simp at hp hx; subst hp; subst hx
   simp only at h
   split at h
   ·
    cases h
   ·
    split at h
    ·
     rename_i e; cases e
    ·
     rename_i e
     injection e with e; injection e with e; injection e with e1 _ _ _; subst e1
     split at h
     ·
      split at h
      ·
       split at h
       ·
        injection h with h; subst h; simp [putNames]
       ·
        cases h
      ·
       cases h
     ·
      cases h
    ·
     cases h
  | succ i =>
   simp at hp hx
   split at h
   ·
    split at h
    ·
     cases h
    ·
     split at h
     ·
      exact mutsOf_get h hp hx
     ·
      split at h
      ·
       split at h
       ·
        split at h
        ·
         rename_i r hr
         injection h with h; subst h
         exact .tail _ (mutsOf_get hr hp hx)
        ·
         cases h
       ·
        cases h
      ·
       cases h
     ·
      cases h
   ·
    exact mutsOf_get h hp hx
theorem mutsOf_ok {w0 : World} {Mu : MuT} {ρ : Rho} {a : Act} {w w' : World} (hs : Sim w0 Mu ρ s a w) (hI : ∀ n it, I n = some it → s.I n = some it) {ℓ : Nat → Option (Nat × Nat)} {τ : Nat → Nat} :
  ∀ {j : Nat} {ps : List PM} {xs : List AV} {Xs : List Value} {ds outs : List DV} {ms : List (Nat × Item)}, mutsOf I ps xs outs = some ms → MutRel w' ℓ j ps ds outs →
   (∀ (i : Nat) p dv v, ps[i]? = some p → ds[i]? = some dv → Xs[i]? = some v → ArgRel w p dv v (ℓ (j + i)) (τ (j + i))) → Xs.length = xs.length → (∀ (i : Nat) x X, xs[i]? = some x → Xs[i]? = some X → RelV ρ s.S x X) →
   (∀ (i : Nat) p x, ps[i]? = some p → xs[i]? = some x → ∃ dv v1 t1, argOf I p x = some (dv, v1, t1)) →
   ∀ n it, findI n ms = some it → ∃ l, it = .obj l ∧ namesL l = [] ∧ (∃ l0, s.I n = some (.obj l0) ∧ formsOf l = formsOf l0) ∧ ∃ b T cs, ρ.loc n = some (b, 0) ∧ w'.heap[b]? = some (.cells cs.toArray T (0, 0)) ∧ RelL rho0 sh0 l cs
 | j, [], [], Xs, ds, outs, ms, h, _, _, _, _, _ => by
  cases outs with
  | nil => simp only [mutsOf] at h; injection h with h; subst h; intro n it hh; simp [findI] at hh
  | cons a b => simp [mutsOf] at h
 | j, [], _ :: _, Xs, ds, outs, ms, h, _, _, _, _, _ => by simp [mutsOf] at h
 | j, _ :: _, [], Xs, ds, outs, ms, h, _, _, _, _, _ => by simp [mutsOf] at h
 | j, p :: ps, x :: xs, [], ds, outs, ms, h, _, _, hl, _, _ => by simp at hl
 | j, p :: ps, x :: xs, X :: Xs, [], outs, ms, h, hm, _, _, _, _ => by simp [MutRel] at hm
 | j, p :: ps, x :: xs, X :: Xs, dv :: ds, outs, ms, h, hm, ha, hl, hr, hg => by
  have tail : ∀ {outs' ms'}, mutsOf I ps xs outs' = some ms' → MutRel w' ℓ (j + 1) ps ds outs' → ∀ n it, findI n ms' = some it → ∃ l, it = .obj l ∧ namesL l = [] ∧ (∃ l0, s.I n = some (.obj l0) ∧ formsOf l = formsOf l0) ∧ ∃ b T cs, ρ.loc n = some (b, 0) ∧ w'.heap[b]? = some (.cells cs.toArray T (0, 0)) ∧ RelL rho0 sh0 l cs := by
   intro outs' ms' h' hm'
   refine mutsOf_ok (τ := τ) hs hI h' hm' (fun i p dv v a1 a2 a3 => ?_) (by simpa using hl) (fun i y Y a1 a2 => hr (i + 1) y Y (by simpa using a1) (by simpa using a2)) (fun i p y a1 a2 => hg (i + 1) p y (by simpa using a1) (by simpa using a2))
   have := ha (i + 1) p dv v (by simpa using a1) (by simpa using a2) (by simpa using a3)
   rwa [show j + (i + 1) = j + 1 + i by omega] at this
  have ha0 := ha 0 p dv X rfl rfl rfl
  rw [Nat.add_zero] at ha0
  obtain ⟨dv', v1, t1, hg0⟩ := hg 0 p x rfl rfl
  have hr0 := hr 0 x X rfl rfl
  simp only [mutsOf] at h
  simp only [MutRel] at hm
  cases p with
  | val => exact tail h hm
  | view k es => exact tail h hm
  | own k es => exact tail h hm
  | mt =>
   simp only at h hm
   split at h
   ·
    cases h
   ·
    rename_i out outs'
    split at h
    ·
     rename_i _
     cases dv with
     | nilp =>
      obtain ⟨r, e, hm'⟩ := hm
      injection e with e1 e2; subst e2
      exact tail h hm'
     | obj l0 =>
      obtain ⟨l, r, e, _⟩ := hm
      injection e with e1 e2; cases e1
     | v s' => exact hm.elim
     | fr _ _ => exact hm.elim
     | lst k es xs' => exact hm.elim
    ·
     rename_i n b f z l
     split at h
     ·
      rename_i l0 hi
      split at h
      ·
       rename_i hb
       simp only [Bool.and_eq_true] at hb
       split at h
       ·
        rename_i r hr'
        injection h with h; subst h
        cases dv with
        | nilp =>
         obtain ⟨r2, e, _⟩ := hm
         injection e with e1 e2; cases e1
        | obj l00 =>
         obtain ⟨l', r2, e, hn, hf, ⟨b2, T, cs, hl2, hh, hrel⟩, hm'⟩ := hm
         injection e with e1 e2; injection e1 with e1; subst e1; subst e2
         intro m it hmit
         rw [findI_cons] at hmit
         split at hmit
         ·
          rename_i e; subst e
          injection hmit with hmit; subst hmit
          obtain ⟨n2, it2, _, _, hloc, hcase⟩ := own_name (ρ := ρ) (w0 := w0) (Mu := Mu) (a := a) (w := w) hs hI hg0 rfl ha0 hr0 hl2
          rcases hcase with ⟨k, es, e, _⟩ | ⟨_, z2, l02, e, hi2⟩
          ·
           cases e
          ·
           injection e with e; injection e with e; injection e with e1 _ _ _; subst e1
           exact ⟨l, rfl, hn, ⟨l0, hI _ _ hi, (formEq_forms hb.1).symm⟩, b2, T, cs, hloc, hh, hrel⟩
         ·
          exact tail hr' hm' m it hmit
        | v s' => exact hm.elim
        | fr _ _ => exact hm.elim
        | lst k es xs' => exact hm.elim
       ·
        cases h
      ·
       cases h
     ·
      cases h
    ·
     cases h
theorem evAll_length (T : Nat → AV) (l : List Operand) : (evAll (evO T) l).length = l.length := by rw [evAll_eq]; simp
theorem findI_isSome {n : Nat} {it : Item} : ∀ {l : List (Nat × Item)}, (n, it) ∈ l → (findI n l).isSome = true
 | [], h => by cases h
 | (u, v) :: l, h => by
  rw [findI_cons]
  split
  ·
   rfl
  ·
   rename_i hne
   cases h with
   | head => exact absurd rfl hne
   | tail _ h => exact findI_isSome h
theorem owns_ts {I : Nat → Option Item} : ∀ {ps : List PM} {xs : List AV} {ds : List DV} {vs ts : List Nat} {n : Nat}, argsOf I ps xs = some (ds, vs, ts) → n ∈ ownsOf ps xs → n ∈ ts
 | [], xs, ds, vs, ts, n, _, h => by simp [ownsOf] at h
 | p :: ps, [], ds, vs, ts, n, _, h => by simp [ownsOf] at h
 | p :: ps, x :: xs, ds, vs, ts, n, h, hn => by
  simp only [argsOf] at h
  split at h
  ·
   rename_i dv v1 t1 h1
   split at h
   ·
    rename_i ds2 v2 t2 h2
    split at h
    ·
     injection h with h; injection h with e1 e2; injection e2 with e2 e3; subst e3
     simp only [ownsOf] at hn
     split at hn
     ·
      split at hn
      ·
       rename_i m
       rcases List.mem_cons.1 hn with rfl | hn
       ·
        simp only [argOf] at h1
        split at h1
        ·
         split at h1
         ·
          injection h1 with h1; injection h1 with _ h1; injection h1 with _ h1; subst h1; simp
         ·
          cases h1
        ·
         cases h1
       ·
        exact List.mem_append.2 (.inr (owns_ts h2 hn))
      ·
       exact List.mem_append.2 (.inr (owns_ts h2 hn))
     ·
      exact List.mem_append.2 (.inr (owns_ts h2 hn))
    ·
     cases h
   ·
    cases h
  ·
   cases h
theorem muts_ts {I : Nat → Option Item} : ∀ {ps : List PM} {xs : List AV} {ds outs : List DV} {vs ts : List Nat} {ms : List (Nat × Item)} {n : Nat}, argsOf I ps xs = some (ds, vs, ts) → mutsOf I ps xs outs = some ms → n ∈ putNames ms → n ∈ ts
 | [], [], ds, outs, vs, ts, ms, n, _, h, hn => by
  cases outs with
  | nil => simp only [mutsOf] at h; injection h with h; subst h; simp [putNames] at hn
  | cons a b => simp [mutsOf] at h
 | [], _ :: _, ds, outs, vs, ts, ms, n, h, _, _ => by simp [argsOf] at h
 | _ :: _, [], ds, outs, vs, ts, ms, n, h, _, _ => by simp [argsOf] at h
 | p :: ps, x :: xs, ds, outs, vs, ts, ms, n, h, hm, hn => by
  simp only [argsOf] at h
  split at h
  ·
   rename_i dv v1 t1 h1
   split at h
   ·
    rename_i ds2 v2 t2 h2
    split at h
    ·
     injection h with h; injection h with e1 e2; injection e2 with e2 e3; subst e3
     simp only [mutsOf] at hm
     split at hm
     ·
      split at hm
      ·
       cases hm
      ·
       split at hm
       ·
        exact List.mem_append.2 (.inr (muts_ts h2 hm hn))
       ·
        rename_i m b f z l
        split at hm
        ·
         split at hm
         ·
          split at hm
          ·
           rename_i r hr
           injection hm with hm; subst hm
           simp only [putNames, List.mem_cons] at hn
           rcases hn with rfl | hn
           ·
            refine List.mem_append.2 (.inl ?_)
            simp only [argOf] at h1
            repeat (split at h1; first | (cases h1; done) | skip)
            all_goals first
             | (injection h1 with h1; injection h1 with _ h1; injection h1 with _ h1; subst h1; simp; done)
             | cases h1
           ·
            exact List.mem_append.2 (.inr (muts_ts h2 hr hn))
          ·
           cases hm
         ·
          cases hm
        ·
         cases hm
       ·
        cases hm
     ·
      exact List.mem_append.2 (.inr (muts_ts h2 hm hn))
    ·
     cases h
   ·
    cases h
  ·
   cases h
theorem owns_not_mut {I : Nat → Option Item} : ∀ {ps : List PM} {xs : List AV} {ds outs : List DV} {vs ts : List Nat} {ms : List (Nat × Item)} {n : Nat}, argsOf I ps xs = some (ds, vs, ts) → mutsOf I ps xs outs = some ms → n ∈ ownsOf ps xs → n ∈ putNames ms → False
 | [], xs, ds, outs, vs, ts, ms, n, _, _, h, _ => by simp [ownsOf] at h
 | p :: ps, [], ds, outs, vs, ts, ms, n, _, _, h, _ => by simp [ownsOf] at h
 | p :: ps, x :: xs, ds, outs, vs, ts, ms, n, h, hm, ho, hn => by
  simp only [argsOf] at h
  split at h
  ·
   rename_i dv v1 t1 h1
   split at h
   ·
    rename_i ds2 v2 t2 h2
    split at h
    ·
     rename_i hd
     simp only [Bool.and_eq_true, disj_iff] at hd
     simp only [mutsOf] at hm
     simp only [ownsOf] at ho
     split at hm
     ·
      simp only at ho
      split at hm
      ·
       cases hm
      ·
       split at hm
       ·
        exact owns_not_mut h2 hm ho hn
       ·
        rename_i m b f z l
        split at hm
        ·
         split at hm
         ·
          split at hm
          ·
           rename_i r hr
           injection hm with hm; subst hm
           simp only [putNames, List.mem_cons] at hn
           rcases hn with rfl | hn
           ·
            have ht : n ∈ t1 := by
             simp only [argOf] at h1
             repeat (split at h1; first | (cases h1; done) | skip)
             all_goals first
              | (injection h1 with h1; injection h1 with _ h1; injection h1 with _ h1; subst h1; simp; done)
              | cases h1
            exact hd.1 n ht (List.mem_append.2 (.inr (owns_ts h2 ho)))
           ·
            exact owns_not_mut h2 hr ho hn
          ·
           cases hm
         ·
          cases hm
        ·
         cases hm
       ·
        cases hm
     ·
      split at ho
      ·
       split at ho
       ·
        rename_i m
        rcases List.mem_cons.1 ho with rfl | ho
        ·
         have ht : n ∈ t1 := by
          simp only [argOf] at h1
          split at h1
          ·
           split at h1
           ·
            injection h1 with h1; injection h1 with _ h1; injection h1 with _ h1; subst h1; simp
           ·
            cases h1
          ·
           cases h1
         exact hd.1 n ht (List.mem_append.2 (.inr (muts_ts h2 hm hn)))
        ·
         exact owns_not_mut h2 hm ho hn
       ·
        exact owns_not_mut h2 hm ho hn
      ·
       exact owns_not_mut h2 hm ho hn
    ·
     cases h
   ·
    cases h
  ·
   cases h
theorem wp_callP (hΓ : CtxOk P Γ) (hI : ∀ n it, I n = some it → s.I n = some it) {c : Call} {g : Nat} {fi : FI} (hf : findF g Γ = some fi) (hk : fi.kind = .plain) (hdst : ∀ n, o.dst = some n → s.Dst n) (ho : o.op = .call c)
  (hrun : ∀ w0 Mu ρ a w, Sim w0 Mu ρ s a w → (execOp a.eval o).run P w = (callFunc g (c.args.map a.eval)).run P w)
  (h : (callP I fi o.dst g (evAll (evO s.T) c.args.toList)).Out P Γ d) : WpStep P s o d := by
 unfold callP at h
 split at h
 ·
  rename_i n hd
  split at h
  ·
   rename_i ds vs1 ts1 hargs
   obtain ⟨fi', outs, hf', hout, h⟩ := h
   rw [hf] at hf'; injection hf' with hf'; subst hf'
   have hout : Outcome P g fi.sig ds outs := by unfold OutK at hout; rw [hk] at hout; exact hout
   simp only at h
   split at h
   ·
    rename_i svs its rest hres
    split at h
    ·
     rename_i ms hms
     split at h
     ·
      rename_i hdisj
      simp only [D.Out] at h; subst h
      have hsig := sig_pos (hΓ g fi hf).2
      intro w0 Mu ρ a w Q hs
      have hXlen : (c.args.toList.map a.eval).length = (evAll (evO s.T) c.args.toList).length := by rw [evAll_length]; simp
      have hXrel : ∀ (i : Nat) x X, (evAll (evO s.T) c.args.toList)[i]? = some x → (c.args.toList.map a.eval)[i]? = some X → RelV ρ s.S x X := by
       intro i x X h1 h2
       rw [evAll_eq, List.getElem?_map] at h1
       rw [List.getElem?_map] at h2
       simp only [Option.map_eq_some_iff] at h1 h2
       obtain ⟨p1, e1, rfl⟩ := h1
       obtain ⟨p2, e2, rfl⟩ := h2
       rw [e1] at e2; injection e2 with e2; subst e2
       exact relEv hs p1
      obtain ⟨ℓ, τ, hA, hin, hown, htown, htloc, hlen⟩ := argsOf_ok hs hI hsig hargs hXlen hXrel
      have hcalls := hout w (c.args.toList.map a.eval) ℓ τ hA
      have harr : c.args.map a.eval = (c.args.toList.map a.eval).toArray := by apply Array.ext'; simp
      have key : ∀ v w', Post w w' fi.sig ds outs ℓ v → ∃ ρ', Sim w0 Mu ρ' (s.apply { tmp := some (n, tupOf svs), fresh := its, put := ms, gone := ownsOf fi.sig.ps (evAll (evO s.T) c.args.toList) }) (a.put o.dst v) w' := ?_
      ·
       unfold Oper.wp
       rw [hrun w0 Mu ρ a w hs]
       rcases hcalls with ⟨⟨fn, hfn, hbody, hname⟩, hcalls⟩ | ⟨v, hrunv, hp⟩
       ·
        have hcf : (callFunc g (c.args.map a.eval)).run P w = .ok (.enter g (c.args.map a.eval)) w := by
         have hbn : ¬ fn.body = none := by intro e; rw [e] at hbody; simp at hbody
         simp [callFunc, hfn, hname, hbn]
        rw [hcf, Oper.upon_enter, harr]
        refine hcalls.mono fun e w' hpost => ?_
        obtain ⟨v, rfl, hp⟩ := hpost
        exact key v w' hp
       ·
        rw [harr, hrunv, Oper.upon_value]
        exact key v w hp
      intro v w' hp
      obtain ⟨Xs, os, ms', μ, τ', hv, houts, hos, hXs, hresrel, hμ, hμsep, hmut⟩ := hp.ex
      subst hv
      obtain ⟨hnames, hnd⟩ := resOf_names hres
      let idx : Nat → Nat := fun m => (m - n) / 4096
      have hidx : ∀ j, idx (resName n j) = j := fun j => by simp only [idx, resName]; omega
      let ρ' : Rho := { loc := fun m => if m ∈ putNames its then μ (idx m) else ρ.loc m, tot := fun m => if m ∈ putNames its then τ' (idx m) else ρ.tot m, out := ρ.out }
      have hρ : ∀ m, m ∉ putNames its → ρ'.loc m = ρ.loc m ∧ ρ'.tot m = ρ.tot m := fun m hm => by simp [ρ', hm]
      have hget : ∀ (i : Nat) p x, fi.sig.ps[i]? = some p → (evAll (evO s.T) c.args.toList)[i]? = some x → ∃ dv v1 t1, argOf I p x = some (dv, v1, t1) := by
       intro i p x h1 h2
       obtain ⟨y, dv, v1, t1, e1, e2⟩ := argsOf_get hargs h1
       rw [e1] at h2; injection h2 with h2; subst h2
       exact ⟨dv, v1, t1, e2⟩
      have hrest : rest = ms' := by
       have := resOf_ok (ρ' := { loc := fun m => μ (idx m), tot := fun m => τ' (idx m) }) (S' := fun m => (findI m its).map Item.shape) (w' := w') (μ := μ) (τ := τ') (by rw [← houts]; exact hres) hos hXs (fun i r ov x a1 a2 a3 => by rw [Nat.zero_add]; exact hresrel i r ov x a1 a2 a3) (fun i hi _ => by simp [hidx]) (fun m it hm => by simp [hm])
       exact this.1
      rw [hrest] at hms
      have hmuts := mutsOf_ok (τ := τ) hs hI hms hmut (fun i p dv v a1 a2 a3 => by rw [Nat.zero_add]; exact hA.each i p dv v a1 a2 a3) hXlen hXrel hget
      have hfp : ∀ m it, findI m ms = some it → m ∉ putNames its := fun m it hm hin => disj_iff.1 hdisj m hin (putNames_iff.2 ⟨it, findI_mem hm⟩)
      have hownb : ∀ b, OwnB fi.sig.ps ℓ b → ∃ m it q, s.I m = some it ∧ it.owned = true ∧ ρ.loc m = some q ∧ q.1 = b ∧ (m ∈ ownsOf fi.sig.ps (evAll (evO s.T) c.args.toList) ∨ m ∈ putNames ms) := by
       rintro b ⟨i, p, q, h1, h2, h3, h4⟩
       obtain ⟨y, dv, v1, t1, e1, e2⟩ := argsOf_get hargs h1
       obtain ⟨X, hX⟩ : ∃ X, (c.args.toList.map a.eval)[i]? = some X := by
        have hi := (List.getElem?_eq_some_iff.1 e1).1
        exact ⟨_, List.getElem?_eq_getElem (by rw [hXlen]; exact hi)⟩
       obtain ⟨dd, hdd⟩ : ∃ dd, ds[i]? = some dd := by
        have hi := (List.getElem?_eq_some_iff.1 h1).1
        exact ⟨_, List.getElem?_eq_getElem (by rw [hA.lenD]; exact hi)⟩
       obtain ⟨m, it, g1, g2, g3, g4⟩ := own_name (ρ := ρ) (w0 := w0) (Mu := Mu) (a := a) (w := w) hs hI e2 h2 (hA.each i p dd X h1 hdd hX) (hXrel i y X e1 hX) h3
       refine ⟨m, it, q, g1, g2, g3, h4, ?_⟩
       rcases g4 with ⟨k, es, rfl, rfl⟩ | ⟨rfl, z, l0, rfl, _⟩
       ·
        exact .inl (ownsOf_get h1 e1)
       ·
        exact .inr (mutsOf_get hms h1 e1)
      have good : Good ρ ρ' s { tmp := some (n, tupOf svs), fresh := its, put := ms, gone := ownsOf fi.sig.ps (evAll (evO s.T) c.args.toList) } w w' := by
       refine ⟨hnd, fun m hm => hρ m hm, ?_, ?_, hp.size, fun m hm => by
        obtain ⟨i, hi1, hi2, rfl⟩ := hnames m hm
        have h1 := (hdst n hd).2
        have h2 : i ≤ 64 := by
         have h3 := (hΓ g fi hf).2
         simp only [sigOk, Bool.and_eq_true] at h3
         have h4 := ble_iff.1 h3.1
         omega
        unfold resName hiN; omega, hp.still, rfl⟩
       ·
        intro m it hm
        obtain ⟨l, rfl, hn, ⟨l0, h1, h2⟩, _⟩ := hmuts m it hm
        exact ⟨_, h1, by simp [Item.shape, h2], rfl, hfp m _ hm⟩
       ·
        intro m it p hm _ hnp hng hloc
        refine hp.frame p.1 (hs.lt m it p hm hloc) fun hb => ?_
        obtain ⟨m2, it2, q, g1, g2, g3, g4, g5⟩ := hownb _ hb
        by_cases he : m2 = m
        ·
         subst he
         rcases g5 with g5 | g5
         ·
          exact hng g5
         ·
          obtain ⟨it3, h3⟩ := putNames_iff.1 g5
          have : findI m2 ms ≠ none := by
           intro hnone
           have := findI_isSome h3
           rw [hnone] at this; cases this
          exact this hnp
        ·
         exact hs.sep m2 m it2 it q p g1 hm g2 he g3 hloc g4
      have hSfresh : ∀ m it, findI m its = some it → (s.apply { tmp := some (n, tupOf svs), fresh := its, put := ms, gone := ownsOf fi.sig.ps (evAll (evO s.T) c.args.toList) }).S m = some it.shape := by
       intro m it hm
       apply S_of
       unfold AS.I AS.apply
       rw [findI_append, hm]
      obtain ⟨_, hrel, hhold, _⟩ := resOf_ok (ρ' := ρ') (S' := (s.apply { tmp := some (n, tupOf svs), fresh := its, put := ms, gone := ownsOf fi.sig.ps (evAll (evO s.T) c.args.toList) }).S) (w' := w') (μ := μ) (τ := τ') (by rw [← houts]; exact hres) hos hXs
       (fun i r ov x a1 a2 a3 => by rw [Nat.zero_add]; exact hresrel i r ov x a1 a2 a3) (fun i hi hmem => by rw [Nat.zero_add] at hmem ⊢; simp [ρ', hmem, hidx]) hSfresh
      refine ⟨ρ', sim_step hs good ?_ ?_ hhold ?_ ?_ ?_⟩
      ·
       intro t v' e
       injection e with e; injection e with e1 e2; subst e1; subst e2
       exact ⟨(hdst _ hd).1, resVal Xs, tupOf_rel hrel, put_eq hd⟩
      ·
       intro e; cases e
      ·
       intro m it hm
       obtain ⟨l, rfl, hn, _, b, T, cs, h1, h2, h3⟩ := hmuts m it hm
       exact ⟨b, T, cs, by rw [(hρ m (hfp m _ hm)).1]; exact h1, h2, h3.frame (by rw [hn]; simp)⟩
      ·
       intro m it p hm hloc
       have hmem : m ∈ putNames its := putNames_iff.2 ⟨it, findI_mem hm⟩
       have hloc' : μ (idx m) = some p := by simpa [ρ', hmem] using hloc
       obtain ⟨g1, g2, g3⟩ := hμ _ _ hloc'
       have hother : ∀ k jt q, s.I k = some jt → k ∉ ownsOf fi.sig.ps (evAll (evO s.T) c.args.toList) → ρ.loc k = some q → p.1 ≠ q.1 := by
        intro k jt q hk hng hq
        rcases g3 with g3 | ⟨i, kk, es, pp, h1, h2, h3⟩
        ·
         have := hs.lt k jt q hk hq; omega
        ·
         have : OwnB fi.sig.ps ℓ p.1 := ⟨i, _, pp, h1, rfl, h2, h3⟩
         obtain ⟨y, dv, v1, t1, e1, e2⟩ := argsOf_get hargs h1
         obtain ⟨X, hX⟩ : ∃ X, (c.args.toList.map a.eval)[i]? = some X := by
          have hi := (List.getElem?_eq_some_iff.1 e1).1
          exact ⟨_, List.getElem?_eq_getElem (by rw [hXlen]; exact hi)⟩
         obtain ⟨dd, hdd⟩ : ∃ dd, ds[i]? = some dd := by
          have hi := (List.getElem?_eq_some_iff.1 h1).1
          exact ⟨_, List.getElem?_eq_getElem (by rw [hA.lenD]; exact hi)⟩
         obtain ⟨m2, it2, c1, c2, c3, c4⟩ := own_name (ρ := ρ) (w0 := w0) (Mu := Mu) (a := a) (w := w) hs hI e2 rfl (hA.each i _ dd X h1 hdd hX) (hXrel i y X e1 hX) h2
         rcases c4 with ⟨k2, es2, e, rfl⟩ | ⟨e, _⟩
         ·
          rw [← h3]
          exact hs.sep m2 k it2 jt pp q c1 hk c2 (fun e => hng (e ▸ ownsOf_get h1 e1)) c3 hq
         ·
          cases e
       refine ⟨g2, ?_, ?_⟩
       ·
        rcases g3 with g3 | ⟨i, kk, es, pp, h1, h2, h3⟩
        ·
         exact .inl (Nat.le_trans hs.mono g3)
        ·
         obtain ⟨m2, it2, q, c1, c2, c3, c4, _⟩ := hownb p.1 ⟨i, _, pp, h1, rfl, h2, h3⟩
         rw [← c4]; exact hs.own m2 it2 q c1 c2 c3
       ·
        intro k jt q hk hne hq
        rcases AS.apply_I hs.nd hk with h4 | ⟨h5, _, h4 | ⟨h6, h7, h4⟩⟩
        ·
         have hmem2 : k ∈ putNames its := putNames_iff.2 ⟨jt, findI_mem h4⟩
         have hq' : μ (idx k) = some q := by simpa [ρ', hmem2] using hq
         refine hμsep _ _ _ _ (fun e => hne ?_) hloc' hq'
         obtain ⟨i1, _, _, e1⟩ := hnames m hmem
         obtain ⟨i2, _, _, e2⟩ := hnames k hmem2
         rw [e1, e2, hidx, hidx] at e
         rw [e1, e2, e]
        ·
         rw [(hρ k h5).1] at hq
         obtain ⟨l, e, _, ⟨l0, hk0, _⟩, _⟩ := hmuts k jt h4
         refine hother k _ q hk0 (fun hin => ?_) hq
         exact owns_not_mut hargs hms hin (putNames_iff.2 ⟨jt, findI_mem h4⟩)
        ·
         rw [(hρ k h5).1] at hq
         exact hother k jt q h4 h7 hq
      ·
       intro b hb hm
       refine hp.frame b (Nat.lt_of_lt_of_le hb hs.mono) fun hbo => ?_
       obtain ⟨m2, it2, q, c1, c2, c3, c4, _⟩ := hownb b hbo
       rcases hs.own m2 it2 q c1 c2 c3 with h | h
       ·
        omega
       ·
        exact hm (c4 ▸ h)
     ·
      exact h.elim
    ·
     exact h.elim
   ·
    exact h.elim
  ·
   exact h.elim
 ·
  exact h.elim
end
section
variable {P : Program} {Γ : Ctx} {Θ : Types} {s : AS} {o : Oper} {d : Delta} {I : Nat → Option Item}
theorem wp_convert (hΘ : TypesOk P Θ) (hI : ∀ n it, I n = some it → s.I n = some it) (hdst : ∀ n, o.dst = some n → s.Dst n) {st dt : Nat} {x : Operand} (ho : o.op = .convert st dt x)
  (h : (stepCore Θ Γ (.convert st dt x) o.dst (evO s.T) I).Out P Γ d) : WpStep P s o d := by
 simp only [stepCore] at h
 split at h
 ·
  rename_i k sd k' n ht hst hx
  exact (val_convert_int hΘ ho ht hst hx h).wp (fun n hn => (hdst n hn).1)
 ·
  exact h.elim
end
section
variable {P : Program} {Γ : Ctx} {Θ : Types} {s : AS} {o : Oper} {d : Delta} {I : Nat → Option Item}
structure Ren (f : Nat → Nat) (ρ ρ' : Rho) (S S' : Sh) (n : Nat) : Prop where
 loc : ρ'.loc (f n) = ρ.loc n
 tot : ρ'.tot (f n) = ρ.tot n
 sh : S' (f n) = S n ∨ S' (f n) = none
theorem RelAt.ren {f : Nat → Nat} {ρ ρ' : Rho} {S S' : Sh} {a : At} {cs : List Value} (h : ∀ n ∈ a.names, Ren f ρ ρ' S S' n) (r : RelAt ρ S a cs) : RelAt ρ' S' (rnA f a) cs := by
 cases a with
 | own n =>
  obtain ⟨h1, h2, h3⟩ := h n (by simp [At.names])
  simp only [RelAt, rnA] at r ⊢
  rcases h3 with h3 | h3
  ·
   rw [h3, h1, h2]; exact r
  ·
   rw [h3]
   split at r
   ·
    obtain ⟨c, e, _⟩ := r; exact ⟨_, e, rfl⟩
   ·
    obtain ⟨A, c, e, _⟩ := r; exact ⟨_, e, rfl⟩
   ·
    obtain ⟨c, e, _⟩ := r; exact ⟨_, e, rfl⟩
   ·
    obtain ⟨A, c, e, _⟩ := r; exact ⟨_, e, rfl⟩
   ·
    exact r
 | slc n base o es len cap =>
  obtain ⟨h1, h2, h3⟩ := h n (by simp [At.names])
  simp only [RelAt, rnA] at r ⊢
  obtain ⟨A, c, e1, e2, e3, e4, e5, e6⟩ := r
  refine ⟨A, c, e1, e2, e3, by rw [h1]; exact e4, e5, ?_⟩
  intro sh hs
  rcases h3 with h3 | h3
  ·
   rw [h3] at hs; exact e6 sh hs
  ·
   rw [h3] at hs; cases hs
 | ptr n base o z =>
  obtain ⟨h1, h2, h3⟩ := h n (by simp [At.names])
  simp only [RelAt, rnA] at r ⊢
  obtain ⟨p, e1, e2, e3⟩ := r
  refine ⟨p, by rw [h1]; exact e1, e2, ?_⟩
  intro sh hs
  rcases h3 with h3 | h3
  ·
   rw [h3] at hs; exact e3 sh hs
  ·
   rw [h3] at hs; cases hs
 | int k n => exact r
 | bool b => exact r
 | flt f b => exact r
 | ints k m xs => exact r
 | nils => exact r
 | nilp => exact r
 | mapv n =>
  obtain ⟨h1, h2, h3⟩ := h n (by simp [At.names])
  obtain ⟨p, e1, e2⟩ := r
  exact ⟨p, by rw [h1]; exact e1, e2⟩
 | raw v => exact r
 | dead => exact r
theorem RelL.ren {f : Nat → Nat} {ρ ρ' : Rho} {S S' : Sh} : ∀ {l : List At} {cs : List Value}, (∀ n ∈ namesL l, Ren f ρ ρ' S S' n) → RelL ρ S l cs → RelL ρ' S' (rnL f l) cs
 | [], _, _, r => r
 | a :: l, cs, h, ⟨c1, c2, e, r1, r2⟩ => ⟨c1, c2, e, r1.ren fun n hn => h n (by simp [namesL, hn]), r2.ren fun n hn => h n (by simp [namesL, hn])⟩
theorem RelSV.ren {f : Nat → Nat} {ρ ρ' : Rho} {S S' : Sh} {v : SV} {x : Value} (h : ∀ n ∈ v.names, Ren f ρ ρ' S S' n) (r : RelSV ρ S v x) : RelSV ρ' S' (rnS f v) x := by
 cases v with
 | one a =>
  have h' : ∀ n ∈ a.names, Ren f ρ ρ' S S' n := h
  cases a <;> first
   | exact r
   | exact RelAt.ren h' r
 | agg l =>
  obtain ⟨cs, e, r⟩ := r
  exact ⟨cs, e, r.ren h⟩
theorem RelT.ren {f : Nat → Nat} {ρ ρ' : Rho} {S S' : Sh} : ∀ {l : List SV} {cs : List Value}, (∀ n ∈ namesS l, Ren f ρ ρ' S S' n) → RelT ρ S l cs → RelT ρ' S' (rnSs f l) cs
 | [], _, _, r => r
 | a :: l, cs, h, ⟨c1, c2, e, r1, r2⟩ => ⟨c1, c2, e, r1.ren fun n hn => h n (by simp [namesS, hn]), r2.ren fun n hn => h n (by simp [namesS, hn])⟩
theorem RelV.ren {f : Nat → Nat} {ρ ρ' : Rho} {S S' : Sh} {v : AV} {x : Value} (h : ∀ n ∈ v.names, Ren f ρ ρ' S S' n) (r : RelV ρ S v x) : RelV ρ' S' (rnV f v) x := by
 cases v with
 | s v => exact RelSV.ren (ρ := ρ) (S := S) h r
 | t l => obtain ⟨vs, e, r⟩ := r; exact ⟨vs, e, r.ren h⟩
theorem rnL_length (f : Nat → Nat) : ∀ l, (rnL f l).length = l.length
 | [] => rfl
 | a :: l => by simp [rnL, rnL_length f l]
theorem formsOf_rnL (f : Nat → Nat) : ∀ l, formsOf (rnL f l) = formsOf l
 | [] => rfl
 | a :: l => by
  simp only [rnL, formsOf, formsOf_rnL f l]
  cases a <;> rfl
theorem rnI_shape (f : Nat → Nat) (it : Item) : (rnI f it).shape = it.shape := by
 cases it with
 | obj l => simp [rnI, Item.shape, formsOf_rnL]
 | tab l => simp [rnI, Item.shape, rnL_length]
 | row k es xs => rfl
 | view k es xs => rfl
 | dview k es rows => rfl
 | mp kk vk l => rfl
theorem rnI_owned (f : Nat → Nat) (it : Item) : (rnI f it).owned = it.owned := by cases it <;> rfl
theorem owned_of_shape {it it' : Item} (h : it.shape = it'.shape) : it.owned = it'.owned := by
 cases it <;> cases it' <;> first | rfl | (simp [Item.shape] at h; done)
theorem own?_owned (it : Item) : it.own? = it.owned := by cases it <;> rfl
theorem rnA_cell1 (f : Nat → Nat) (a : At) : (rnA f a).cell1 = a.cell1 := by cases a <;> rfl
theorem rnL_cell1 (f : Nat → Nat) : ∀ {l : List At}, (∀ a ∈ l, a.cell1 = true) → ∀ a ∈ rnL f l, a.cell1 = true
 | [], _, a, h => by cases h
 | b :: l, hl, a, h => by
  rcases List.mem_cons.1 h with rfl | h
  ·
   rw [rnA_cell1]; exact hl b (.head _)
  ·
   exact rnL_cell1 f (fun c hc => hl c (.tail _ hc)) a h
theorem HoldI.ren {f : Nat → Nat} {ρ ρ' : Rho} {S S' : Sh} {n : Nat} {w : World} {it : Item} (hn : ρ'.loc (f n) = ρ.loc n ∧ ρ'.tot (f n) = ρ.tot n)
  (h : ∀ m ∈ it.names, Ren f ρ ρ' S S' m) (hnd : ∀ k es rows, it ≠ .dview k es rows) (r : HoldI ρ S n w it) : HoldI ρ' S' (f n) w (rnI f it) := by
 cases it with
 | dview k es rows => exact absurd rfl (hnd k es rows)
 | mp kk vk l =>
  obtain ⟨b, es, c, h1, h2⟩ := r
  exact ⟨b, es, c, by rw [hn.1]; exact h1, h2⟩
 | obj l =>
  obtain ⟨b, T, cs, e, e2, r⟩ := r
  exact ⟨b, T, cs, by rw [hn.1]; exact e, e2, r.ren h⟩
 | row k es xs =>
  obtain ⟨e0, em, r⟩ := r
  refine ⟨e0, em, ?_⟩
  rw [hn.1, hn.2]; exact r
 | view k es xs =>
  obtain ⟨e0, em, r⟩ := r
  refine ⟨e0, em, ?_⟩
  rw [hn.1]; exact r
 | tab l =>
  obtain ⟨e0, r⟩ := r
  refine ⟨rnL_cell1 f e0, ?_⟩
  rw [hn.1, hn.2]
  rcases r with ⟨r1, r2, r3⟩ | ⟨b, T, cs, sp, e, e2, r, e3⟩
  ·
   exact .inl ⟨r1, by rw [r2]; rfl, r3⟩
  ·
   exact .inr ⟨b, T, cs, sp, e, e2, r.ren h, by rw [rnL_length]; exact e3⟩
theorem lookN_mem {n c : Nat} : ∀ {m : List (Nat × Nat)}, lookN n m = some c → (n, c) ∈ m
 | [], h => by simp [lookN] at h
 | (u, v) :: m, h => by
  simp only [lookN] at h
  split at h
  ·
   rename_i e; injection h with h; subst h; rw [beqT e]; exact .head _
  ·
   exact .tail _ (lookN_mem h)
theorem mem_fsts {n c : Nat} : ∀ {m : List (Nat × Nat)}, (n, c) ∈ m → n ∈ fsts m
 | (u, v) :: m, h => by
  rcases List.mem_cons.1 h with e | h
  ·
   injection e with e1 e2; subst e1; exact .head _
  ·
   exact .tail _ (mem_fsts h)
theorem mem_snds {n c : Nat} : ∀ {m : List (Nat × Nat)}, (n, c) ∈ m → c ∈ snds m
 | (u, v) :: m, h => by
  rcases List.mem_cons.1 h with e | h
  ·
   injection e with e1 e2; subst e2; exact .head _
  ·
   exact .tail _ (mem_snds h)
theorem fsts_mem {n : Nat} : ∀ {m : List (Nat × Nat)}, n ∈ fsts m → ∃ c, (n, c) ∈ m
 | (u, v) :: m, h => by
  rcases List.mem_cons.1 h with rfl | h
  ·
   exact ⟨v, .head _⟩
  ·
   obtain ⟨c, hc⟩ := fsts_mem h; exact ⟨c, .tail _ hc⟩
theorem nodupB_cons {a : Nat} {l : List Nat} (h : nodupB (a :: l) = true) : a ∉ l ∧ nodupB l = true := by
 simp only [nodupB, Bool.and_eq_true] at h
 obtain ⟨h1, h2⟩ := h
 refine ⟨fun hm => ?_, h2⟩
 rw [memN_iff.2 hm] at h1; cases h1
theorem lookN_of {n c : Nat} : ∀ {m : List (Nat × Nat)}, nodupB (fsts m) = true → (n, c) ∈ m → lookN n m = some c
 | (u, v) :: m, hd, h => by
  obtain ⟨h1, h2⟩ := nodupB_cons hd
  simp only [lookN]
  rcases List.mem_cons.1 h with e | h
  ·
   injection e with e1 e2; subst e1; subst e2; simp
  ·
   have : n ≠ u := fun e => h1 (e ▸ mem_fsts h)
   rw [beqF this]; exact lookN_of h2 h
theorem turn_mem {n c : Nat} : ∀ {m : List (Nat × Nat)}, (c, n) ∈ turnM m ↔ (n, c) ∈ m
 | [] => by simp [turnM]
 | (u, v) :: m => by
  simp only [turnM, List.mem_cons, turn_mem (m := m), Prod.mk.injEq]
  exact ⟨fun h => h.elim (fun h => .inl ⟨h.2, h.1⟩) .inr, fun h => h.elim (fun h => .inl ⟨h.2, h.1⟩) .inr⟩
theorem fsts_turn : ∀ m : List (Nat × Nat), fsts (turnM m) = snds m
 | [] => rfl
 | (u, v) :: m => by simp [turnM, fsts, snds, fsts_turn m]
theorem lookN_turn {m : List (Nat × Nat)} (hd : nodupB (snds m) = true) {n c : Nat} (h : (n, c) ∈ m) : lookN c (turnM m) = some n :=
 lookN_of (by rw [fsts_turn]; exact hd) (turn_mem.2 h)
theorem nodupI : ∀ {l : List (Nat × Item)}, nodupB (putNames l) = true → Nodup' l
 | [], _ => trivial
 | (u, v) :: l, h => by
  obtain ⟨h1, h2⟩ := nodupB_cons h
  exact ⟨h1, nodupI h2⟩
theorem findI_of {c : Nat} {it : Item} : ∀ {l : List (Nat × Item)}, Nodup' l → (c, it) ∈ l → findI c l = some it
 | (u, v) :: l, ⟨h1, h2⟩, h => by
  rw [findI_cons]
  rcases List.mem_cons.1 h with e | h
  ·
   injection e with e1 e2; subst e1; subst e2; rw [if_pos rfl]
  ·
   have : c ≠ u := fun e => h1 (e ▸ putNames_iff.2 ⟨it, h⟩)
   rw [if_neg this]; exact findI_of h2 h
theorem takeI_spec {f : Nat → Nat} : ∀ {m : List (Nat × Nat)} {its : List (Nat × Item)}, takeI I f m = some its → putNames its = snds m ∧ (∀ n c, (n, c) ∈ m → ∃ it, I n = some it ∧ (c, rnI f it) ∈ its) ∧ ∀ c it', (c, it') ∈ its → ∃ n it, (n, c) ∈ m ∧ I n = some it ∧ it' = rnI f it
 | [], its, h => by
  simp only [takeI] at h
  injection h with h; subst h
  exact ⟨rfl, by simp, by simp⟩
 | (u, v) :: m, its, h => by
  simp only [takeI] at h
  split at h
  ·
   cases h
  ·
   rename_i it r _ h1 h2
   injection h with h; subst h
   obtain ⟨g1, g2, g3⟩ := takeI_spec h2
   refine ⟨by simp [putNames, snds, g1], ?_, ?_⟩
   ·
    intro n c hm
    rcases List.mem_cons.1 hm with e | hm
    ·
     injection e with e1 e2; subst e1; subst e2; exact ⟨it, h1, .head _⟩
    ·
     obtain ⟨it2, k1, k2⟩ := g2 n c hm; exact ⟨it2, k1, .tail _ k2⟩
   ·
    intro c it' hm
    rcases List.mem_cons.1 hm with e | hm
    ·
     injection e with e1 e2; subst e1; subst e2; exact ⟨u, it, .head _, h1, rfl⟩
    ·
     obtain ⟨n, it2, k1, k2, k3⟩ := g3 c it' hm; exact ⟨n, it2, .tail _ k1, k2, k3⟩
  ·
   cases h
theorem takeI_nd {f : Nat → Nat} : ∀ {m : List (Nat × Nat)} {its : List (Nat × Item)}, takeI I f m = some its → ∀ n c, (n, c) ∈ m → ∀ k es rows, I n ≠ some (.dview k es rows)
 | [], its, h => by simp
 | (u, v) :: m, its, h => by
  simp only [takeI] at h
  split at h
  ·
   cases h
  ·
   rename_i it r hno h1 h2
   intro n c hm k es rows hi
   rcases List.mem_cons.1 hm with e | hm
   ·
    injection e with e1 e2; subst e1
    rw [h1] at hi; injection hi with hi
    exact hno k es rows hi
   ·
    exact takeI_nd h2 n c hm k es rows hi
  ·
   cases h
theorem newI_mem {r : List (Nat × Nat)} {b : Nat → Nat} {x : Nat} {it' : Item} : ∀ {l : List (Nat × Item)}, (x, it') ∈ newI r b l → ∃ c it, (c, it) ∈ l ∧ lookN c r = none ∧ x = b c ∧ it' = rnI b it
 | [], h => by cases h
 | (c, it) :: l, h => by
  simp only [newI] at h
  split at h
  ·
   obtain ⟨c2, it2, h1, h2⟩ := newI_mem h; exact ⟨c2, it2, .tail _ h1, h2⟩
  ·
   rename_i hl
   rcases List.mem_cons.1 h with e | h
   ·
    injection e with e1 e2; exact ⟨c, it, .head _, hl, e1, e2⟩
   ·
    obtain ⟨c2, it2, h1, h2⟩ := newI_mem h; exact ⟨c2, it2, .tail _ h1, h2⟩
theorem newI_of {r : List (Nat × Nat)} {b : Nat → Nat} {c : Nat} {it : Item} : ∀ {l : List (Nat × Item)}, (c, it) ∈ l → lookN c r = none → (b c, rnI b it) ∈ newI r b l
 | (u, v) :: l, h, hl => by
  simp only [newI]
  rcases List.mem_cons.1 h with e | h
  ·
   injection e with e1 e2; subst e1; subst e2; rw [hl]; exact .head _
  ·
   split
   ·
    exact newI_of h hl
   ·
    exact .tail _ (newI_of h hl)
theorem oldI_mem {r : List (Nat × Nat)} {b : Nat → Nat} {x : Nat} {it' : Item} : ∀ {l : List (Nat × Item)}, (x, it') ∈ oldI r b l → ∃ c it n, (c, it) ∈ l ∧ lookN c r = some n ∧ x = b c ∧ it' = rnI b it
 | [], h => by cases h
 | (c, it) :: l, h => by
  simp only [oldI] at h
  split at h
  ·
   rename_i n hl
   rcases List.mem_cons.1 h with e | h
   ·
    injection e with e1 e2; exact ⟨c, it, n, .head _, hl, e1, e2⟩
   ·
    obtain ⟨c2, it2, n2, h1, h2⟩ := oldI_mem h; exact ⟨c2, it2, n2, .tail _ h1, h2⟩
  ·
   obtain ⟨c2, it2, n2, h1, h2⟩ := oldI_mem h; exact ⟨c2, it2, n2, .tail _ h1, h2⟩
theorem oldI_of {r : List (Nat × Nat)} {b : Nat → Nat} {c n : Nat} {it : Item} : ∀ {l : List (Nat × Item)}, (c, it) ∈ l → lookN c r = some n → (b c, rnI b it) ∈ oldI r b l
 | (u, v) :: l, h, hl => by
  simp only [oldI]
  rcases List.mem_cons.1 h with e | h
  ·
   injection e with e1 e2; subst e1; subst e2; rw [hl]; exact .head _
  ·
   split
   ·
    exact .tail _ (oldI_of h hl)
   ·
    exact oldI_of h hl
theorem dropV_sub {I : Nat → Option Item} {x : Nat × Item} : ∀ {l : List (Nat × Item)}, x ∈ dropV I l → x ∈ l
 | [], h => h
 | (n, it) :: l, h => by
  simp only [dropV] at h
  split at h
  ·
   exact .tail _ (dropV_sub h)
  ·
   rcases List.mem_cons.1 h with e | h
   ·
    exact e ▸ .head _
   ·
    exact .tail _ (dropV_sub h)
theorem dropV_or {I : Nat → Option Item} {n : Nat} {it : Item} : ∀ {l : List (Nat × Item)}, (n, it) ∈ l → (n, it) ∈ dropV I l ∨ (it.owned = false ∧ ∃ k es xs, I n = some (.view k es xs))
 | (u, v) :: l, h => by
  simp only [dropV]
  rcases List.mem_cons.1 h with e | h
  ·
   injection e with e1 e2; subst e1; subst e2
   split
   ·
    rename_i hv
    refine .inr ⟨rfl, ?_⟩
    unfold isView at hv
    split at hv
    ·
     rename_i k es xs hi; exact ⟨k, es, xs, hi⟩
    ·
     cases hv
   ·
    exact .inl (.head _)
  ·
   rcases dropV_or (I := I) h with h2 | h2
   ·
    left
    split
    ·
     exact h2
    ·
     exact .tail _ h2
   ·
    exact .inr h2
theorem goneI_mem {its : List (Nat × Item)} {n : Nat} : ∀ {m : List (Nat × Nat)}, n ∈ goneI its m → ∃ c, (n, c) ∈ m ∧ findI c its = none
 | [], h => by cases h
 | (u, v) :: m, h => by
  simp only [goneI] at h
  split at h
  ·
   obtain ⟨c, h1, h2⟩ := goneI_mem h; exact ⟨c, .tail _ h1, h2⟩
  ·
   rename_i hf
   rcases List.mem_cons.1 h with e | h
   ·
    subst e; exact ⟨v, .head _, hf⟩
   ·
    obtain ⟨c, h1, h2⟩ := goneI_mem h; exact ⟨c, .tail _ h1, h2⟩
theorem purgeI_keeps {d n : Nat} {it : Item} (hn : n ≠ d) (hi : d ∉ it.names) : ∀ {l : List (Nat × Item)}, findI n l = some it → findI n (purgeI d l) = some it
 | (u, v) :: l, h => by
  rw [findI_cons] at h
  simp only [purgeI]
  split at h
  ·
   rename_i e
   injection h with h; subst h; subst e
   rw [show Nat.beq n d = false from by cases hh : Nat.beq n d; rfl; exact absurd (beqT hh) hn, memN_false.2 hi]
   simp only [findI_cons, if_true]
  ·
   rename_i e
   have ih := purgeI_keeps hn hi h
   split
   ·
    exact ih
   ·
    split
    ·
     exact ih
    ·
     rw [findI_cons, if_neg e]; exact ih
theorem purgeAllI_keeps {n : Nat} {it : Item} (hi : it.names = []) : ∀ (f : List (Nat × Item)) {l : List (Nat × Item)}, n ∉ putNames f → findI n l = some it → findI n (purgeAllI f l) = some it
 | [], l, _, h => h
 | (d, i) :: f, l, hn, h => by
  simp only [putNames, List.mem_cons, not_or] at hn
  rw [purgeAllI]
  exact purgeAllI_keeps hi f hn.2 (purgeI_keeps hn.1 (by rw [hi]; simp) h)
theorem goneI_or {its : List (Nat × Item)} {n c : Nat} : ∀ {m : List (Nat × Nat)}, (n, c) ∈ m → n ∈ goneI its m ∨ ∃ it, findI c its = some it
 | (u, v) :: m, h => by
  simp only [goneI]
  rcases List.mem_cons.1 h with e | h
  ·
   injection e with e1 e2; subst e1; subst e2
   cases hf : findI c its with
   | some it => exact .inr ⟨it, rfl⟩
   | none => exact .inl (.head _)
  ·
   rcases goneI_or (its := its) h with h | h
   ·
    left
    split
    ·
     exact h
    ·
     exact .tail _ h
   ·
    exact .inr h
theorem allIn_iff {l m : List Nat} : allIn l m = true ↔ ∀ x ∈ l, x ∈ m := by
 induction l with
 | nil => simp [allIn]
 | cons a l ih => simp [allIn, memN_iff, ih]
theorem ltAll_iff {b : Nat} {l : List Nat} : ltAll b l = true ↔ ∀ x ∈ l, x < b := by
 induction l with
 | nil => simp [ltAll]
 | cons a l ih => simp [ltAll, ih, Nat.blt_eq]
theorem canonB_iff {np : Nat} {l : List Nat} : canonB np l = true ↔ ∀ c ∈ l, c < np ∨ hiN ≤ c := by
 induction l with
 | nil => simp [canonB]
 | cons a l ih => simp [canonB, ih, Nat.blt_eq, Nat.ble_eq]
theorem allOwn_of {r : List (Nat × Nat)} {c : Nat} {it : Item} : ∀ {l : List (Nat × Item)}, allOwn r l = true → (c, it) ∈ l → lookN c r = none → it.owned = true
 | (u, v) :: l, h, hm, hl => by
  simp only [allOwn, Bool.and_eq_true] at h
  rcases List.mem_cons.1 hm with e | hm
  ·
   injection e with e1 e2; subst e1; subst e2
   have := h.1
   rw [hl] at this
   rw [← own?_owned]; exact this
  ·
   exact allOwn_of h.2 hm hl
theorem putSays'_mem {c x : Nat} {it : Item} : ∀ {l : List (Nat × Item)}, (c, it) ∈ l → x ∈ it.names → x ∈ putSays' l
 | (u, v) :: l, h, hx => by
  simp only [putSays', List.mem_append]
  rcases List.mem_cons.1 h with e | h
  ·
   injection e with e1 e2; subst e2; exact .inl hx
  ·
   exact .inr (putSays'_mem h hx)
theorem itemNames_mem {n x : Nat} {it : Item} : ∀ {l : List Nat}, n ∈ l → I n = some it → x ∈ it.names → x ∈ itemNames I l
 | u :: l, h, hi, hx => by
  simp only [itemNames, List.mem_append]
  rcases List.mem_cons.1 h with rfl | h
  ·
   rw [hi]; exact .inl hx
  ·
   exact .inr (itemNames_mem h hi hx)
theorem avsNames_mem {v : AV} {x : Nat} : ∀ {l : List AV}, v ∈ l → x ∈ v.names → x ∈ avsNames l
 | u :: l, h, hx => by
  simp only [avsNames, List.mem_append]
  rcases List.mem_cons.1 h with rfl | h
  ·
   exact .inl hx
  ·
   exact .inr (avsNames_mem h hx)
theorem rnVs_get {f : Nat → Nat} : ∀ (l : List AV) (j : Nat), (rnVs f l)[j]? = (l[j]?).map (rnV f)
 | [], j => by simp [rnVs]
 | v :: l, 0 => by simp [rnVs]
 | v :: l, j + 1 => by simp [rnVs, rnVs_get l j]
theorem rnVs_length (f : Nat → Nat) : ∀ l : List AV, (rnVs f l).length = l.length
 | [] => rfl
 | a :: l => by simp [rnVs, rnVs_length f l]
theorem numT_find : ∀ (l : List AV) (i t : Nat), i ≤ t → findT t (numT i l) = (l[t - i]?).getD (.s (.one .dead))
 | [], i, t, _ => by simp [numT, findT]
 | a :: l, i, t, h => by
  simp only [numT]
  rw [findT_cons]
  by_cases e : t = i
  ·
   subst e; simp
  ·
   rw [if_neg e, numT_find l (i + 1) t (by omega), show t - i = (t - (i + 1)) + 1 by omega]
   simp
theorem svsOf_get : ∀ {l : List AV} {svs : List SV}, svsOf l = some svs → l = svs.map AV.s
 | [], svs, h => by simp only [svsOf] at h; injection h with h; subst h; rfl
 | .s v :: l, svs, h => by
  simp only [svsOf] at h
  split at h
  ·
   rename_i r hr
   injection h with h; subst h
   simp [svsOf_get hr]
  ·
   cases h
 | .t _ :: l, svs, h => by simp [svsOf] at h
theorem relT_of {ρ : Rho} {S : Sh} : ∀ {svs : List SV} {Xs : List Value}, svs.length = Xs.length → (∀ (j : Nat) v x, svs[j]? = some v → Xs[j]? = some x → RelSV ρ S v x) → RelT ρ S svs Xs
 | [], [], _, _ => rfl
 | [], _ :: _, h, _ => by simp at h
 | _ :: _, [], h, _ => by simp at h
 | v :: svs, x :: Xs, h, hr => ⟨x, Xs, rfl, hr 0 v x rfl rfl, relT_of (by simpa using h) fun j v' x' a1 a2 => hr (j + 1) v' x' (by simpa using a1) (by simpa using a2)⟩
theorem tupOf_names : ∀ (svs : List SV), (tupOf svs).names = namesS svs
 | [] => rfl
 | [v] => by simp [tupOf, AV.names, namesS]
 | _ :: _ :: _ => rfl
theorem avsNames_map : ∀ (svs : List SV), avsNames (svs.map AV.s) = namesS svs
 | [] => rfl
 | v :: l => by simp [avsNames, namesS, AV.names, avsNames_map l]
theorem wp_callI (hΓ : CtxOk P Γ) (hI : ∀ n it, I n = some it → s.I n = some it) {c : Call} {g np : Nat} {fi : FI} (hf : findF g Γ = some fi) (hk : fi.kind = .inl np) (hdst : ∀ n, o.dst = some n → s.Dst n)
  (hrun : ∀ w0 Mu ρ a w, Sim w0 Mu ρ s a w → (execOp a.eval o).run P w = (callFunc g (c.args.map a.eval)).run P w)
  (h : (callI I np o.dst g (evAll (evO s.T) c.args.toList)).Out P Γ d) : WpStep P s o d := by
 unfold callI at h
 simp only at h
 generalize hm : mapOf I (evAll (evO s.T) c.args.toList) = m at h
 generalize hargs : evAll (evO s.T) c.args.toList = args at h hm
 split at h
 ·
  rename_i its htake
  split at h
  ·
   rename_i hin
   obtain ⟨fi', outs, hf', hout, h⟩ := h
   rw [hf] at hf'; injection hf' with hf'; subst hf'
   have hout : OutcomeI P g np [.fr (rnVs (thereN m) args) its] outs := by unfold OutK at hout; rw [hk] at hout; exact hout
   obtain ⟨vs, its2, rfl, hout2⟩ := hout _ _ rfl
   simp only at h
   split at h
   ·
    rename_i svs hsvs
    split at h
    ·
     rename_i hchk
     simp only [D.Out] at h; subst h
     simp only [Bool.and_eq_true] at hchk
     obtain ⟨q1, q2, q3, q4, q5, q6, q7, q8, q9, q10⟩ := hchk
     rw [canonB_iff] at q1
     rw [allIn_iff] at q6 hin
     rw [ltAll_iff] at q7
     rw [disj_iff] at q8
     have hvs := svsOf_get hsvs
     obtain ⟨t1, t2, t3⟩ := takeI_spec htake
     have tnd := takeI_nd htake
     have hnd1 : Nodup' its := nodupI (by rw [t1]; exact q3)
     have hnd2 : Nodup' its2 := nodupI q4
     have hndn : Nodup' (newI (turnM m) (backN (turnM m) (o.dst.getD 0)) its2) := nodupI q10
     have there_of : ∀ n c, (n, c) ∈ m → thereN m n = c := fun n c hc => by unfold thereN; rw [lookN_of q2 hc]
     generalize hb : backN (turnM m) (o.dst.getD 0) = b at *
     have back_old : ∀ n c, (n, c) ∈ m → b c = n := fun n c hc => by rw [← hb]; unfold backN; rw [lookN_turn q3 hc]
     have back_new : ∀ c, lookN c (turnM m) = none → b c = o.dst.getD 0 + 4096 * (c + 1) := fun c hc => by rw [← hb]; unfold backN; rw [hc]
     intro w0 Mu ρ a w Q hs
     have hXlen : (c.args.toList.map a.eval).length = args.length := by rw [← hargs, evAll_length]; simp
     have hXrel : ∀ (i : Nat) x X, args[i]? = some x → (c.args.toList.map a.eval)[i]? = some X → RelV ρ s.S x X := by
      intro i x X h1 h2
      rw [← hargs, evAll_eq, List.getElem?_map] at h1
      rw [List.getElem?_map] at h2
      simp only [Option.map_eq_some_iff] at h1 h2
      obtain ⟨p1, e1, rfl⟩ := h1
      obtain ⟨p2, e2, rfl⟩ := h2
      rw [e1] at e2; injection e2 with e2; subst e2
      exact relEv hs p1
     generalize hxs : c.args.toList.map a.eval = xs at hXlen hXrel
     let ρ1 : Rho := { loc := fun c => match lookN c (turnM m) with | some n => ρ.loc n | none => none, tot := fun c => match lookN c (turnM m) with | some n => ρ.tot n | none => 0 }
     let S1 : Sh := fun c => (findI c its).map Item.shape
     have r1 : ∀ n c, (n, c) ∈ m → ρ1.loc c = ρ.loc n ∧ ρ1.tot c = ρ.tot n := fun n c hc => by simp [ρ1, lookN_turn q3 hc]
     have ren1 : ∀ n, n ∈ fsts m → Ren (thereN m) ρ ρ1 s.S S1 n := by
      intro n hn
      obtain ⟨c, hc⟩ := fsts_mem hn
      obtain ⟨it, k1, k2⟩ := t2 n c hc
      rw [show Ren (thereN m) ρ ρ1 s.S S1 n ↔ Ren (thereN m) ρ ρ1 s.S S1 n from Iff.rfl]
      refine ⟨by rw [there_of n c hc]; exact (r1 n c hc).1, by rw [there_of n c hc]; exact (r1 n c hc).2, .inl ?_⟩
      rw [there_of n c hc, S_of (hI _ _ k1)]
      show (findI c its).map Item.shape = _
      rw [findI_of hnd1 k2]; simp [rnI_shape]
     let Mu1 : MuT := { blk := fun bb => ∃ n c it p, (n, c) ∈ m ∧ s.I n = some it ∧ it.owned = true ∧ ρ.loc n = some p ∧ p.1 = bb, loc := ρ1.loc, tot := ρ1.tot, sh := S1 }
     have hitem : ∀ c it', findI c its = some it' → ∃ n it, (n, c) ∈ m ∧ s.I n = some it ∧ it' = rnI (thereN m) it ∧ ρ1.loc c = ρ.loc n := by
      intro c it' hc
      obtain ⟨n, it, k1, k2, k3⟩ := t3 c it' (findI_mem hc)
      exact ⟨n, it, k1, hI _ _ k2, k3, (r1 n c k1).1⟩
     have hs1 : Sim w Mu1 ρ1 { n := (rnVs (thereN m) args).length, lo := np, tmps := numT 0 (rnVs (thereN m) args), items := its } { tmps := xs.toArray, defers := [] } w := by
      refine ⟨rfl, hnd1, by simp [rnVs_length, hXlen], ?_, ?_, ?_, ?_, ?_, Nat.le_refl _, fun _ _ _ => rfl, fun _ _ => ⟨rfl, rfl, .inl rfl⟩, ⟨rfl, rfl⟩, fun _ h => h.elim, rfl⟩
      ·
       intro t
       show RelV ρ1 S1 (findT t (numT 0 (rnVs (thereN m) args))) _
       rw [numT_find _ 0 t (Nat.zero_le _), Nat.sub_zero, rnVs_get]
       cases hx : args[t]? with
       | none => exact relDead _ _ _
       | some x =>
        have hlt : t < xs.length := by rw [hXlen]; exact (List.getElem?_eq_some_iff.1 hx).1
        have hX : xs[t]? = some xs[t] := List.getElem?_eq_getElem hlt
        have : xs.toArray.getD t undef = xs[t] := by simp [Array.getD_eq_getD_getElem?, hlt]
        show RelV ρ1 S1 (rnV (thereN m) x) (xs.toArray.getD t undef)
        rw [this]
        refine (hXrel t x _ hx hX).ren fun n hn => ren1 n (hin n (List.mem_append.2 (.inl (avsNames_mem (List.mem_of_getElem? hx) hn))))
      ·
       intro c it' hc
       obtain ⟨n, it, k1, k2, rfl, k4⟩ := hitem c it' hc
       have hn : ρ1.loc (thereN m n) = ρ.loc n ∧ ρ1.tot (thereN m n) = ρ.tot n := by rw [there_of n c k1]; exact r1 n c k1
       obtain ⟨it0, j1, _⟩ := t2 n c k1
       have hit : it0 = it := by have := hI _ _ j1; rw [k2] at this; injection this with this; exact this.symm
       subst hit
       have := (hs.hold n it0 k2).ren (f := thereN m) (S' := S1) hn (fun x hx => ren1 x (hin x (List.mem_append.2 (.inr (itemNames_mem (mem_fsts k1) j1 hx))))) (fun k es rows e => tnd n c k1 k es rows (by rw [j1, e]))
       rw [there_of n c k1] at this
       exact this
      ·
       intro c it' p hc ho hp
       obtain ⟨n, it, k1, k2, rfl, k4⟩ := hitem c it' hc
       exact .inr ⟨n, c, it, p, k1, k2, by rw [← rnI_owned (thereN m)]; exact ho, by rw [← k4]; exact hp, rfl⟩
      ·
       intro c c' it' it2' p q hc hc' ho hne hp hq
       obtain ⟨n, it, k1, k2, rfl, k4⟩ := hitem c it' hc
       obtain ⟨n2, it2, j1, j2, rfl, j4⟩ := hitem c' it2' hc'
       refine hs.sep n n2 it it2 p q k2 j2 (by rw [← rnI_owned (thereN m)]; exact ho) (fun e => hne ?_) (by rw [← k4]; exact hp) (by rw [← j4]; exact hq)
       subst e
       rw [← there_of n c k1, ← there_of n c' j1]
      ·
       intro c it' p hc hp
       obtain ⟨n, it, k1, k2, rfl, k4⟩ := hitem c it' hc
       exact hs.lt n it p k2 (by rw [← k4]; exact hp)
     obtain ⟨⟨fn, hfn, hbody, hname⟩, hcalls⟩ := hout2 w Mu1 ρ1 xs (by rw [rnVs_length]; exact hXlen) hs1
     have harr : c.args.map a.eval = xs.toArray := by rw [← hxs]; apply Array.ext'; simp
     unfold Oper.wp
     rw [hrun w0 Mu ρ a w hs]
     have hcf : (callFunc g (c.args.map a.eval)).run P w = .ok (.enter g (c.args.map a.eval)) w := by
      have hbn : ¬ fn.body = none := by intro e; rw [e] at hbody; simp at hbody
      simp [callFunc, hfn, hname, hbn]
     rw [hcf, Oper.upon_enter, harr]
     refine hcalls.mono fun e w' hpost => ?_
     obtain ⟨Xs, ρ2, rfl, hXl, hs2⟩ := hpost
     generalize hs2d : ({ n := vs.length, lo := np, tmps := numT 0 vs, items := its2 } : AS) = s2 at hs2
     have hI2 : ∀ c, s2.I c = findI c its2 := fun c => by rw [← hs2d]; rfl
     have hS2 : ∀ c it, findI c its2 = some it → s2.S c = some it.shape := fun c it hc => S_of (by rw [hI2]; exact hc)
     have hold2 : ∀ n c it, (n, c) ∈ m → findI c its2 = some it → ρ2.loc c = ρ.loc n ∧ ρ2.tot c = ρ.tot n ∧ ∃ it0, s.I n = some it0 ∧ it.shape = it0.shape := by
      intro n c it hc hfc
      obtain ⟨p1, p2, p3⟩ := hs2.pin c (by rw [← hs2d]; exact q1 c (mem_snds hc))
      obtain ⟨it0, k1, k2⟩ := t2 n c hc
      refine ⟨p1.trans (r1 n c hc).1, p2.trans (r1 n c hc).2, it0, hI _ _ k1, ?_⟩
      rw [hS2 c it hfc] at p3
      rcases p3 with p3 | p3
      ·
       have : Mu1.sh c = some (rnI (thereN m) it0).shape := by show (findI c its).map Item.shape = _; rw [findI_of hnd1 k2]; rfl
       rw [this] at p3; injection p3 with p3
       rw [p3, rnI_shape]
      ·
       cases p3
     let d0 := o.dst.getD 0
     let inv : Nat → Nat := fun x => (x - d0) / 4096 - 1
     let ρ' : Rho := { loc := fun x => if x ∈ putNames (newI (turnM m) b its2) then ρ2.loc (inv x) else ρ.loc x, tot := fun x => if x ∈ putNames (newI (turnM m) b its2) then ρ2.tot (inv x) else ρ.tot x, out := ρ.out }
     have hinv : ∀ c, lookN c (turnM m) = none → inv (b c) = c := fun c hc => by
      rw [back_new c hc]; simp only [inv, d0]; omega
     have hρ : ∀ x, x ∉ putNames (newI (turnM m) b its2) → ρ'.loc x = ρ.loc x ∧ ρ'.tot x = ρ.tot x := fun x hx => by simp [ρ', hx]
     have hput_old : ∀ n c it, (n, c) ∈ m → (c, it) ∈ its2 → (n, rnI b it) ∈ oldI (turnM m) b its2 := fun n c it hc hi => by
      have := oldI_of (b := b) hi (lookN_turn q3 hc)
      rwa [back_old n c hc] at this
     have hnotnew : ∀ n c it, (n, c) ∈ m → (c, it) ∈ its2 → n ∉ putNames (newI (turnM m) b its2) := fun n c it hc hi hn => q8 n hn (putNames_iff.2 ⟨_, hput_old n c it hc hi⟩)
     generalize hdel : ({ tmp := match o.dst with | some d => some (d, rnV b (tupOf svs)) | none => none, fresh := newI (turnM m) b its2, put := dropV I (oldI (turnM m) b its2), gone := goneI its2 m } : Delta) = dl
     have dfresh : dl.fresh = newI (turnM m) b its2 := by rw [← hdel]
     have dput : dl.put = dropV I (oldI (turnM m) b its2) := by rw [← hdel]
     have hput_own : ∀ n c it it0, (n, c) ∈ m → (c, it) ∈ its2 → s.I n = some it0 → it0.owned = true → (n, rnI b it) ∈ dropV I (oldI (turnM m) b its2) := fun n c it it0 hc hi h0 ho => by
      rcases dropV_or (I := I) (hput_old n c it hc hi) with h1 | ⟨_, k, es, xs, h2⟩
      ·
       exact h1
      ·
       rw [hI _ _ h2] at h0; injection h0 with h0; subst h0; cases ho
     have dgone : dl.gone = goneI its2 m := by rw [← hdel]
     have hputs : ∀ n it', findI n (dropV I (oldI (turnM m) b its2)) = some it' → ∃ c it, (n, c) ∈ m ∧ (c, it) ∈ its2 ∧ it' = rnI b it := by
      intro n it' hn
      obtain ⟨c, it, n2, k1, k2, k3, k4⟩ := oldI_mem (dropV_sub (findI_mem hn))
      have := turn_mem.1 (lookN_mem k2)
      rw [back_old n2 c this] at k3
      subst k3
      exact ⟨c, it, this, k1, k4⟩
     have hnews : ∀ x it', findI x (newI (turnM m) b its2) = some it' → ∃ c it, (c, it) ∈ its2 ∧ lookN c (turnM m) = none ∧ x = b c ∧ it' = rnI b it := fun x it' hx => newI_mem (findI_mem hx)
     have good : Good ρ ρ' s dl w w' := by
      refine ⟨by rw [dfresh]; exact hndn, by rw [dfresh]; exact hρ, ?_, ?_, hs2.mono, ?_, hs2.still, rfl⟩
      ·
       intro n it' hn
       rw [dput] at hn
       obtain ⟨c, it, k1, k2, rfl⟩ := hputs n it' hn
       obtain ⟨_, _, it0, j1, j2⟩ := hold2 n c it k1 (findI_of hnd2 k2)
       exact ⟨it0, j1, by rw [rnI_shape]; exact j2, by rw [rnI_owned]; exact owned_of_shape j2, by rw [dfresh]; exact hnotnew n c it k1 k2⟩
      ·
       intro n it p hn hnf hnp hng hp
       rw [dput] at hnp; rw [dgone] at hng
       refine hs2.frame p.1 (hs.lt n it p hn hp) ?_
       rintro ⟨n2, c2, it2, p2, k1, k2, k3, k4, k5⟩
       have hne : n2 ≠ n := by
        rintro rfl
        rcases goneI_or (its := its2) k1 with h1 | ⟨it3, h1⟩
        ·
         exact hng h1
        ·
         have := findI_isSome (hput_own n2 c2 it3 it2 k1 (findI_mem h1) k2 k3)
         rw [hnp] at this; cases this
       exact hs.sep n2 n it2 it p2 p k2 hn k3 hne k4 hp k5
      ·
       intro x hx
       rw [dfresh] at hx
       refine ⟨?_, q7 x hx⟩
       cases hd : o.dst with
       | none =>
        rw [hd] at q9
        simp only [Bool.and_eq_true] at q9
        have : newI (turnM m) b its2 = [] := by
         cases hl : newI (turnM m) b its2 with
         | nil => rfl
         | cons a l => rw [hl] at q9; simp [isNil] at q9
        rw [this] at hx; simp [putNames] at hx
       | some dd =>
        obtain ⟨it', hm'⟩ := putNames_iff.1 hx
        obtain ⟨c2, it, k1, k2, k3, _⟩ := newI_mem hm'
        rw [k3, back_new c2 k2, hd]
        have := (hdst dd hd).2.1
        simp only [Option.getD_some]; omega
     have hSfresh : ∀ c it, (c, it) ∈ its2 → lookN c (turnM m) = none → (s.apply dl).S (b c) = some it.shape := by
      intro c it hc hl
      have h1 := findI_of hndn (newI_of (b := b) hc hl)
      have : (s.apply dl).I (b c) = some (rnI b it) := by
       unfold AS.I AS.apply
       rw [findI_append, dfresh, h1]
      rw [S_of this, rnI_shape]
     have hSput : ∀ n c it, (n, c) ∈ m → (c, it) ∈ its2 → (s.apply dl).S n = some it.shape := by
      intro n c it hc hi
      cases h2 : findI n (dropV I (oldI (turnM m) b its2)) with
      | none =>
       have hview : ∃ k es xs, I n = some (.view k es xs) := by
        rcases dropV_or (I := I) (hput_old n c it hc hi) with h1 | ⟨_, h1⟩
        ·
         have := findI_isSome h1; rw [h2] at this; cases this
        ·
         exact h1
       obtain ⟨k, es, xs, hv⟩ := hview
       have hv := hI _ _ hv
       obtain ⟨_, _, it0, j1, j2⟩ := hold2 n c it hc (findI_of hnd2 hi)
       have hng : n ∉ goneI its2 m := fun hg => by
        obtain ⟨c', g1, g2⟩ := goneI_mem hg
        have hcc : c' = c := by rw [← there_of n c' g1, ← there_of n c hc]
        subst hcc
        rw [findI_of hnd2 hi] at g2; cases g2
       have : (s.apply dl).I n = some (.view k es xs) := by
        unfold AS.I AS.apply
        rw [findI_append, dfresh, findI_none (hnotnew n c it hc hi)]
        simp only [find_dropAll, if_neg (hnotnew n c it hc hi)]
        rw [find_putAll, dput, h2]
        refine purgeAllI_keeps rfl _ (hnotnew n c it hc hi) ?_
        rw [find_dropAll, dgone, if_neg hng]; exact hv
       rw [hv] at j1; injection j1 with j1; subst j1
       rw [S_of this, j2]
      | some it' =>
       obtain ⟨c2, it2, k1, k2, k3⟩ := hputs n it' h2
       have hcc : c2 = c := by rw [← there_of n c2 k1, ← there_of n c hc]
       subst hcc
       have hii : it2 = it := by
        have e1 := findI_of hnd2 k2
        have e2 := findI_of hnd2 hi
        rw [e1] at e2; injection e2
       subst hii
       have : (s.apply dl).I n = some it' := by
        unfold AS.I AS.apply
        rw [findI_append, dfresh, findI_none (hnotnew n c2 it2 hc hi)]
        simp only [find_dropAll, if_neg (hnotnew n c2 it2 hc hi)]
        rw [find_putAll, dput, h2]
       rw [S_of this, k3, rnI_shape]
     have ren2 : ∀ c, c ∈ putNames its2 → Ren b ρ2 ρ' s2.S (s.apply dl).S c := by
      intro c hc
      obtain ⟨it, hi⟩ := putNames_iff.1 hc
      have hfc := findI_of hnd2 hi
      cases hl : lookN c (turnM m) with
      | none =>
       have hin2 : b c ∈ putNames (newI (turnM m) b its2) := putNames_iff.2 ⟨_, newI_of hi hl⟩
       refine ⟨by simp [ρ', hin2, hinv c hl], by simp [ρ', hin2, hinv c hl], .inl ?_⟩
       rw [hSfresh c it hi hl, hS2 c it hfc]
      | some n =>
       have hnc := turn_mem.1 (lookN_mem hl)
       obtain ⟨p1, p2, _⟩ := hold2 n c it hnc hfc
       obtain ⟨l1, l2⟩ := hρ n (hnotnew n c it hnc hi)
       refine ⟨by rw [back_old n c hnc, l1, p1], by rw [back_old n c hnc, l2, p2], .inl ?_⟩
       rw [back_old n c hnc, hSput n c it hnc hi, hS2 c it hfc]
     have hholds : ∀ c it, (c, it) ∈ its2 → HoldI ρ' (s.apply dl).S (b c) w' (rnI b it) := by
      intro c it hc
      have hr := ren2 c (putNames_iff.2 ⟨it, hc⟩)
      exact (hs2.hold c it (by rw [hI2]; exact findI_of hnd2 hc)).ren ⟨hr.loc, hr.tot⟩ (fun x hx => ren2 x (q6 x (List.mem_append.2 (.inr (putSays'_mem hc hx))))) (fun k es rows e => by
       subst e
       cases hl : lookN c (turnM m) with
       | none => have := allOwn_of q5 hc hl; cases this
       | some n =>
        have hnc := turn_mem.1 (lookN_mem hl)
        obtain ⟨_, _, it0, j1, j2⟩ := hold2 n c _ hnc (findI_of hnd2 hc)
        obtain ⟨it1, j3, _⟩ := t2 n c hnc
        have := hI _ _ j3
        rw [j1] at this; injection this with this; subst this
        cases it0 with
        | dview k es rows => exact tnd n c hnc _ _ _ j3
        | _ => simp [Item.shape] at j2)
     have hblk : ∀ bb, Mu1 bb → ∃ n c it p, (n, c) ∈ m ∧ s.I n = some it ∧ it.owned = true ∧ ρ.loc n = some p ∧ p.1 = bb := fun bb h => h
     refine ⟨ρ', ?_⟩
     refine sim_step hs good ?_ ?_ ?_ ?_ ?_ ?_
     ·
      intro t v e
      rw [← hdel] at e
      simp only at e
      split at e
      ·
       rename_i dd hd
       injection e with e; injection e with e1 e2; subst e1; subst e2
       refine ⟨(hdst _ hd).1, resVal Xs, ?_, put_eq hd⟩
       have hT : RelT ρ2 s2.S svs Xs := by
        refine relT_of (by rw [hXl, hvs]; simp) fun j v x a1 a2 => ?_
        have := hs2.rel j
        have hTj : s2.T j = .s v := by
         rw [← hs2d]
         show findT j (numT 0 vs) = _
         rw [numT_find _ 0 j (Nat.zero_le _), Nat.sub_zero, hvs, List.getElem?_map, a1]; rfl
        rw [hTj] at this
        have hx : Xs.toArray.getD j undef = x := by
         have := (List.getElem?_eq_some_iff.1 a2)
         obtain ⟨hlt, e⟩ := this
         simp [Array.getD_eq_getD_getElem?, hlt, e]
        rw [show ({ tmps := Xs.toArray, defers := [] } : Act).tmps.getD j undef = x from hx] at this
        exact this
       refine (tupOf_rel hT).ren fun x hx => ren2 x (q6 x (List.mem_append.2 (.inl ?_)))
       rw [tupOf_names] at hx
       rw [hvs, avsNames_map]; exact hx
      ·
       cases e
     ·
      intro e
      rw [← hdel] at e
      simp only at e
      split at e
      ·
       cases e
      ·
       rename_i hd; rw [hd]; rfl
     ·
      intro x it' hx
      rw [dfresh] at hx
      obtain ⟨c2, it, k1, k2, rfl, rfl⟩ := hnews x it' hx
      exact hholds c2 it k1
     ·
      intro n it' hn
      rw [dput] at hn
      obtain ⟨c2, it, k1, k2, rfl⟩ := hputs n it' hn
      have := hholds c2 it k2
      rwa [back_old n c2 k1] at this
     ·
      intro x it' p hx hp
      rw [dfresh] at hx
      obtain ⟨c2, it, k1, k2, rfl, rfl⟩ := hnews x it' hx
      have hfc := findI_of hnd2 k1
      have hp2 : ρ2.loc c2 = some p := by rw [← (ren2 c2 (putNames_iff.2 ⟨it, k1⟩)).loc]; exact hp
      have hown := allOwn_of q5 k1 k2
      have hs2c : s2.I c2 = some it := by rw [hI2]; exact hfc
      refine ⟨hs2.lt c2 it p hs2c hp2, ?_, ?_⟩
      ·
       rcases hs2.own c2 it p hs2c hown hp2 with h1 | h1
       ·
        exact .inl (Nat.le_trans hs.mono h1)
       ·
        obtain ⟨n, c3, it3, p3, j1, j2, j3, j4, j5⟩ := hblk _ h1
        rw [← j5]; exact hs.own n it3 p3 j2 j3 j4
      ·
       intro k jt q hk hne hq
       rcases AS.apply_I hs.nd hk with h4 | ⟨h5, _, h4 | ⟨h6, h7, h4⟩⟩
       ·
        rw [dfresh] at h4
        obtain ⟨c3, it3, j1, j2, rfl, rfl⟩ := hnews k jt h4
        refine hs2.sep c2 c3 it it3 p q hs2c (by rw [hI2]; exact findI_of hnd2 j1) hown (fun e => hne (by rw [e])) hp2 ?_
        rw [← (ren2 c3 (putNames_iff.2 ⟨it3, j1⟩)).loc]; exact hq
       ·
        rw [dput] at h4
        obtain ⟨c3, it3, j1, j2, rfl⟩ := hputs k jt h4
        refine hs2.sep c2 c3 it it3 p q hs2c (by rw [hI2]; exact findI_of hnd2 j2) hown (fun e => ?_) hp2 ?_
        ·
         rw [e, lookN_turn q3 j1] at k2; cases k2
        ·
         have := (ren2 c3 (putNames_iff.2 ⟨it3, j2⟩)).loc
         rw [back_old k c3 j1] at this
         rw [← this]; exact hq
       ·
        rw [dput] at h6; rw [dgone] at h7; rw [dfresh] at h5
        rw [(hρ k h5).1] at hq
        rcases hs2.own c2 it p hs2c hown hp2 with h1 | h1
        ·
         have := hs.lt k jt q h4 hq; omega
        ·
         obtain ⟨n, c3, it3, p3, j1, j2, j3, j4, j5⟩ := hblk _ h1
         rw [← j5]
         refine hs.sep n k it3 jt p3 q j2 h4 j3 ?_ j4 hq
         rintro rfl
         rcases goneI_or (its := its2) j1 with h1 | ⟨it5, h1⟩
         ·
          exact h7 h1
         ·
          have := findI_isSome (hput_own n c3 it5 it3 j1 (findI_mem h1) j2 j3)
          rw [h6] at this; cases this
     ·
      intro bb hbb hm2
      refine hs2.frame bb (Nat.lt_of_lt_of_le hbb hs.mono) fun h1 => ?_
      obtain ⟨n, c3, it3, p3, j1, j2, j3, j4, j5⟩ := hblk _ h1
      rcases hs.own n it3 p3 j2 j3 j4 with h2 | h2
      ·
       omega
      ·
       exact hm2 (j5 ▸ h2)
    ·
     exact h.elim
   ·
    exact h.elim
  ·
   exact h.elim
 ·
  exact h.elim
end
section
variable {P : Program} {Γ : Ctx} {Θ : Types} {s : AS} {o : Oper} {d : Delta}
theorem restrict_in {l : List Nat} {I : Nat → Option Item} {n : Nat} (h : n ∈ l) : restrict l I n = I n := by
 unfold restrict; rw [memN_iff.2 h]
theorem opNames_head {ev : Operand → AV} {x : Operand} {l : List Operand} {n : Nat} (h : n ∈ (ev x).names) : n ∈ opNames ev (x :: l) := by
 simp only [opNames]; exact List.mem_append.2 (.inl h)
theorem mem_unionN {y : Nat} : ∀ {a b : List Nat}, y ∈ unionN a b ↔ y ∈ a ∨ y ∈ b
 | [], b => by simp [unionN]
 | x :: a, b => by
  simp only [unionN]
  split
  ·
   rename_i h
   rw [mem_unionN, List.mem_cons]
   have := memN_iff.1 h
   constructor
   ·
    rintro (h | h)
    ·
     exact .inl (.inr h)
    ·
     exact .inr h
   ·
    rintro ((h | h) | h)
    ·
     exact .inr (h ▸ this)
    ·
     exact .inl h
    ·
     exact .inr h
  ·
   rw [mem_unionN, List.mem_cons, List.mem_cons]
   constructor
   ·
    rintro (h | h | h)
    ·
     exact .inl (.inr h)
    ·
     exact .inl (.inl h)
    ·
     exact .inr h
   ·
    rintro ((h | h) | h)
    ·
     exact .inr (.inl h)
    ·
     exact .inl h
    ·
     exact .inr (.inr h)
theorem clos_sub {I : Nat → Option Item} : ∀ (k : Nat) {l : List Nat} {n : Nat}, n ∈ l → n ∈ closN I k l
 | 0, _, _, h => h
 | k + 1, l, n, h => clos_sub k (mem_unionN.2 (.inr h))
def readsMem : Op → Bool
 | .move _ => false
 | .assign _ => false
 | .extract _ _ => false
 | _ => true
theorem reads_sub {op : Op} {ev : Operand → AV} {I : Nat → Option Item} {n : Nat} (hm : readsMem op = true) (h : n ∈ opNames ev (opsOf op)) : n ∈ opReads op ev I := by
 unfold opReads
 split
 ·
  exact clos_sub 4 h
 ·
  cases hm
 ·
  cases hm
 ·
  cases hm
 ·
  exact h
theorem wp_load {I : Nat → Option Item} (hΘ : TypesOk P Θ) (hI : ∀ n it, I n = some it → s.I n = some it) {t : Nat} {x : Operand} (hd0 : ∀ n, o.dst = some n → n < s.n) (hdst : ∀ n, o.dst = some n → s.Dst n) (ho : o.op = .load t x) (h : (stepCore Θ Γ (.load t x) o.dst (evO s.T) I).Out P Γ d) : WpStep P s o d := by
 by_cases hdv : ∃ n b f z k es rows, evO s.T x = .s (.one (.ptr n b f z)) ∧ I n = some (.dview k es rows)
 ·
  obtain ⟨n, b, f, z, k, es, rows, hx, hi⟩ := hdv
  simp only [stepCore, hx] at h
  split at h
  ·
   rename_i ti n' b' f' z' ht hxe
   injection hxe with hxe; injection hxe with hxe; injection hxe with e1 e2 e3 e4
   subst e1; subst e2; subst e3; subst e4
   rw [hi] at h
   simp only at h
   split at h
   ·
    rename_i dd e hd htd hts
    obtain ⟨hc, h⟩ := chk_out h
    simp only [Bool.and_eq_true, Bool.not_eq_true'] at hc
    have hb : b < rows.length := ble_iff.1 (show Nat.ble (b + 1) rows.length = true from hc.1)
    have hnd := beqN hc.2
    simp only [D.Out] at h; subst h
    intro w0 Mu ρ a w Q hs
    have hi' := hI _ _ hi
    obtain ⟨p, h1, h2, h3⟩ := ev_ptr hs hx
    obtain ⟨k1, k2⟩ := hs.hold _ _ hi'
    obtain ⟨p', A, m, c, pl, g1, g2, g3, g4, g5, g6, g7⟩ := k2 b rows[b] (List.getElem?_eq_getElem hb)
    rw [h1] at g1; injection g1 with g1; subst g1
    have hag : ti.d.isAgg = false := by rw [htd]; rfl
    have hrow : rows.getD b [] = rows[b] := by simp [List.getD_eq_getElem?_getD, List.getElem?_eq_getElem hb]
    rw [hrow]
    refine step_fresh_any hs ⟨rfl, rfl⟩ (w' := w) (x := .slice A m c) (l := pl) (tot := 0) (gone := []) hd (hdst dd hd) ?_ (fun _ _ _ _ _ _ _ => rfl) (Nat.le_refl _) (fun _ _ _ => rfl) ?_ ?_ ?_
    ·
     have hl : (loadVar t (adr p (b + Off.val .z))).run P w = .ok (.slice A m c) w := by
      rw [run_loadVar (hΘ t ti ht), hag]
      simp only [Bool.false_eq_true, if_false, Off.val, Nat.add_zero, run_load, g2]
     simp [execOp, ho, h2, Instr.loadAt, Instr.sureAddr, hl]
    ·
     intro S' hag' hS
     refine ⟨k1, ⟨m, g3⟩, ?_⟩
     rw [Rho.set_loc]; exact g6
    ·
     intro S' hag' hS
     show RelAt _ S' (.own dd) [_]
     simp only [RelAt, hS, Item.shape, Rho.set_loc]
     rw [g3, rl_mul k1.1]
     exact ⟨A, c, rfl, g4, fun hpos => g5 (by
      rcases Nat.eq_zero_or_pos m with h0 | h0
      ·
       rw [h0] at hpos; simp at hpos
      ·
       exact h0)⟩
    ·
     intro q hq
     have hout := hs.out q.1 (g7 q hq)
     refine ⟨Nat.lt_of_lt_of_le hout.1 hs.mono, (fun h => by cases h), ?_⟩
     intro m2 it2 q2 hm2 _ _ ho2 hq2
     rcases ho2 with h | h
     ·
      cases h
     ·
      rcases hs.own m2 it2 q2 hm2 h hq2 with h4 | h4
      ·
       omega
      ·
       intro e; exact hout.2 (e ▸ h4)
   ·
    exact h.elim
  ·
   exact h.elim
 ·
  exact (val_load hΘ hI ho (fun n b f z k es rows h1 h2 => hdv ⟨n, b, f, z, k, es, rows, h1, h2⟩) h).wp hd0
theorem stepD_sound (hΘ : TypesOk P Θ) (hΓ : CtxOk P Γ) (hd0 : ∀ n, o.dst = some n → n < s.n) (hd1 : movesOnly o.op = false → ∀ n, o.dst = some n → s.Dst n) (h : (stepD Θ Γ o s.T s.I).Out P Γ d) : WpStep P s o d := by
 unfold stepD at h
 have hI : ∀ n it, restrict (opReads o.op (evO s.T) s.I) s.I n = some it → s.I n = some it := fun n it h => restrict_some h
 have hJ : readsMem o.op = true → ∀ (x : Operand) (l : List Operand), opsOf o.op = x :: l → ∀ n ∈ (evO s.T x).names, restrict (opReads o.op (evO s.T) s.I) s.I n = s.I n := by
  intro hm x l e n hn
  exact restrict_in (reads_sub hm (by rw [e]; exact opNames_head hn))
 generalize hR : restrict (opReads o.op (evO s.T) s.I) s.I = I at h hI hJ
 have hst : ∀ q : Op, o.op = q → movesOnly q = false → ∀ n, o.dst = some n → s.Dst n := fun q e hq => hd1 (by rw [e]; exact hq)
 cases ho : o.op <;> rw [ho] at h hJ
 case move x => exact (val_move ho h).wp hd0
 case assign x => exact (val_assign ho h).wp hd0
 case pick c a b => exact (val_pick ho h).wp hd0
 case alloc t => exact wp_alloc hΘ (hst _ ho rfl) ho h
 case box t x => exact wp_box hΘ (hst _ ho rfl) ho h
 case build t ps => exact (val_build hΘ ho h).wp hd0
 case buildSlice t l ps => exact wp_buildSlice hΘ (hst _ ho rfl) ho h
 case load t a => exact wp_load hΘ hI hd0 (hst _ ho rfl) ho h
 case store t a v => exact wp_store hΘ hI (hst _ ho rfl) ho h
 case nilCheck x => exact (val_nilCheck ho h).wp hd0
 case binOp op xt x y yt => exact (val_binOp hΘ (fun p hx hy hn => val_nilCmp hΘ hI ho hx hy hn) ho h).wp hd0
 case unOp op xt x => exact (val_unOp ho h).wp hd0
 case convert st dt x => exact wp_convert hΘ hI (hst _ ho rfl) ho h
 case sliceToArrayPointer t x => exact (val_s2ap hΘ hI ho h).wp hd0
 case makeSlice t l c => exact wp_makeSlice hΘ (hst _ ho rfl) ho h
 case slice t x lo hi mx => exact (val_slice hΘ hI (hJ rfl x _ rfl) ho h).wp hd0
 case fieldAddr t x f => exact (val_fieldAddr hΘ ho h).wp hd0
 case field t x f => exact (val_field hΘ ho h).wp hd0
 case indexAddr t x i => exact (val_indexAddr hΘ hI (hJ rfl x _ rfl) ho h).wp hd0
 case index t x i => exact (val_index hΘ ho h).wp hd0
 case extract x j => exact (val_extract ho h).wp hd0
 case makeMap t r => exact wp_makeMap hΘ (hst _ ho rfl) ho h
 case lookup t x i ok => exact (val_lookup hΘ hI ho h).wp hd0
 case mapUpdate t x i v => exact wp_update hΘ hI (hst _ ho rfl) ho h
 case call c =>
  simp only [stepCore] at h
  split at h
  ·
   rename_i b hb
   unfold builtinD at h
   split at h
   ·
    rename_i hargs
    exact (val_builtin hΘ hI hb (.inl rfl) ho (by unfold builtinD; rw [hargs]; exact h)).wp hd0
   ·
    rename_i hargs
    exact (val_builtin hΘ hI hb (.inr (.inl rfl)) ho (by unfold builtinD; rw [hargs]; exact h)).wp hd0
   ·
    rename_i hargs
    exact (val_builtin hΘ hI hb (.inr (.inr rfl)) ho (by unfold builtinD; rw [hargs]; exact h)).wp hd0
   ·
    rename_i x y hargs
    exact wp_append hΘ hI (hst _ ho rfl) hb hargs ho h
   ·
    rename_i x y hargs
    exact wp_copy hΘ hI (hst _ ho rfl) hb hargs ho h
   ·
    exact h.elim
  ·
   rename_i f hcal
   split at h
   ·
    rename_i g a b hf
    split at h
    ·
     rename_i ha hb
     have hrun : ∀ w0 Mu ρ act w, Sim w0 Mu ρ s act w → (execOp act.eval o).run P w = (callFunc g (c.args.map act.eval)).run P w := ?_
     ·
      unfold callD at h
      split at h
      ·
       rename_i fi hfi
       split at h
       ·
        rename_i hk; exact wp_callP hΓ hI hfi hk (hst _ ho rfl) ho hrun h
       ·
        rename_i np hk; exact wp_callI hΓ hI hfi hk (hst _ ho rfl) hrun h
      ·
       exact h.elim
     intro w0 Mu ρ act w hs
     have hv := ev_one hs hf
     have hv' : act.eval f = .func (.func g) a b := by
      simp only [RelV, RelSV, RelAt, List.cons.injEq, and_true] at hv
      exact hv.1
     have ha' : a = #[] := by apply Array.ext'; simpa using ha
     have hb' : b = #[] := by apply Array.ext'; simpa using hb
     subst ha'; subst hb'
     simp [execOp, ho, resolve, hcal, hv', Deferred.ofValue, invoke]
    ·
     exact h.elim
   ·
    exact h.elim
  ·
   exact h.elim
 all_goals exact h.elim
theorem dstOf_eq {ops : List Oper} {j : Nat} : dstOf ops j = (ops[j]?).bind (·.dst) := by
 induction ops generalizing j with
 | nil => simp [dstOf]
 | cons o l ih => cases j <;> simp [dstOf, ih]
theorem wanted_none {a : Act} (ops : Array Oper) (h : guardOf ops.toList s.T o.guard = some none) : Region.wanted o (yielded ops a.tmps) = true := by
 unfold guardOf at h
 split at h
 ·
  rename_i hg; simp [Region.wanted, hg]
 ·
  split at h
  ·
   split at h <;> cases h
  ·
   cases h
theorem wanted_some {w0 : World} {Mu : MuT} {ρ : Rho} {a : Act} {w : World} (hs : Sim w0 Mu ρ s a w) (ops : Array Oper) {b : Bool} (h : guardOf ops.toList s.T o.guard = some (some b)) (hlt : ∀ j d, o.guard.map (·.1) = some j → dstOf ops.toList j = some d → d < s.n) :
  Region.wanted o (yielded ops a.tmps) = b := by
 unfold guardOf at h
 split at h
 ·
  cases h
 ·
  rename_i j want hg
  split at h
  ·
   rename_i dd hdd
   have hd : dd < s.n := hlt j dd (by rw [hg]; rfl) hdd
   have hlt' : dd < a.tmps.size := by rw [hs.size]; exact hd
   have hrel := hs.rel dd
   have hget : a.tmps[dd]? = some (a.tmps.getD dd undef) := by
    simp [Array.getD_eq_getD_getElem?, Array.getElem?_eq_getElem hlt']
   have hy : yielded ops a.tmps j = match a.tmps.getD dd undef with | .bool b => some b | _ => none := by
    rw [dstOf_eq] at hdd
    have h2 : (ops[j]?).bind (·.dst) = some dd := by simpa using hdd
    have h3 : ((ops[j]?).bind (·.dst)).bind (a.tmps[·]?) = some (a.tmps.getD dd undef) := by rw [h2]; exact hget
    unfold yielded
    rw [h3]
    cases a.tmps.getD dd undef <;> rfl
   split at h
   ·
    rename_i bb hb
    injection h with h; injection h with h
    rw [hb] at hrel
    simp only [RelV, RelSV, RelAt, List.cons.injEq, and_true] at hrel
    rw [hrel] at hy
    simp only [Region.wanted, hg, hy]
    subst h
    cases want <;> cases bb <;> rfl
   ·
    rename_i hb
    injection h with h; injection h with h
    rw [hb] at hrel
    obtain ⟨vs, h1, h2⟩ := hrel
    rw [h1] at hy
    simp only [Region.wanted, hg, hy]
    subst h; rfl
   ·
    cases h
  ·
   cases h
def StepOut (P : Program) (Γ : Ctx) (Θ : Types) (ops : List Oper) (s : AS) (o : Oper) (d : Delta) : Prop := (stepG Θ Γ ops o s).Out P Γ d
theorem dstsOk_get {n : Nat} : ∀ {l : List Oper} {j d : Nat}, dstsOk n l = true → dstOf l j = some d → d < n
 | [], j, d, _, h => by simp [dstOf] at h
 | o :: l, j, d, h, hd => by
  simp only [dstsOk, Bool.and_eq_true] at h
  cases j with
  | zero =>
   simp only [dstOf] at hd
   rw [hd] at h
   have := ble_iff.1 (show Nat.ble (d + 1) n = true from h.1)
   omega
  | succ j => simp only [dstOf] at hd; exact dstsOk_get h.2 hd
def WpAt (P : Program) (ops : Array Oper) (s : AS) (o : Oper) (d : Delta) : Prop :=
 ∀ w0 Mu ρ a w (Q : Exit → Act → World → Prop) (K : Act → World → Prop), Sim w0 Mu ρ s a w → (∀ a' w' ρ', Sim w0 Mu ρ' (s.apply d) a' w' → K a' w') →
  if Region.wanted o (yielded ops a.tmps) then o.wp P a w K Q else K (a.put o.dst undef) w
theorem splitDelta_out {p : Bool} {δ : Delta} (h : (splitDelta p δ).Out P Γ d) : (D.ok δ).Out P Γ d := by
 obtain ⟨tmp, fresh, put, gone⟩ := δ
 unfold splitDelta at h
 split at h
 ·
  rename_i u b hd
  simp only at hd
  subst hd
  simp only [D.Out] at h ⊢
  rcases h with ⟨rfl, h⟩ | ⟨rfl, h⟩
  ·
   exact h
  ·
   cases p
   ·
    exact h
   ·
    exact h.elim
 ·
  exact h
theorem splitD_out {p : Bool} : ∀ {t : D Delta}, (splitD p t).Out P Γ d → t.Out P Γ d := by
 intro t
 induction t with
 | ok δ => exact splitDelta_out
 | fail => exact id
 | br c t e ih1 ih2 =>
  intro h
  rcases h with ⟨h1, h2⟩ | ⟨h1, h2⟩
  ·
   exact .inl ⟨h1, ih1 h2⟩
  ·
   exact .inr ⟨h1, ih2 h2⟩
 | call g ds k ih =>
  intro h
  obtain ⟨fi, o, h1, h2, h3⟩ := h
  exact ⟨fi, o, h1, h2, ih o h3⟩
theorem stepG_out {ops : List Oper} (h : (stepG Θ Γ ops o s).Out P Γ d) : (stepG0 Θ Γ ops o s).Out P Γ d := by
 unfold stepG at h
 split at h
 ·
  split at h
  ·
   exact splitD_out h
  ·
   exact h
 ·
  exact h
theorem stepG_sound (hΘ : TypesOk P Θ) (hΓ : CtxOk P Γ) {ops : Array Oper} (hok : dstsOk s.n ops.toList = true) (h : (stepG Θ Γ ops.toList o s).Out P Γ d) : WpAt P ops s o d := by
 replace h := stepG_out h
 unfold stepG0 at h
 split at h
 ·
  rename_i hdo
  have hd0 : ∀ n, o.dst = some n → n < s.n := by
   intro n hn
   unfold dstOk at hdo
   rw [hn] at hdo
   simp only [Bool.and_eq_true] at hdo
   exact ble_iff.1 (show Nat.ble (n + 1) s.n = true from hdo.1)
  have hd1 : movesOnly o.op = false → ∀ n, o.dst = some n → s.Dst n := by
   intro hm n hn
   unfold dstOk at hdo
   rw [hn, hm] at hdo
   simp only [Bool.and_eq_true, Bool.false_or] at hdo
   exact ⟨hd0 n hn, ble_iff.1 hdo.2.1, ble_iff.1 (show Nat.ble (n + 1) 4096 = true from hdo.2.2)⟩
  split at h
  ·
   exact h.elim
  ·
   rename_i hg
   intro w0 Mu ρ a w Q K hs hK
   rw [if_pos (wanted_none ops hg)]
   exact Oper.wp_mono (fun a' w' ⟨ρ', hs'⟩ => hK a' w' ρ' hs') (stepD_sound hΘ hΓ hd0 hd1 h w0 Mu ρ a w Q hs)
  ·
   rename_i b hg
   simp only [D.Out] at h
   intro w0 Mu ρ a w Q K hs hK
   have hw := wanted_some hs ops hg (fun j dd _ h2 => dstsOk_get hok h2)
   rcases h with ⟨rfl, h⟩ | ⟨rfl, h⟩
   ·
    rw [hw, if_pos rfl]
    exact Oper.wp_mono (fun a' w' ⟨ρ', hs'⟩ => hK a' w' ρ' hs') (stepD_sound hΘ hΓ hd0 hd1 h w0 Mu ρ a w Q hs)
   ·
    rw [hw, if_neg (by simp)]
    refine hK _ _ ρ ?_
    subst h
    refine sim_step hs (w' := w) (ρ' := ρ) (d := skipDelta o) ⟨trivial, fun _ _ => ⟨rfl, rfl⟩, fun n it h => by simp [skipDelta, findI] at h, fun _ _ _ _ _ _ _ _ => rfl, Nat.le_refl _, by simp [skipDelta, putNames], ⟨rfl, rfl⟩, rfl⟩ ?_ ?_ (fun n it h => by simp [skipDelta, findI] at h) (fun n it h => by simp [skipDelta, findI] at h) (fun n it p h => by simp [skipDelta, findI] at h) (fun _ _ _ => rfl)
    ·
     intro t v e
     simp only [skipDelta] at e
     split at e
     ·
      rename_i m hm
      injection e with e; injection e with e1 e2; subst e1; subst e2
      exact ⟨hd0 _ hm, undef, ⟨[], rfl, rfl⟩, put_eq hm⟩
     ·
      cases e
    ·
     intro e
     simp only [skipDelta] at e
     split at e
     ·
      cases e
     ·
      rename_i hm; rw [hm]; rfl
 ·
  exact h.elim
end
end
end Go.Eng
