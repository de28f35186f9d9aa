/- A part of the proof: ShamirWeights: for any identifiers, identifier and place whose data stay within 1,048,576: Lagrange and Weights answer as the document. -/
import Derived.Test.YtogcijgklnfjjaaGreatShamirWeightsUptoSaidT1
import Derived.Orders
import Derived.LoopN
import Derived.Scope
import Derived.Laws.Sem
import Derived.OpenShut
import Derived.Below
import Derived.ChangeSame
import Derived.Carry
import Derived.Test.YtogcijgklnfjjaaGreatProg
import Derived.KernelRfl
import Derived.Laws.Externs
set_option linter.unusedVariables false
set_option linter.unusedSimpArgs false

namespace Go.Eng
noncomputable section
open Go
set_option maxRecDepth 100000
set_option linter.unusedVariables false
section
variable {P : Program} {Γ : Ctx} {Θ : Types}
inductive Chain (P : Program) (Γ : Ctx) (Θ : Types) (ops : List Oper) : List Oper → AS → AS → Prop
 | nil (s : AS) : Chain P Γ Θ ops [] s s
 | cons {o : Oper} {l : List Oper} {s s' : AS} {d : Delta} (h : StepOut P Γ Θ ops s o d) (r : Chain P Γ Θ ops l (s.apply d) s') : Chain P Γ Θ ops (o :: l) s s'
theorem runOps_chain {R : Type} (hΓ : CtxOk P Γ) {ops : List Oper} : ∀ (l : List Oper) (s : AS) (k : AS → Option R) (r : R), runOps Θ Γ ops l s k = some r → ∃ s', k s' = some r ∧ Chain P Γ Θ ops l s s'
 | [], s, k, r, h => ⟨s, h, .nil s⟩
 | o :: l, s, k, r, h => by
  simp only [runOps] at h
  obtain ⟨d, h1, h2⟩ := D.run_out hΓ _ _ _ h
  obtain ⟨s', h3, h4⟩ := runOps_chain hΓ l _ k r h2
  exact ⟨s', h3, .cons h1 h4⟩
def Reaches (P : Program) (c : Code) (s : AS) (e : X) (s' : AS) : Prop :=
 ∀ w0 Mu ρ a w (Q : Exit → Act → World → Prop), Sim w0 Mu ρ s a w →
  (∀ a' w' ρ', Sim w0 Mu ρ' s' a' w' → Q (match e with | .normal => .normal | .exit i => .exit i | .ret => .ret) a' w') → c.wp P Q a w
theorem chain_ops (hΘ : TypesOk P Θ) (hΓ : CtxOk P Γ) {ops : Array Oper} {l : List Oper} {s s' : AS} (h : Chain P Γ Θ ops.toList l s s') : ∀ {k : Nat}, (∀ j, l[j]? = ops.toList[k + j]?) → dstsOk s.n ops.toList = true →
  ∀ {w0 Mu ρ a w} {Q : Exit → Act → World → Prop}, Sim w0 Mu ρ s a w → (∀ a' w' ρ', Sim w0 Mu ρ' s' a' w' → Q .normal a' w') → wpOps P ops Q (List.range' k l.length) a w := by
 induction h with
 | nil s =>
  intro k _ _ w0 Mu ρ a w Q hs hQ
  exact hQ a w ρ hs
 | @cons o l s s' d h r ih =>
  intro k hl hok w0 Mu ρ a w Q hs hQ
  have h0 : ops[k]? = some o := by have := hl 0; simpa using this.symm
  simp only [List.length_cons, List.range'_succ]
  rw [wpOps_cons]
  unfold wpOp
  simp only [h0]
  have hstep := stepG_sound hΘ hΓ hok h w0 Mu ρ a w Q (wpOps P ops Q (List.range' (k + 1) l.length)) hs (fun a' w' ρ' hs' =>
   ih (k := k + 1) (fun j => by have := hl (j + 1); simpa [Nat.add_assoc, Nat.add_comm 1 j] using this) hok hs' hQ)
  split at hstep
  ·
   rename_i hw; rw [if_pos hw]; exact .inl hstep
  ·
   rename_i hw; rw [if_neg hw]; exact hstep
theorem region_reaches (hΘ : TypesOk P Θ) (hΓ : CtxOk P Γ) {id : Nat} {ops : Array Oper} {s s' : AS} (hok : dstsOk s.n ops.toList = true) (h : Chain P Γ Θ ops.toList ops.toList s s') : Reaches P (.region id ops false) s .normal s' := by
 intro w0 Mu ρ a w Q hs hQ
 refine wp_region ?_
 rw [List.range_eq_range']
 have := chain_ops hΘ hΓ h (k := 0) (by simp) hok hs (Q := Q) hQ
 simpa using this
theorem findT_pruneT (K : List Nat) (t : Nat) : ∀ (l : List (Nat × AV)) (seen : List Nat), findT t (pruneT K l seen) = .s (.one .dead) ∨ (t ∉ seen ∧ findT t (pruneT K l seen) = findT t l)
 | [], seen => .inl rfl
 | (u, v) :: l, seen => by
  simp only [pruneT]
  split
  ·
   rename_i hs
   rcases findT_pruneT K t l seen with h | ⟨h1, h2⟩
   ·
    exact .inl h
   ·
    by_cases e : t = u
    ·
     subst e; exact absurd (memN_iff.1 hs) h1
    ·
     refine .inr ⟨h1, ?_⟩
     rw [h2, findT_cons, if_neg e]
  ·
   rename_i hs
   split
   ·
    rw [findT_cons, findT_cons]
    by_cases e : t = u
    ·
     subst e
     rw [if_pos rfl, if_pos rfl]
     exact .inr ⟨memN_false.1 hs, rfl⟩
    ·
     rw [if_neg e, if_neg e]
     rcases findT_pruneT K t l (u :: seen) with h | ⟨h1, h2⟩
     ·
      exact .inl h
     ·
      exact .inr ⟨fun hm => h1 (.tail _ hm), h2⟩
   ·
    by_cases e : t = u
    ·
     subst e
     left
     exact pruneT_notK (by assumption) l seen
    ·
     rcases findT_pruneT K t l seen with h | ⟨h1, h2⟩
     ·
      exact .inl h
     ·
      refine .inr ⟨h1, ?_⟩
      rw [h2, findT_cons, if_neg e]
where
 pruneT_notK {K : List Nat} {t : Nat} (h : memN t K = false) : ∀ (l : List (Nat × AV)) (seen : List Nat), findT t (pruneT K l seen) = .s (.one .dead)
 | [], seen => rfl
 | (u, v) :: l, seen => by
  simp only [pruneT]
  split
  ·
   exact pruneT_notK h l seen
  ·
   split
   ·
    rename_i hu
    rw [findT_cons, if_neg]
    ·
     exact pruneT_notK h l _
    ·
     rintro rfl; rw [h] at hu; cases hu
   ·
    exact pruneT_notK h l seen
theorem Sim.prune {w0 : World} {Mu : MuT} {ρ : Rho} {s : AS} {a : Act} {w : World} (K : List Nat) (h : Sim w0 Mu ρ s a w) : Sim w0 Mu ρ (s.prune K) a w := by
 refine ⟨h.defers, h.nd, h.size, ?_, h.hold, h.own, h.sep, h.lt, h.mono, h.frame, h.pin, h.still, h.out, h.outp⟩
 intro t
 rcases findT_pruneT K t s.tmps [] with e | ⟨_, e⟩
 ·
  show RelV ρ s.S (findT t (pruneT K s.tmps [])) _
  rw [e]; exact relDead _ _ _
 ·
  show RelV ρ s.S (findT t (pruneT K s.tmps [])) _
  rw [e]; exact h.rel t
theorem Reaches.prune {c : Code} {s s' : AS} {e : X} (K : List Nat) (h : Reaches P c s e s') : Reaches P c s e (s'.prune K) :=
 fun w0 Mu ρ a w Q hs hQ => h w0 Mu ρ a w Q hs fun a' w' ρ' hs' => hQ a' w' ρ' (hs'.prune K)
theorem nodupN_iff : ∀ {l : List Nat}, nodupN l = true ↔ l.Nodup
 | [] => by simp [nodupN]
 | a :: l => by
  simp only [nodupN, Bool.and_eq_true, Bool.not_eq_true', List.nodup_cons, nodupN_iff (l := l)]
  rw [memN_false]
def SrcOf (s : AS) (f : List (Nat × Option Nat)) (n : Nat) (it : Item) : Prop :=
 ((n, none) ∈ f ∧ ∃ k es, it = .row k es [] ∧ PosK k es) ∨ (∃ m k es xs, (n, some m) ∈ f ∧ s.I m = some it ∧ it = .row k es xs)
theorem nrmSlots_spec (s : AS) : ∀ {sl : List NS} {ts : List (Nat × AV)} {is : List (Nat × Item)} {us : List Nat}, nrmSlots s sl = some (ts, is, us) →
  ∃ f : List (Nat × Option Nat), f.map (·.1) = rowNames sl ∧ f.filterMap (·.2) = us ∧ us.Nodup ∧ putNames is = rowNames sl ∧ (∀ n it, (n, it) ∈ is → SrcOf s f n it) ∧
   (∀ t v, (t, v) ∈ ts → (v = s.T t ∧ t ∈ tmpSlots sl) ∨ ∃ n, v = va (.own n) ∧ (((n, none) ∈ f ∧ s.T t = va .nils ∧ ∃ k es, (n, .row k es []) ∈ is) ∨ ∃ m it, (n, some m) ∈ f ∧ s.T t = va (.own m) ∧ (n, it) ∈ is ∧ s.I m = some it))
 | [], ts, is, us, h => by
  simp only [nrmSlots] at h
  injection h with h; injection h with h1 h2; injection h2 with h2 h3; subst h1; subst h2; subst h3
  exact ⟨[], rfl, rfl, List.nodup_nil, rfl, by simp, by simp⟩
 | .tmp t :: sl, ts, is, us, h => by
  simp only [nrmSlots] at h
  split at h
  ·
   rename_i ts' is' us' h'
   injection h with h; injection h with h1 h2; injection h2 with h2 h3; subst h1; subst h2; subst h3
   obtain ⟨f, g1, g2, g3, g4, g5, g6⟩ := nrmSlots_spec s h'
   refine ⟨f, by simpa [rowNames] using g1, g2, g3, by simpa [rowNames] using g4, g5, ?_⟩
   intro t' v hm
   rcases List.mem_cons.1 hm with e | hm
   ·
    injection e with e1 e2; subst e1; subst e2
    exact .inl ⟨rfl, by simp [tmpSlots]⟩
   ·
    rcases g6 t' v hm with ⟨h1, h2⟩ | h1
    ·
     exact .inl ⟨h1, by simp [tmpSlots, h2]⟩
    ·
     exact .inr h1
  ·
   cases h
 | .row t n k es :: sl, ts, is, us, h => by
  simp only [nrmSlots] at h
  split at h
  ·
   rename_i ts' is' us' h'
   obtain ⟨f, g1, g2, g3, g4, g5, g6⟩ := nrmSlots_spec s h'
   have lift5 : ∀ (x : Nat × Option Nat), ∀ n it, (n, it) ∈ is' → SrcOf s (x :: f) n it := by
    intro x n it hm
    rcases g5 n it hm with ⟨h1, h2⟩ | ⟨m, k, es, xs, h1, h2⟩
    ·
     exact .inl ⟨.tail _ h1, h2⟩
    ·
     exact .inr ⟨m, k, es, xs, .tail _ h1, h2⟩
   split at h
   ·
    rename_i hT
    split at h
    ·
     rename_i hes
     injection h with h; injection h with h1 h2; injection h2 with h2 h3; subst h1; subst h2; subst h3
     refine ⟨(n, none) :: f, by simp [rowNames, g1], by simpa using g2, g3, by simp [putNames, rowNames, g4], ?_, ?_⟩
     ·
      intro n' it hm
      rcases List.mem_cons.1 hm with e | hm
      ·
       injection e with e1 e2; subst e1; subst e2
       exact .inl ⟨.head _, k, es, rfl, posK_iff hes⟩
      ·
       exact lift5 _ n' it hm
     ·
      intro t' v hm
      rcases List.mem_cons.1 hm with e | hm
      ·
       injection e with e1 e2; subst e1; subst e2
       exact .inr ⟨n, rfl, .inl ⟨.head _, hT, k, es, .head _⟩⟩
      ·
       rcases g6 t' v hm with ⟨h1, h2⟩ | ⟨n', h1, ⟨h2, h3, k2, es2, h4⟩ | ⟨m, it, h2, h3, h4, h5⟩⟩
       ·
        exact .inl ⟨h1, by simpa [tmpSlots] using h2⟩
       ·
        exact .inr ⟨n', h1, .inl ⟨.tail _ h2, h3, k2, es2, .tail _ h4⟩⟩
       ·
        exact .inr ⟨n', h1, .inr ⟨m, it, .tail _ h2, h3, .tail _ h4, h5⟩⟩
    ·
     cases h
   ·
    rename_i m hT
    split at h
    ·
     rename_i k' es' xs hi
     split at h
     ·
      rename_i hb
      simp only [Bool.and_eq_true, Bool.not_eq_true'] at hb
      have e1 := rkEq_iff.1 hb.1; have e2 := beqT hb.2.1; have e3 := memN_false.1 hb.2.2
      subst e1; subst e2
      injection h with h; injection h with h1 h2; injection h2 with h2 h3; subst h1; subst h2; subst h3
      refine ⟨(n, some m) :: f, by simp [rowNames, g1], by simp [g2], by simp [e3, g3], by simp [putNames, rowNames, g4], ?_, ?_⟩
      ·
       intro n' it hm
       rcases List.mem_cons.1 hm with e | hm
       ·
        injection e with e1 e2; subst e1; subst e2
        exact .inr ⟨m, _, _, xs, .head _, hi, rfl⟩
       ·
        exact lift5 _ n' it hm
      ·
       intro t' v hm
       rcases List.mem_cons.1 hm with e | hm
       ·
        injection e with e1 e2; subst e1; subst e2
        exact .inr ⟨n, rfl, .inr ⟨m, _, .head _, hT, .head _, hi⟩⟩
       ·
        rcases g6 t' v hm with ⟨h1, h2⟩ | ⟨n', h1, ⟨h2, h3, k2, es2, h4⟩ | ⟨m', it, h2, h3, h4, h5⟩⟩
        ·
         exact .inl ⟨h1, by simpa [tmpSlots] using h2⟩
        ·
         exact .inr ⟨n', h1, .inl ⟨.tail _ h2, h3, k2, es2, .tail _ h4⟩⟩
        ·
         exact .inr ⟨n', h1, .inr ⟨m', it, .tail _ h2, h3, .tail _ h4, h5⟩⟩
     ·
      cases h
    ·
     cases h
   ·
    cases h
  ·
   cases h
theorem nrmItems_spec (s : AS) : ∀ {l : List Nat} {js : List (Nat × Item)}, nrmItems s l = some js → (putNames js).Sublist l ∧ ∀ n it, (n, it) ∈ js → s.I n = some it
 | [], js, h => by simp only [nrmItems] at h; injection h with h; subst h; exact ⟨List.Sublist.refl _, by simp⟩
 | n :: l, js, h => by
  simp only [nrmItems] at h
  split at h
  ·
   rename_i is h1
   obtain ⟨g1, g2⟩ := nrmItems_spec s h1
   split at h
   ·
    rename_i it h2
    injection h with h; subst h
    refine ⟨by simp only [putNames]; exact g1.cons_cons n, fun m jt hm => ?_⟩
    rcases List.mem_cons.1 hm with e | hm
    ·
     injection e with e1 e2; subst e1; subst e2; exact h2
    ·
     exact g2 m jt hm
   ·
    injection h with h; subst h
    exact ⟨g1.cons n, g2⟩
  ·
   cases h
theorem nodup'_of : ∀ {l : List (Nat × Item)}, (putNames l).Nodup → Nodup' l
 | [], _ => trivial
 | (n, it) :: l, h => by
  simp only [putNames, List.nodup_cons] at h
  exact ⟨h.1, nodup'_of h.2⟩
theorem findT_mem {t : Nat} : ∀ {l : List (Nat × AV)}, findT t l = .s (.one .dead) ∨ (t, findT t l) ∈ l
 | [] => .inl rfl
 | (u, v) :: l => by
  rw [findT_cons]
  split
  ·
   rename_i e; subst e; exact .inr (.head _)
  ·
   rcases findT_mem (t := t) (l := l) with h | h
   ·
    exact .inl h
   ·
    exact .inr (.tail _ h)
def look (f : List (Nat × Option Nat)) (n : Nat) : Option (Option Nat) := match f with
 | [] => none
 | (m, x) :: l => if n = m then some x else look l n
theorem look_mem {n : Nat} {x : Option Nat} : ∀ {f : List (Nat × Option Nat)}, (f.map (·.1)).Nodup → (n, x) ∈ f → look f n = some x
 | [], _, h => by cases h
 | (m, y) :: l, hn, h => by
  simp only [List.map_cons, List.nodup_cons] at hn
  simp only [look]
  rcases List.mem_cons.1 h with e | h
  ·
   injection e with e1 e2; subst e1; subst e2; rw [if_pos rfl]
  ·
   rw [if_neg]
   ·
    exact look_mem hn.2 h
   ·
    intro e
    exact hn.1 (List.mem_map.2 ⟨(n, x), h, e⟩)
theorem look_none {n : Nat} : ∀ {f : List (Nat × Option Nat)}, n ∉ f.map (·.1) → look f n = none
 | [], _ => rfl
 | (m, y) :: l, h => by
  simp only [List.map_cons, List.mem_cons, not_or] at h
  simp only [look]
  rw [if_neg h.1]; exact look_none h.2
theorem mem_us {f : List (Nat × Option Nat)} {n m : Nat} (h : (n, some m) ∈ f) : m ∈ f.filterMap (·.2) := List.mem_filterMap.2 ⟨_, h, rfl⟩
theorem src_inj : ∀ {f : List (Nat × Option Nat)} {n n' m : Nat}, (f.filterMap (·.2)).Nodup → (n, some m) ∈ f → (n', some m) ∈ f → n = n'
 | [], n, n', m, _, h, _ => by cases h
 | (a, x) :: l, n, n', m, hn, h, h' => by
  cases x with
  | none =>
   simp only [List.filterMap_cons] at hn
   rcases List.mem_cons.1 h with e | h
   ·
    injection e with _ e; cases e
   ·
    rcases List.mem_cons.1 h' with e | h'
    ·
     injection e with _ e; cases e
    ·
     exact src_inj hn h h'
  | some b =>
   simp only [List.filterMap_cons, List.nodup_cons] at hn
   rcases List.mem_cons.1 h with e | g
   ·
    injection e with e1 e2; injection e2 with e2
    rcases List.mem_cons.1 h' with e' | g'
    ·
     injection e' with e1' _; rw [e1, e1']
    ·
     exact absurd (mem_us (e2 ▸ g')) hn.1
   ·
    rcases List.mem_cons.1 h' with e' | g'
    ·
     injection e' with e1 e2; injection e2 with e2
     exact absurd (mem_us (e2 ▸ g)) hn.1
    ·
     exact src_inj hn.2 g g'
theorem Sim.nrm0 {w0 : World} {Mu : MuT} {ρ : Rho} {s s' : AS} {a : Act} {w : World} {ν : Nrm} (hs : Sim w0 Mu ρ s a w) (h : Eng.nrm0 ν s = some s') : ∃ ρ', Sim w0 Mu ρ' s' a w := by
  unfold Eng.nrm0 at h
  split at h
  · rename_i ts is us js h1 h2
    split at h
    · rename_i hb
      injection h with h; subst h
      simp only [Bool.and_eq_true, disj_iff] at hb
      obtain ⟨hb0, hb1, hb2, hb3, hb4⟩ := hb
      have hb1 := nodupN_iff.1 hb1
      obtain ⟨f, f1, f2, f3, f4, f5, f6⟩ := nrmSlots_spec s h1
      obtain ⟨j1, j2⟩ := nrmItems_spec s h2
      rw [List.nodup_append] at hb1
      obtain ⟨n1, n2, n3⟩ := hb1
      have hfn : (f.map (·.1)).Nodup := by rw [f1]; exact n2
      let ρ' : Rho := { loc := fun n => match look f n with | some (some m) => ρ.loc m | some none => none | none => ρ.loc n,
                        tot := fun n => match look f n with | some (some m) => ρ.tot m | some none => 0 | none => ρ.tot n, out := ρ.out }
      have hnd : Nodup' (is ++ js) := nodup'_of (by
        rw [putNames_append, f4, List.nodup_append]
        exact ⟨n2, n1.sublist j1, fun x hx y hy e => n3 y (j1.subset hy) x hx e.symm⟩)
      have hfind : ∀ n it, findI n (is ++ js) = some it → ((n, it) ∈ is) ∨ (n ∉ rowNames ν.slots ∧ n ∈ ν.items ∧ s.I n = some it) := by
        intro n it hh
        have hm := findI_mem hh
        rcases List.mem_append.1 hm with hm | hm
        · exact .inl hm
        · have hin : n ∈ ν.items := j1.subset (putNames_iff.2 ⟨it, hm⟩)
          exact .inr ⟨fun hr => n3 n hin n hr rfl, hin, j2 n it hm⟩
      have hfound : ∀ n it, (n, it) ∈ is ++ js → findI n (is ++ js) = some it := by
        intro n it hm
        have : ∀ {l : List (Nat × Item)}, Nodup' l → (n, it) ∈ l → findI n l = some it := by
          intro l
          induction l with
          | nil => intro _ h; cases h
          | cons x l ih =>
            obtain ⟨u, v⟩ := x
            intro hn h
            rw [findI_cons]
            rcases List.mem_cons.1 h with e | g
            · injection e with e1 e2; subst e1; subst e2; rw [if_pos rfl]
            · rw [if_neg]
              · exact ih hn.2 g
              · intro e; exact hn.1 (putNames_iff.2 ⟨it, e ▸ g⟩)
        exact this hnd hm
      have hag : ∀ n, n ∉ rowNames ν.slots → Agree ρ ρ' s.S (fun n => (findI n (is ++ js)).map Item.shape) n := by
        intro n hn
        have hl : look f n = none := look_none (by rw [f1]; exact hn)
        refine ⟨by simp only [ρ', hl], by simp only [ρ', hl], ?_⟩
        cases hh : findI n (is ++ js) with
        | none => right; show (findI n (is ++ js)).map Item.shape = none; rw [hh]; rfl
        | some it =>
          left
          rcases hfind n it hh with hm | ⟨_, _, hi⟩
          · exact absurd (by rw [← f4]; exact putNames_iff.2 ⟨it, hm⟩) hn
          · show (findI n (is ++ js)).map Item.shape = s.S n
            rw [hh, S_of hi]; rfl
      have hsrcloc : ∀ n it, (n, it) ∈ is → ∀ p, ρ'.loc n = some p → ∃ m, (n, some m) ∈ f ∧ s.I m = some it ∧ ρ.loc m = some p ∧ it.owned = true := by
        intro n it hm p hp
        rcases f5 n it hm with ⟨g1, g2⟩ | ⟨m, k, es, xs, g1, g2, g3⟩
        · have := look_mem hfn g1
          simp only [ρ', this] at hp; cases hp
        · have := look_mem hfn g1
          simp only [ρ', this] at hp
          exact ⟨m, g1, g2, hp, by rw [g3]; rfl⟩
      have hold' : ∀ n it, findI n (is ++ js) = some it → HoldI ρ' (fun n => (findI n (is ++ js)).map Item.shape) n w it := by
        intro n it hh
        rcases hfind n it hh with hm | ⟨hnr, hin, hi⟩
        · rcases f5 n it hm with ⟨g1, k, es, rfl, hes⟩ | ⟨m, k, es, xs, g1, g2, rfl⟩
          · have hl := look_mem hfn g1
            exact ⟨hes, ⟨0, by simp⟩, .inl ⟨by simp only [ρ', hl], rfl, by simp only [ρ', hl]⟩⟩
          · have hl := look_mem hfn g1
            obtain ⟨e1, e2, e3⟩ := hs.hold m _ g2
            refine ⟨e1, e2, ?_⟩
            have l1 : ρ'.loc n = ρ.loc m := by simp only [ρ', hl]
            have l2 : ρ'.tot n = ρ.tot m := by simp only [ρ', hl]
            rw [l1, l2]; exact e3
        · refine (hs.hold n it hi).frame ⟨(hag n hnr).1, (hag n hnr).2.1⟩ (fun m hm => hag m fun hr => ?_) (fun _ _ => rfl) (fun b hb => ⟨hb, rfl⟩)
          refine hb4 m hr ?_
          have hjs : (n, it) ∈ js := by
            rcases List.mem_append.1 (findI_mem hh) with hm' | hm'
            · exact absurd (by rw [← f4]; exact putNames_iff.2 ⟨it, hm'⟩) hnr
            · exact hm'
          exact putSays_mem hjs hm
      have horig : ∀ n it p, findI n (is ++ js) = some it → ρ'.loc n = some p → ∃ m, s.I m = some it ∧ ρ.loc m = some p ∧ ((n, some m) ∈ f ∨ (m = n ∧ n ∈ ν.items ∧ n ∉ rowNames ν.slots)) := by
        intro n it p hh hp
        rcases hfind n it hh with hm | ⟨hnr, hin, hi⟩
        · obtain ⟨m, g1, g2, g3, _⟩ := hsrcloc n it hm p hp
          exact ⟨m, g2, g3, .inl g1⟩
        · exact ⟨n, hi, by rw [← (hag n hnr).1]; exact hp, .inr ⟨rfl, hin, hnr⟩⟩
      refine ⟨ρ', hs.defers, hnd, hs.size, ?_, hold', ?_, ?_, ?_, hs.mono, hs.frame, fun n hn => ?_, hs.still, hs.out, hs.outp⟩
      · intro t
        show RelV ρ' (fun n => (findI n (is ++ js)).map Item.shape) (findT t ts) _
        rcases findT_mem (t := t) (l := ts) with e | hm
        · rw [e]; exact relDead _ _ _
        · rcases f6 t _ hm with ⟨e, hsl⟩ | ⟨n, e, ⟨g1, g2, k, es, g3⟩ | ⟨m, it, g1, g2, g3, g4⟩⟩
          · rw [e]
            exact (hs.rel t).frame fun n hn => hag n fun hr => hb3 n hr (plain_mem hsl hn)
          · rw [e]
            have hr := hs.rel t
            rw [g2] at hr
            have hv : a.tmps.getD t undef = .slice none 0 0 := by simpa [RelV, RelSV, RelAt, va] using hr
            rw [hv]
            have hS := hfound n _ (List.mem_append.2 (.inl g3))
            have hl := look_mem hfn g1
            show RelAt ρ' (fun n => (findI n (is ++ js)).map Item.shape) (.own n) [.slice none 0 0]
            simp only [RelAt, hS, Option.map_some, Item.shape, List.length_nil, rl_zero]
            exact ⟨0, by simp only [ρ', hl]; rfl, Nat.le_refl _, fun _ => rfl, by simp⟩
          · rw [e]
            have hr := hs.rel t
            rw [g2] at hr
            have hS := hfound n _ (List.mem_append.2 (.inl g3))
            have hl := look_mem hfn g1
            have hr' : RelAt ρ s.S (.own m) [a.tmps.getD t undef] := hr
            obtain ⟨k, es, xs, rfl⟩ : ∃ k es xs, it = .row k es xs := by
              rcases f5 n it g3 with ⟨_, k, es, e2, _⟩ | ⟨_, k, es, xs, _, _, e2⟩
              · exact ⟨k, es, [], e2⟩
              · exact ⟨k, es, xs, e2⟩
            show RelAt ρ' (fun n => (findI n (is ++ js)).map Item.shape) (.own n) [a.tmps.getD t undef]
            simp only [RelAt, S_of g4, Item.shape] at hr'
            simp only [RelAt, hS, Option.map_some, Item.shape]
            have l1 : ρ'.loc n = ρ.loc m := by simp only [ρ', hl]
            have l2 : ρ'.tot n = ρ.tot m := by simp only [ρ', hl]
            rw [l1, l2]; exact hr'
      · intro n it p hh ho hp
        obtain ⟨m, g1, g2, _⟩ := horig n it p hh hp
        exact hs.own m it p g1 ho g2
      · intro n m it it' p q hh hh' ho hne hp hq
        obtain ⟨n', g1, g2, g3⟩ := horig n it p hh hp
        obtain ⟨m', k1, k2, k3⟩ := horig m it' q hh' hq
        refine hs.sep n' m' it it' p q g1 k1 ho (fun e => ?_) g2 k2
        subst e
        rcases g3 with g3 | ⟨g3, g4, g5⟩
        · rcases k3 with k3 | ⟨k3, k4, k5⟩
          · exact hne (src_inj (by rw [f2]; exact f3) g3 k3)
          · subst k3
            exact hb2 n' (by rw [← f2]; exact mem_us g3) k4
        · subst g3
          rcases k3 with k3 | ⟨k3, k4, k5⟩
          · exact hb2 n' (by rw [← f2]; exact mem_us k3) g4
          · exact hne k3
      · intro n it p hh hp
        obtain ⟨m, g1, g2, _⟩ := horig n it p hh hp
        exact hs.lt m it p g1 g2
      · have hn : n < s.lo ∨ hiN ≤ n := hn
        have hnr : n ∉ rowNames ν.slots := fun hr => by
          have h1 := leAll_mem hb0.1 hr
          have h2 := ltAll_iff.1 hb0.2 n hr
          omega
        obtain ⟨g1, g2, g3⟩ := hag n hnr
        obtain ⟨p1, p2, p3⟩ := hs.pin n hn
        refine ⟨g1.trans p1, g2.trans p2, ?_⟩
        rcases g3 with g3 | g3
        · have g3' : (AS.S { n := s.n, lo := s.lo, tmps := ts, items := is ++ js }) n = s.S n := g3
          rw [g3']; exact p3
        · exact .inr g3
    · cases h
  · cases h
where
  leAll_mem : ∀ {l : List Nat} {a b : Nat}, leAll a l = true → b ∈ l → a ≤ b
    | [], _, _, _, h => by cases h
    | c :: l, a, b, h, hm => by
      simp only [leAll, Bool.and_eq_true] at h
      rcases List.mem_cons.1 hm with e | hm
      · subst e; exact ble_iff.1 h.1
      · exact leAll_mem h.2 hm
  putSays_mem : ∀ {js : List (Nat × Item)} {n m : Nat} {it : Item}, (n, it) ∈ js → m ∈ it.names → m ∈ putSays js
    | [], n, m, it, h, _ => by cases h
    | (u, v) :: js, n, m, it, h, hm => by
      simp only [putSays]
      rcases List.mem_cons.1 h with e | h
      · injection e with e1 e2; subst e2; exact List.mem_append.2 (.inl hm)
      · exact List.mem_append.2 (.inr (putSays_mem h hm))
  plain_mem : ∀ {l : List Nat} {t n : Nat}, t ∈ l → n ∈ (s.T t).names → n ∈ plainNames s l
    | [], t, n, h, _ => by cases h
    | u :: l, t, n, h, hn => by
      simp only [plainNames]
      rcases List.mem_cons.1 h with e | h
      · subst e; exact List.mem_append.2 (.inl hn)
      · exact List.mem_append.2 (.inr (plain_mem h hn))
def unN (lo m : Nat) : Nat := match Nat.blt m lo || Nat.ble hiN m with | true => m | false => m - 1048576
theorem shOk_mem {lo : Nat} : ∀ {l : List Nat} {n : Nat}, shOk lo l = true → n ∈ l → (n < lo ∨ hiN ≤ n) ∨ (lo ≤ n ∧ n + 1048576 < hiN)
 | m :: l, n, h, hn => by
  simp only [shOk, Bool.and_eq_true] at h
  rcases List.mem_cons.1 hn with e | hn
  ·
   subst e
   have h := h.1
   split at h
   ·
    rename_i hb
    left
    simp only [Bool.or_eq_true] at hb
    rcases hb with hb | hb
    ·
     left; exact ble_iff.1 (show Nat.ble (n + 1) lo = true from hb)
    ·
     right; exact ble_iff.1 hb
   ·
    rename_i hb
    right
    simp only [Bool.or_eq_false_iff] at hb
    refine ⟨?_, ble_iff.1 (show Nat.ble (n + 1048576 + 1) hiN = true from h)⟩
    apply Nat.le_of_not_lt
    intro hlt
    have : Nat.blt n lo = true := ble_iff.2 hlt
    rw [this] at hb; cases hb.1
  ·
   exact shOk_mem h.2 hn
theorem shN_fix {lo n : Nat} (h : n < lo ∨ hiN ≤ n) : shN lo n = n ∧ unN lo n = n := by
 have hb : (Nat.blt n lo || Nat.ble hiN n) = true := by
  rw [Bool.or_eq_true]
  rcases h with h | h
  ·
   left; exact ble_iff.2 h
  ·
   right; exact ble_iff.2 h
 unfold shN unN
 rw [hb]; exact ⟨rfl, rfl⟩
theorem shN_not {lo n : Nat} (h1 : lo ≤ n) (h2 : n < hiN) : (Nat.blt n lo || Nat.ble hiN n) = false := by
 rw [Bool.or_eq_false_iff]
 constructor
 ·
  cases hb : Nat.blt n lo with
  | false => rfl
  | true => have := ble_iff.1 (show Nat.ble (n + 1) lo = true from hb); omega
 ·
  cases hb : Nat.ble hiN n with
  | false => rfl
  | true => have := ble_iff.1 hb; omega
theorem unN_shN {lo n : Nat} (h : (n < lo ∨ hiN ≤ n) ∨ (lo ≤ n ∧ n + 1048576 < hiN)) : unN lo (shN lo n) = n := by
 rcases h with h | ⟨h1, h2⟩
 ·
  rw [(shN_fix h).1, (shN_fix h).2]
 ·
  have e : shN lo n = n + 1048576 := by unfold shN; rw [shN_not h1 (by omega)]
  rw [e]; unfold unN; rw [shN_not (by omega) h2]; simp
theorem find_shT (f : Nat → Nat) (t : Nat) : ∀ (l : List (Nat × AV)), findT t (shT f l) = rnV f (findT t l)
 | [] => rfl
 | (u, v) :: l => by
  simp only [shT, findT_cons, find_shT f t l]
  split <;> rfl
theorem mem_shI {f : Nat → Nat} {m : Nat} {jt : Item} : ∀ {l : List (Nat × Item)}, (m, jt) ∈ shI f l → ∃ n it, (n, it) ∈ l ∧ m = f n ∧ jt = rnI f it
 | (u, it) :: l, h => by
  rcases List.mem_cons.1 h with e | h
  ·
   injection e with e1 e2; exact ⟨u, it, .head _, e1, e2⟩
  ·
   obtain ⟨n, it', h1, h2, h3⟩ := mem_shI h
   exact ⟨n, it', .tail _ h1, h2, h3⟩
theorem names_shI {f : Nat → Nat} {m : Nat} : ∀ {l : List (Nat × Item)}, m ∈ putNames (shI f l) → ∃ n, n ∈ putNames l ∧ m = f n
 | (u, it) :: l, h => by
  rcases List.mem_cons.1 h with e | h
  ·
   exact ⟨u, .head _, e⟩
  ·
   obtain ⟨n, h1, h2⟩ := names_shI h
   exact ⟨n, .tail _ h1, h2⟩
theorem mem_findI {n : Nat} {it : Item} : ∀ {l : List (Nat × Item)}, Nodup' l → (n, it) ∈ l → findI n l = some it
 | (u, jt) :: l, hn, h => by
  rw [findI_cons]
  rcases List.mem_cons.1 h with e | h
  ·
   injection e with e1 e2; subst e1; subst e2; rw [if_pos rfl]
  ·
   have : n ≠ u := fun e => hn.1 (e ▸ putNames_iff.2 ⟨it, h⟩)
   rw [if_neg this]; exact mem_findI hn.2 h
theorem noDv_mem {n : Nat} {it : Item} : ∀ {l : List (Nat × Item)}, noDv l = true → (n, it) ∈ l → ∀ k es rows, it ≠ .dview k es rows
 | (u, jt) :: l, h, hm, k, es, rows => by
  simp only [noDv, Bool.and_eq_true] at h
  rcases List.mem_cons.1 hm with e | hm
  ·
   injection e with e1 e2; subst e2
   intro e; subst e; cases h.1
  ·
   exact noDv_mem h.2 hm k es rows
theorem nodup_shI {lo : Nat} : ∀ {l : List (Nat × Item)}, Nodup' l → shOk lo (putNames l) = true → Nodup' (shI (shN lo) l)
 | [], _, _ => trivial
 | (u, it) :: l, hn, ho => by
  simp only [putNames] at ho
  have hl : shOk lo (putNames l) = true := by simp only [shOk, Bool.and_eq_true] at ho; exact ho.2
  refine ⟨fun hm => ?_, nodup_shI hn.2 hl⟩
  obtain ⟨n, h1, h2⟩ := names_shI hm
  have e1 := unN_shN (shOk_mem ho (.head _))
  have e2 := unN_shN (shOk_mem ho (.tail _ h1))
  rw [h2, e2] at e1
  exact hn.1 (e1 ▸ h1)
theorem namesT_mem' {t n : Nat} : ∀ {l : List (Nat × AV)}, n ∈ (findT t l).names → n ∈ namesT l
 | [], h => by simp [findT, AV.names, SV.names, At.names] at h
 | (u, v) :: l, h => by
  rw [findT_cons] at h
  simp only [namesT, List.mem_append]
  split at h
  ·
   exact .inl h
  ·
   exact .inr (namesT_mem' h)
theorem Sim.shift {w0 : World} {Mu : MuT} {ρ : Rho} {s s' : AS} {a : Act} {w : World} (hs : Sim w0 Mu ρ s a w) (h : shiftS s = some s') : ∃ ρ', Sim w0 Mu ρ' s' a w := by
 unfold shiftS at h
 split at h
 ·
  rename_i hb
  injection h with h; subst h
  simp only [Bool.and_eq_true] at hb
  obtain ⟨b1, b2, b3, b4⟩ := hb
  let ρ' : Rho := { loc := fun m => ρ.loc (unN s.lo m), tot := fun m => ρ.tot (unN s.lo m), out := ρ.out }
  let s2 : AS := { n := s.n, lo := s.lo, tmps := shT (shN s.lo) s.tmps, items := shI (shN s.lo) s.items }
  have hnd : Nodup' s2.items := nodup_shI hs.nd b2
  have inv : ∀ n, n ∈ putNames s.items ∨ n ∈ namesT s.tmps ∨ n ∈ putSays s.items → unN s.lo (shN s.lo n) = n := fun n hn => by
   rcases hn with hn | hn | hn
   ·
    exact unN_shN (shOk_mem b2 hn)
   ·
    exact unN_shN (shOk_mem b3 hn)
   ·
    exact unN_shN (shOk_mem b4 hn)
  have ofI : ∀ m jt, s2.I m = some jt → ∃ n it, s.I n = some it ∧ m = shN s.lo n ∧ jt = rnI (shN s.lo) it ∧ unN s.lo m = n ∧ (n, it) ∈ s.items := fun m jt hm => by
   obtain ⟨n, it, h1, h2, h3⟩ := mem_shI (findI_mem hm)
   refine ⟨n, it, mem_findI hs.nd h1, h2, h3, ?_, h1⟩
   rw [h2]; exact inv n (.inl (putNames_iff.2 ⟨it, h1⟩))
  have Sat : ∀ n, (n ∈ putNames s.items ∨ n ∈ namesT s.tmps ∨ n ∈ putSays s.items) → s2.S (shN s.lo n) = s.S n ∨ s2.S (shN s.lo n) = none := fun n hn => by
   cases hi : s2.I (shN s.lo n) with
   | none => right; unfold AS.S; rw [hi]; rfl
   | some jt =>
    left
    obtain ⟨n', it, h1, h2, h3, h4, _⟩ := ofI _ _ hi
    have e : n' = n := by rw [← h4]; exact inv n hn
    subst e
    rw [S_of hi, S_of h1, h3, rnI_shape]
  have ren : ∀ n, (n ∈ putNames s.items ∨ n ∈ namesT s.tmps ∨ n ∈ putSays s.items) → Ren (shN s.lo) ρ ρ' s.S s2.S n := fun n hn =>
   ⟨by show ρ.loc (unN s.lo (shN s.lo n)) = _; rw [inv n hn], by show ρ.tot (unN s.lo (shN s.lo n)) = _; rw [inv n hn], Sat n hn⟩
  refine ⟨ρ', ?_⟩
  show Sim w0 Mu ρ' s2 a w
  refine ⟨hs.defers, hnd, hs.size, ?_, ?_, ?_, ?_, ?_, hs.mono, hs.frame, ?_, hs.still, hs.out, hs.outp⟩
  ·
   intro t
   have e : s2.T t = rnV (shN s.lo) (s.T t) := find_shT _ t s.tmps
   rw [e]
   exact (hs.rel t).ren fun n hn => ren n (.inr (.inl (namesT_mem' hn)))
  ·
   intro m jt hm
   obtain ⟨n, it, h1, h2, h3, h4, h5⟩ := ofI m jt hm
   rw [h2, h3]
   have hr := ren n (.inl (putNames_iff.2 ⟨it, h5⟩))
   exact (hs.hold n it h1).ren ⟨hr.loc, hr.tot⟩ (fun k hk => ren k (.inr (.inr (Sim.nrm0.putSays_mem h5 hk)))) (noDv_mem b1 h5)
  ·
   intro m jt p hm ho hp
   obtain ⟨n, it, h1, h2, h3, h4, h5⟩ := ofI m jt hm
   exact hs.own n it p h1 (by rw [h3, rnI_owned] at ho; exact ho) (by rw [← h4]; exact hp)
  ·
   intro m m2 jt jt2 p q hm hm2 ho hne hp hq
   obtain ⟨n, it, h1, h2, h3, h4, h5⟩ := ofI m jt hm
   obtain ⟨n2, it2, g1, g2, g3, g4, g5⟩ := ofI m2 jt2 hm2
   exact hs.sep n n2 it it2 p q h1 g1 (by rw [h3, rnI_owned] at ho; exact ho) (fun e => hne (by rw [h2, g2, e])) (by rw [← h4]; exact hp) (by rw [← g4]; exact hq)
  ·
   intro m jt p hm hp
   obtain ⟨n, it, h1, h2, h3, h4, h5⟩ := ofI m jt hm
   exact hs.lt n it p h1 (by rw [← h4]; exact hp)
  ·
   intro n hn
   obtain ⟨p1, p2, p3⟩ := hs.pin n hn
   have hf := shN_fix (lo := s.lo) hn
   refine ⟨by show ρ.loc (unN s.lo n) = _; rw [hf.2]; exact p1, by show ρ.tot (unN s.lo n) = _; rw [hf.2]; exact p2, ?_⟩
   cases hi : s2.I n with
   | none => right; unfold AS.S; rw [hi]; rfl
   | some jt =>
    obtain ⟨n', it, h1, h2, h3, h4, h5⟩ := ofI _ _ hi
    rw [hf.2] at h4
    subst h4
    rw [S_of hi, h3, rnI_shape, ← S_of h1]
    exact p3
 ·
  cases h
theorem Sim.nrm {w0 : World} {Mu : MuT} {ρ : Rho} {s s' : AS} {a : Act} {w : World} {ν : Nrm} (hs : Sim w0 Mu ρ s a w) (h : Eng.nrm ν s = some s') : ∃ ρ', Sim w0 Mu ρ' s' a w := by
 unfold Eng.nrm at h
 split at h
 ·
  exact hs.shift h
 ·
  exact hs.nrm0 h
end
def purgeAllA : List (Nat × Item) → AV → AV
 | [], v => v
 | (d, _) :: r, v => purgeAllA r (purgeA d v)
theorem findT_purgeAllT_eq (t : Nat) : ∀ (f : List (Nat × Item)) (l : List (Nat × AV)), findT t (purgeAllT f l) = purgeAllA f (findT t l)
 | [], l => rfl
 | (d, i) :: f, l => by simp only [purgeAllT, purgeAllA, findT_purgeAllT_eq t f, findT_purgeT]
theorem purgeAllA_id : ∀ {f : List (Nat × Item)} {v : AV}, (∀ n ∈ putNames f, n ∉ v.names) → purgeAllA f v = v
 | [], v, _ => rfl
 | (d, i) :: f, v, h => by
  have h1 : purgeA d v = v := by
   unfold purgeA; rw [memN_false.2 (h d (.head _))]
  rw [purgeAllA, h1]
  exact purgeAllA_id fun n hn => h n (.tail _ hn)
open Classical in
def clash (f : List Nat) : Option Item → Option Item
 | none => none
 | some it => if ∃ x ∈ f, x ∈ it.names then none else some it
theorem clash_id {f : List Nat} {o : Option Item} (h : ∀ x ∈ f, ∀ it, o = some it → x ∉ it.names) : clash f o = o := by
 cases o with
 | none => rfl
 | some it =>
  simp only [clash]
  rw [if_neg]
  rintro ⟨x, h1, h2⟩
  exact h x h1 it rfl h2
theorem findI_purgeI_eq {t d : Nat} : ∀ {l : List (Nat × Item)}, Nodup' l → findI t (purgeI d l) = if t = d then none else clash [d] (findI t l)
 | [], _ => by simp [purgeI, findI, clash]
 | (u, v) :: l, ⟨h1, h2⟩ => by
  have ih := findI_purgeI_eq (t := t) (d := d) h2
  simp only [purgeI]
  split
  ·
   rename_i hu
   have hu := beqT hu; subst hu
   rw [ih, findI_cons]
   by_cases e : t = u
   ·
    simp [e]
   ·
    simp [e]
  ·
   rename_i hu
   split
   ·
    rename_i hm
    have hm := memN_iff.1 hm
    rw [ih, findI_cons]
    by_cases e : t = u
    ·
     subst e
     rw [if_pos (rfl : t = t), findI_none h1, if_neg (beqN hu), if_neg (beqN hu)]
     simp [clash, hm]
    ·
     rw [if_neg e]
   ·
    rename_i hm
    have hm := memN_false.1 hm
    rw [findI_cons, ih, findI_cons]
    by_cases e : t = u
    ·
     subst e
     rw [if_pos rfl, if_pos rfl, if_neg (beqN hu)]
     simp [clash, hm]
    ·
     rw [if_neg e, if_neg e]
theorem clash_clash {a : Nat} {f : List Nat} {o : Option Item} : clash f (clash [a] o) = clash (a :: f) o := by
 cases o with
 | none => rfl
 | some it =>
  simp only [clash]
  by_cases h : a ∈ it.names
  ·
   simp [h, clash]
  ·
   simp [h, clash]
theorem findI_purgeAllI_eq {t : Nat} : ∀ {f l : List (Nat × Item)}, Nodup' l → findI t (purgeAllI f l) = if t ∈ putNames f then none else clash (putNames f) (findI t l)
 | [], l, _ => by
  simp only [purgeAllI, putNames, List.not_mem_nil, if_false]
  exact (clash_id (by simp)).symm
 | (d, i) :: f, l, hn => by
  simp only [purgeAllI, putNames]
  rw [findI_purgeAllI_eq (nodup_purgeI hn), findI_purgeI_eq hn]
  by_cases h1 : t ∈ putNames f
  ·
   simp [h1]
  ·
   by_cases h2 : t = d
   ·
    simp [h2]; intro _; rfl
   ·
    simp [h1, h2, clash_clash]
theorem findI_none_iff {n : Nat} : ∀ {l : List (Nat × Item)}, findI n l = none ↔ n ∉ putNames l
 | [] => by simp [findI, putNames]
 | (u, v) :: l => by
  rw [findI_cons]
  simp only [putNames, List.mem_cons, not_or]
  by_cases h : n = u
  ·
   simp [h]
  ·
   rw [if_neg h, findI_none_iff (l := l)]; simp [h]
def Delta.lookT (d : Delta) (t : Nat) (v : AV) : AV := match d.tmp with
 | some (u, x) => if t = u then x else purgeAllA d.fresh v
 | none => purgeAllA d.fresh v
def Delta.lookI (d : Delta) (n : Nat) (o : Option Item) : Option Item := match findI n d.fresh with
 | some it => some it
 | none => match findI n d.put with
  | some it => some it
  | none => clash (putNames d.fresh) (if n ∈ d.gone then none else o)
theorem apply_T_eq (s : AS) (d : Delta) (t : Nat) : (s.apply d).T t = d.lookT t (s.T t) := by
 unfold AS.T AS.apply Delta.lookT
 cases hd : d.tmp with
 | none => exact findT_purgeAllT_eq _ _ _
 | some p =>
  obtain ⟨u, x⟩ := p
  show findT t ((u, x) :: purgeAllT d.fresh s.tmps) = _
  rw [findT_cons, findT_purgeAllT_eq]
theorem apply_I_eq {s : AS} {d : Delta} (hn : Nodup' s.items) (n : Nat) : (s.apply d).I n = d.lookI n (s.I n) := by
 unfold AS.I AS.apply Delta.lookI
 show findI n (d.fresh ++ dropAllI (putNames d.fresh) (putAllI d.put (purgeAllI d.fresh (dropAllI d.gone s.items)))) = _
 rw [findI_append]
 cases hf : findI n d.fresh with
 | some it => rfl
 | none =>
  show findI n (dropAllI (putNames d.fresh) (putAllI d.put (purgeAllI d.fresh (dropAllI d.gone s.items)))) = _
  rw [find_dropAll, if_neg (findI_none_iff.1 hf), find_putAll]
  cases hp : findI n d.put with
  | some it => rfl
  | none =>
   show findI n (purgeAllI d.fresh (dropAllI d.gone s.items)) = _
   rw [findI_purgeAllI_eq (nodup_dropAll hn), if_neg (findI_none_iff.1 hf), find_dropAll]
structure Eqv (s t : AS) : Prop where
 n : s.n = t.n
 lo : s.lo = t.lo
 T : s.T = t.T
 I : s.I = t.I
theorem Eqv.refl (s : AS) : Eqv s s := ⟨rfl, rfl, rfl, rfl⟩
theorem Eqv.symm {s t : AS} (h : Eqv s t) : Eqv t s := ⟨h.n.symm, h.lo.symm, h.T.symm, h.I.symm⟩
theorem Eqv.trans {s t u : AS} (h : Eqv s t) (h' : Eqv t u) : Eqv s u := ⟨h.n.trans h'.n, h.lo.trans h'.lo, h.T.trans h'.T, h.I.trans h'.I⟩
theorem Eqv.apply {s t : AS} (h : Eqv s t) (hs : Nodup' s.items) (ht : Nodup' t.items) (d : Delta) : Eqv (s.apply d) (t.apply d) := by
 refine ⟨h.n, h.lo, ?_, ?_⟩
 ·
  funext u; rw [apply_T_eq, apply_T_eq, h.T]
 ·
  funext u; rw [apply_I_eq hs, apply_I_eq ht, h.I]
theorem Sim.eqv {w0 : World} {Mu : MuT} {ρ : Rho} {s t : AS} {a : Act} {w : World} (h : Sim w0 Mu ρ s a w) (e : Eqv s t) (hn : Nodup' t.items) : Sim w0 Mu ρ t a w := by
 have hS : s.S = t.S := by unfold AS.S; rw [e.I]
 refine ⟨h.defers, hn, e.n ▸ h.size, ?_, ?_, ?_, ?_, ?_, h.mono, h.frame, by rw [← e.lo, ← hS]; exact h.pin, h.still, h.out, h.outp⟩
 ·
  intro u; rw [← hS, ← e.T]; exact h.rel u
 ·
  intro n it hi; rw [← hS]; rw [← e.I] at hi; exact h.hold n it hi
 ·
  rw [← e.I]; exact h.own
 ·
  rw [← e.I]; exact h.sep
 ·
  rw [← e.I]; exact h.lt
theorem evAll_congr {ev ev' : Operand → AV} : ∀ {l : List Operand}, (∀ x ∈ l, ev x = ev' x) → evAll ev l = evAll ev' l
 | [], _ => rfl
 | x :: l, h => by rw [evAll, evAll, h x (.head _), evAll_congr fun y hy => h y (.tail _ hy)]
theorem evParts_congr {ev ev' : Operand → AV} : ∀ {l : List (Nat × Operand)}, (∀ x ∈ partOps l, ev x = ev' x) → evParts ev l = evParts ev' l
 | [], _ => rfl
 | (i, x) :: l, h => by
  simp only [partOps] at h
  rw [evParts, evParts, h x (.head _), evParts_congr fun y hy => h y (.tail _ hy)]
theorem opt_congr {ev ev' : Operand → AV} : ∀ {x : Option Operand}, (∀ y ∈ optL x, ev y = ev' y) → opt ev x = opt ev' x
 | none, _ => rfl
 | some x, h => by rw [opt, opt, h x (by simp [optL])]
theorem stepCore_congr {Θ : Types} {Γ : Ctx} {op : Op} {dst : Option Nat} {ev ev' : Operand → AV} {I : Nat → Option Item} (h : ∀ x ∈ opsOf op, ev x = ev' x) :
    stepCore Θ Γ op dst ev I = stepCore Θ Γ op dst ev' I := by
  cases op
  case slice t x lo hi mx =>
    simp only [opsOf, List.mem_cons, List.mem_append] at h
    simp only [stepCore]
    rw [h x (.inl rfl), opt_congr (x := lo) fun y hy => h y (.inr (.inl hy)), opt_congr (x := hi) fun y hy => h y (.inr (.inr (.inl hy))),
      opt_congr (x := mx) fun y hy => h y (.inr (.inr (.inr hy)))]
  case build t ps =>
    simp only [opsOf] at h
    simp only [stepCore]
    rw [evParts_congr h]
  case buildSlice t l ps =>
    simp only [opsOf] at h
    simp only [stepCore]
    rw [evParts_congr h]
  case call c =>
    simp only [opsOf, List.mem_append] at h
    simp only [stepCore]
    rw [evAll_congr fun y hy => h y (.inr hy)]
    split
    · rfl
    · rename_i f hf
      rw [hf] at h
      rw [h f (.inl (by simp))]
    · rfl
  all_goals first
    | rfl
    | (simp only [opsOf, List.mem_cons, List.not_mem_nil, or_false, forall_eq_or_imp, forall_eq] at h
       simp only [stepCore, h])
theorem tmpsOf_mem {t : Nat} : ∀ {l : List Operand}, .tmp t ∈ l → t ∈ tmpsOf l
 | [], h => by cases h
 | x :: l, h => by
  rcases List.mem_cons.1 h with e | h
  ·
   subst e; exact .head _
  ·
   have := tmpsOf_mem h
   cases x <;> first | exact .tail _ this | exact this
theorem evO_congr {T T' : Nat → AV} {l : List Operand} (h : ∀ t ∈ tmpsOf l, T t = T' t) : ∀ x ∈ l, evO T x = evO T' x := by
 intro x hx
 cases x with
 | tmp t => exact h t (tmpsOf_mem hx)
 | _ => rfl
theorem opNames_congr {ev ev' : Operand → AV} : ∀ {l : List Operand}, (∀ x ∈ l, ev x = ev' x) → opNames ev l = opNames ev' l
 | [], _ => rfl
 | x :: l, h => by rw [opNames, opNames, h x (.head _), opNames_congr fun y hy => h y (.tail _ hy)]
theorem restrict_congr {l : List Nat} {I I' : Nat → Option Item} (h : ∀ n ∈ l, I n = I' n) : restrict l I = restrict l I' := by
 funext n
 unfold restrict
 split
 ·
  rename_i hm; exact h n (memN_iff.1 hm)
 ·
  rfl
theorem guardOf_congr {ops : List Oper} {T T' : Nat → AV} {g : Option (Nat × Bool)} (h : ∀ t ∈ guardTmp ops g, T t = T' t) : guardOf ops T g = guardOf ops T' g := by
 unfold guardOf
 split
 ·
  rfl
 ·
  rename_i j want
  split
  ·
   rename_i d hd
   rw [h d (by simp [guardTmp, hd, optL])]
  ·
   rfl
theorem itemNames_congr {I I' : Nat → Option Item} : ∀ {l : List Nat}, (∀ n ∈ l, I n = I' n) → itemNames I l = itemNames I' l
 | [], _ => rfl
 | n :: l, h => by rw [itemNames, itemNames, h n (.head _), itemNames_congr fun y hy => h y (.tail _ hy)]
theorem clos_congr {I I' : Nat → Option Item} : ∀ (k : Nat) {l : List Nat}, (∀ n ∈ closN I k l, I n = I' n) → closN I k l = closN I' k l
 | 0, _, _ => rfl
 | k + 1, l, h => by
  have h1 : itemNames I l = itemNames I' l := itemNames_congr fun n hn => h n (clos_sub (k + 1) hn)
  show closN I k (unionN (itemNames I l) l) = closN I' k (unionN (itemNames I' l) l)
  rw [← h1]
  exact clos_congr k h
theorem opReads_congr {op : Op} {ev ev' : Operand → AV} {I I' : Nat → Option Item} (h : ∀ x ∈ opsOf op, ev x = ev' x) (hI : ∀ n ∈ opReads op ev I, I n = I' n) : opReads op ev I = opReads op ev' I' := by
 have h2 := opNames_congr h
 unfold opReads at hI ⊢
 split
 ·
  rename_i c
  simp only at hI
  rw [clos_congr 4 hI, h2]
 ·
  rfl
 ·
  rfl
 ·
  rfl
 ·
  exact h2
theorem stepG_congr {Θ : Types} {Γ : Ctx} {ops : List Oper} {o : Oper} {s t : AS} (hn : s.n = t.n) (hlo : s.lo = t.lo)
  (hT : ∀ u ∈ tmpsOf (opsOf o.op) ++ guardTmp ops o.guard, s.T u = t.T u) (hI : ∀ n ∈ opReads o.op (evO s.T) s.I, s.I n = t.I n) :
  stepG Θ Γ ops o s = stepG Θ Γ ops o t ∧ ∀ d, logOf ops o s.T s.I d = logOf ops o t.T t.I d := by
 have h1 : ∀ x ∈ opsOf o.op, evO s.T x = evO t.T x := evO_congr fun u hu => hT u (List.mem_append.2 (.inl hu))
 have h2 : opReads o.op (evO s.T) s.I = opReads o.op (evO t.T) t.I := opReads_congr h1 hI
 have h3 : guardOf ops s.T o.guard = guardOf ops t.T o.guard := guardOf_congr fun u hu => hT u (List.mem_append.2 (.inr hu))
 have h4 : stepD Θ Γ o s.T s.I = stepD Θ Γ o t.T t.I := by
  unfold stepD
  rw [stepCore_congr h1, restrict_congr hI, h2]
 constructor
 ·
  have h5 : stepG0 Θ Γ ops o s = stepG0 Θ Γ ops o t := by
   unfold stepG0
   have : dstOk s o = dstOk t o := by unfold dstOk; rw [hn, hlo]
   rw [this, h3, h4]
  unfold stepG
  rw [h5]
 ·
  intro d; unfold logOf; rw [h2]
structure Lbl where
 i : Nat
 o : Oper
 d : Delta
 lg : Log
def NoM (s : AS) (f : Nat) : Prop := (∀ t, f ∉ (s.T t).names) ∧ ∀ n it, s.I n = some it → f ∉ it.names
structure SayOk (x : Lbl) : Prop where
 wt : x.lg.wt = match x.d.tmp with | some (u, _) => [u] | none => []
 writes : x.lg.writes = putNames x.d.fresh ++ (putNames x.d.put ++ x.d.gone)
 says : x.lg.says = (match x.d.tmp with | some (_, v) => v.names | none => []) ++ (putSays x.d.fresh ++ putSays x.d.put)
 fresh : x.lg.fresh = putNames x.d.fresh
theorem sayOk_of {ops : List Oper} {x : Lbl} {T : Nat → AV} {I : Nat → Option Item} (h : x.lg = logOf ops x.o T I x.d) : SayOk x := by
 constructor <;> rw [h] <;> rfl
theorem NoM.apply {s : AS} {x : Lbl} {f : Nat} (hn : Nodup' s.items) (hx : SayOk x) (h : NoM s f) (hf : f ∉ x.lg.says) : NoM (s.apply x.d) f := by
 rw [hx.says] at hf
 simp only [List.mem_append, not_or] at hf
 obtain ⟨f1, f2, f3⟩ := hf
 constructor
 ·
  intro t
  rcases AS.apply_T s x.d t with ⟨v, h1, h2⟩ | ⟨_, h2 | ⟨h2, _⟩⟩
  ·
   rw [h2]; rw [h1] at f1; exact f1
  ·
   rw [h2]; simp [AV.names, SV.names, At.names]
  ·
   rw [h2]; exact h.1 t
 ·
  intro n it hi
  rcases AS.apply_I hn hi with h1 | ⟨_, _, h1 | ⟨_, _, h1⟩⟩
  ·
   exact fun hm => f2 (Sim.nrm0.putSays_mem (findI_mem h1) hm)
  ·
   exact fun hm => f3 (Sim.nrm0.putSays_mem (findI_mem h1) hm)
  ·
   exact h.2 n it h1
theorem lookT_of_not {x : Lbl} (hx : SayOk x) {s : AS} (hf : ∀ f ∈ x.lg.fresh, NoM s f) {t : Nat} (h : t ∉ x.lg.wt) : (s.apply x.d).T t = s.T t := by
 rw [apply_T_eq]
 rw [hx.wt] at h
 have h1 : purgeAllA x.d.fresh (s.T t) = s.T t := purgeAllA_id fun f hm => (hf f (hx.fresh ▸ hm)).1 t
 unfold Delta.lookT
 split
 ·
  rename_i u v hu
  rw [hu] at h
  rw [if_neg (by simpa using h), h1]
 ·
  exact h1
theorem lookI_of_not {x : Lbl} (hx : SayOk x) {s : AS} (hn : Nodup' s.items) (hf : ∀ f ∈ x.lg.fresh, NoM s f) {n : Nat} (h : n ∉ x.lg.writes) : (s.apply x.d).I n = s.I n := by
 rw [apply_I_eq hn]
 rw [hx.writes] at h
 simp only [List.mem_append, not_or] at h
 unfold Delta.lookI
 rw [findI_none h.1, findI_none h.2.1]
 simp only [if_neg h.2.2]
 exact clash_id fun f hm it hi => (hf f (hx.fresh ▸ hm)).2 n it hi
theorem lookT_same {x : Lbl} (hx : SayOk x) (s t : AS) {u : Nat} (h : u ∈ x.lg.wt) : (s.apply x.d).T u = (t.apply x.d).T u := by
 rw [apply_T_eq, apply_T_eq]
 rw [hx.wt] at h
 unfold Delta.lookT
 split
 ·
  rename_i u' v hu
  rw [hu] at h
  have : u = u' := by simpa using h
  rw [if_pos this, if_pos this]
 ·
  rename_i hu; rw [hu] at h; cases h
theorem lookI_same {x : Lbl} (hx : SayOk x) {s t : AS} (hs : Nodup' s.items) (ht : Nodup' t.items) {n : Nat} (h : n ∈ x.lg.writes) : (s.apply x.d).I n = (t.apply x.d).I n := by
 rw [apply_I_eq hs, apply_I_eq ht]
 rw [hx.writes] at h
 simp only [List.mem_append] at h
 unfold Delta.lookI
 cases h1 : findI n x.d.fresh with
 | some it => rfl
 | none =>
  cases h2 : findI n x.d.put with
  | some it => rfl
  | none =>
   have h3 : n ∈ x.d.gone := by
    rcases h with h | h | h
    ·
     exact absurd h (findI_none_iff.1 h1)
    ·
     exact absurd h (findI_none_iff.1 h2)
    ·
     exact h
   simp only [if_pos h3]
structure Apart (a b : Log) : Prop where
 wr : ∀ t ∈ a.wt, t ∉ b.rt
 rw : ∀ t ∈ b.wt, t ∉ a.rt
 ww : ∀ t ∈ a.wt, t ∉ b.wt
 iwr : ∀ n ∈ a.writes, n ∉ b.reads
 irw : ∀ n ∈ b.writes, n ∉ a.reads
 iww : ∀ n ∈ a.writes, n ∉ b.writes
 iws : ∀ n ∈ a.fresh, n ∉ b.says
theorem apartL_spec {a b : Log} (h : apartL a b = true) : Apart a b := by
 simp only [apartL, Bool.and_eq_true, disj_iff] at h
 obtain ⟨h1, h2, h3, h4, h5, h6, h7⟩ := h
 exact ⟨h1, h2, h3, h4, h5, h6, h7⟩
section
variable {P : Program} {Γ : Ctx} {Θ : Types} {ops : List Oper}
inductive LChain (P : Program) (Γ : Ctx) (Θ : Types) (ops : List Oper) : List Lbl → AS → AS → Prop
 | nil {s s' : AS} (h : Eqv s s') : LChain P Γ Θ ops [] s s'
 | cons {x : Lbl} {l : List Lbl} {s s' : AS} (h : StepOut P Γ Θ ops s x.o x.d) (hl : x.lg = logOf ops x.o s.T s.I x.d) (r : LChain P Γ Θ ops l (s.apply x.d) s') : LChain P Γ Θ ops (x :: l) s s'
def FreshNd (x : Lbl) : Prop := Nodup' x.d.fresh
theorem Eqv.step {s t : AS} (e : Eqv s t) (o : Oper) : stepG Θ Γ ops o s = stepG Θ Γ ops o t ∧ ∀ d, logOf ops o s.T s.I d = logOf ops o t.T t.I d :=
 stepG_congr e.n e.lo (fun u _ => by rw [e.T]) (fun n _ => by rw [e.I])
theorem LChain.eqv {l : List Lbl} {s s' : AS} (h : LChain P Γ Θ ops l s s') : ∀ {t : AS}, (∀ x ∈ l, FreshNd x) → Nodup' s.items → Nodup' t.items → Eqv s t → LChain P Γ Θ ops l t s' := by
 induction h with
 | nil h => intro t _ _ _ e; exact .nil (e.symm.trans h)
 | @cons x l s s' h hl r ih =>
  intro t hf hs ht e
  obtain ⟨e1, e2⟩ := e.step (Θ := Θ) (Γ := Γ) (ops := ops) x.o
  refine .cons (by unfold StepOut at h ⊢; rw [← e1]; exact h) (by rw [hl]; exact e2 _) ?_
  exact ih (fun y hy => hf y (.tail _ hy)) (AS.apply_nd hs (hf x (.head _))) (AS.apply_nd ht (hf x (.head _))) (e.apply hs ht x.d)
def Pair (x y : Lbl) : Prop := ∀ f ∈ y.lg.fresh, f ∉ x.lg.says
theorem LChain.swap {x y : Lbl} {l : List Lbl} {s s' : AS} (hs : Nodup' s.items) (hfd : ∀ z ∈ x :: y :: l, FreshNd z) (hx : ∀ f ∈ x.lg.fresh, NoM s f) (hy : ∀ f ∈ y.lg.fresh, NoM s f)
  (hp : Pair x y) (ha : Apart x.lg y.lg) (h : LChain P Γ Θ ops (x :: y :: l) s s') : LChain P Γ Θ ops (y :: x :: l) s s' := by
 cases h with
 | cons h1 hl1 r =>
  cases r with
  | cons h2 hl2 r =>
   have sx := sayOk_of hl1
   have sy := sayOk_of hl2
   have fx := hfd x (.head _)
   have fy := hfd y (.tail _ (.head _))
   have rty : y.lg.rt = tmpsOf (opsOf y.o.op) ++ guardTmp ops y.o.guard := by rw [hl2]; rfl
   have rdy : y.lg.reads = opReads y.o.op (evO (s.apply x.d).T) (s.apply x.d).I := by rw [hl2]; rfl
   have rtx : x.lg.rt = tmpsOf (opsOf x.o.op) ++ guardTmp ops x.o.guard := by rw [hl1]; rfl
   have rdx : x.lg.reads = opReads x.o.op (evO s.T) s.I := by rw [hl1]; rfl
   obtain ⟨c1, c2⟩ := stepG_congr (Θ := Θ) (Γ := Γ) (ops := ops) (o := y.o) (s := s.apply x.d) (t := s) rfl rfl
    (fun u hu => lookT_of_not sx hx fun hw => ha.wr u hw (rty ▸ hu))
    (fun n hn => lookI_of_not sx hs hx fun hw => ha.iwr n hw (rdy ▸ hn))
   obtain ⟨d1, d2⟩ := stepG_congr (Θ := Θ) (Γ := Γ) (ops := ops) (o := x.o) (s := s) (t := s.apply y.d) rfl rfl
    (fun u hu => (lookT_of_not sy hy fun hw => ha.rw u hw (rtx ▸ hu)).symm)
    (fun n hn => (lookI_of_not sy hs hy fun hw => ha.irw n hw (rdx ▸ hn)).symm)
   have n1 := AS.apply_nd hs fx
   have n2 := AS.apply_nd hs fy
   have n12 := AS.apply_nd n1 fy
   have n21 := AS.apply_nd n2 fx
   have fxy : ∀ f ∈ x.lg.fresh, f ∉ y.lg.says := fun f hf => ha.iws f hf
   have hy' : ∀ f ∈ y.lg.fresh, NoM (s.apply x.d) f := fun f hf => (hy f hf).apply hs sx (hp f hf)
   have hx' : ∀ f ∈ x.lg.fresh, NoM (s.apply y.d) f := fun f hf => (hx f hf).apply hs sy (fxy f hf)
   refine .cons (by unfold StepOut at h2 ⊢; rw [← c1]; exact h2) (by rw [hl2]; exact c2 _) (.cons (by unfold StepOut at h1 ⊢; rw [← d1]; exact h1) (by rw [hl1]; exact d2 _) ?_)
   refine r.eqv (fun z hz => hfd z (.tail _ (.tail _ hz))) n12 n21 ⟨rfl, rfl, ?_, ?_⟩
   ·
    funext u
    by_cases ux : u ∈ x.lg.wt
    ·
     rw [lookT_of_not sy hy' (ha.ww u ux)]; exact lookT_same sx _ _ ux
    ·
     rw [lookT_of_not sx hx' ux]
     by_cases uy : u ∈ y.lg.wt
     ·
      exact lookT_same sy _ _ uy
     ·
      rw [lookT_of_not sy hy' uy, lookT_of_not sx hx ux, lookT_of_not sy hy uy]
   ·
    funext u
    by_cases ux : u ∈ x.lg.writes
    ·
     rw [lookI_of_not sy n1 hy' (ha.iww u ux)]; exact lookI_same sx hs n2 ux
    ·
     rw [lookI_of_not sx n2 hx' ux]
     by_cases uy : u ∈ y.lg.writes
     ·
      exact lookI_same sy n1 hs uy
     ·
      rw [lookI_of_not sy n1 hy' uy, lookI_of_not sx hs hx ux, lookI_of_not sy hs hy uy]
theorem LChain.front {x : Lbl} {l2 : List Lbl} {s' : AS} : ∀ {l1 : List Lbl} {s : AS}, Nodup' s.items → (∀ z ∈ l1 ++ x :: l2, FreshNd z) → (∀ z ∈ l1 ++ x :: l2, ∀ f ∈ z.lg.fresh, NoM s f) →
  (l1 ++ x :: l2).Pairwise Pair → (∀ y ∈ l1, Apart y.lg x.lg) → LChain P Γ Θ ops (l1 ++ x :: l2) s s' → LChain P Γ Θ ops (x :: (l1 ++ l2)) s s'
 | [], s, _, _, _, _, _, h => h
 | y :: l1, s, hs, hfd, hno, hpw, hap, h => by
  cases h with
  | cons h1 hl1 r =>
   have sy := sayOk_of hl1
   simp only [List.cons_append, List.pairwise_cons] at hpw
   have hr := LChain.front (l1 := l1) (s := s.apply y.d) (AS.apply_nd hs (hfd y (.head _))) (fun z hz => hfd z (.tail _ hz))
    (fun z hz f hf => (hno z (.tail _ hz) f hf).apply hs sy (hpw.1 z hz f hf)) hpw.2 (fun z hz => hap z (.tail _ hz)) r
   have hxm : x ∈ l1 ++ x :: l2 := by simp
   refine LChain.swap hs ?_ (hno y (.head _)) (hno x (.tail _ hxm)) (hpw.1 x hxm) (hap y (.head _)) (.cons h1 hl1 hr)
   intro z hz
   apply hfd z
   have hz : z ∈ y :: x :: (l1 ++ l2) := hz
   simp only [List.cons_append, List.mem_cons, List.mem_append] at hz ⊢
   rcases hz with h | h | h | h
   ·
    exact .inl h
   ·
    exact .inr (.inr (.inl h))
   ·
    exact .inr (.inl h)
   ·
    exact .inr (.inr (.inr h))
end
section
variable {P : Program} {Γ : Ctx} {Θ : Types}
structure LsOk (ops : Array Oper) (anc : Nat → List Nat) (rem : List Lbl) (listed : Array Bool) : Prop where
 size : listed.size = ops.size
 idx : ∀ x ∈ rem, ops[x.i]? = some x.o
 lst : ∀ i, i < ops.size → (listed.getD i true = false ↔ ∃ x ∈ rem, x.i = i)
 inc : rem.Pairwise fun x y => x.i < y.i
 pair : rem.Pairwise fun x y => Pair x y ∧ (x.i ∈ anc y.i ∨ Apart x.lg y.lg)
 closed : ∀ i, i < ops.size → (∀ x ∈ rem, x.i ≠ i) → ∀ j ∈ anc i, ∀ x ∈ rem, x.i ≠ j
 edges : ∀ i o, ops[i]? = some o → ∀ e ∈ o.after.toList, Region.binds .any e = true → e.on < i ∧ e.on ∈ anc i
 anc : ∀ i o, ops[i]? = some o → ∀ j ∈ anc i, ∃ e ∈ o.after.toList, Region.binds .any e = true ∧ (j = e.on ∨ j ∈ anc e.on)
theorem mem_ready {ops : Array Oper} {listed : Array Bool} {i : Nat} : i ∈ Region.ready .any ops listed ↔ i < ops.size ∧ listed.getD i true = false ∧ ∃ o, ops[i]? = some o ∧ ∀ e ∈ o.after.toList, Region.binds .any e = true → listed.getD e.on false = true := by
 unfold Region.ready
 simp only [List.mem_filter, List.mem_range, Bool.and_eq_true, Bool.not_eq_true']
 constructor
 ·
  rintro ⟨h1, h2, h3⟩
  refine ⟨h1, h2, ops[i], Array.getElem?_eq_getElem h1, ?_⟩
  rw [Array.getElem?_eq_getElem h1] at h3
  simp only [Option.map_some, Option.getD_some] at h3
  rw [← Array.all_toList] at h3
  intro e he hb
  have := List.all_eq_true.1 h3 e he
  simpa [hb] using this
 ·
  rintro ⟨h1, h2, o, h3, h4⟩
  refine ⟨h1, h2, ?_⟩
  rw [h3]
  simp only [Option.map_some, Option.getD_some]
  rw [← Array.all_toList]
  refine List.all_eq_true.2 fun e he => ?_
  cases hb : Region.binds .any e with
  | false => simp
  | true => simpa using h4 e he hb
theorem any_ops (hΘ : TypesOk P Θ) (hΓ : CtxOk P Γ) {ops : Array Oper} {anc : Nat → List Nat} {s' : AS} (hs' : Nodup' s'.items) :
  ∀ (fuel : Nat) (rem : List Lbl) (listed : Array Bool) (s : AS), rem.length = fuel → LsOk ops anc rem listed → LChain P Γ Θ ops.toList rem s s' → (∀ x ∈ rem, FreshNd x) →
   (∀ x ∈ rem, ∀ f ∈ x.lg.fresh, NoM s f) → dstsOk s.n ops.toList = true → ∀ {w0 Mu ρ a w} {Q : Exit → Act → World → Prop}, Sim w0 Mu ρ s a w → (∀ a' w' ρ', Sim w0 Mu ρ' s' a' w' → Q .normal a' w') →
   wpAny P .any ops Q fuel listed a w := by
 intro fuel
 induction fuel with
 | zero =>
  intro rem listed s hlen hls hch _ _ _ w0 Mu ρ a w Q hs hQ
  have : rem = [] := List.eq_nil_of_length_eq_zero hlen
  subst this
  cases hch with
  | nil e =>
   refine ⟨?_, hQ _ _ ρ (hs.eqv e hs')⟩
   cases hr : Region.ready .any ops listed with
   | nil => rfl
   | cons i l =>
    have hi : i ∈ Region.ready .any ops listed := by rw [hr]; exact .head _
    obtain ⟨h1, h2, _⟩ := mem_ready.1 hi
    obtain ⟨x, hx, _⟩ := (hls.lst i h1).1 h2
    cases hx
 | succ fuel ih =>
  intro rem listed s hlen hls hch hfd hno hok w0 Mu ρ a w Q hs hQ
  have hnl : ∀ j, listed.getD j false = true → ∀ z ∈ rem, z.i ≠ j := by
   intro j hj z hz e
   subst e
   have hlt : z.i < ops.size := by
    have := hls.idx z hz
    by_cases h : z.i < ops.size
    ·
     exact h
    ·
     rw [Array.getElem?_eq_none (by omega)] at this; cases this
   have h2 := (hls.lst z.i hlt).2 ⟨z, hz, rfl⟩
   rw [Array.getD_eq_getD_getElem?, Array.getElem?_eq_getElem (by rw [hls.size]; exact hlt)] at hj h2
   simp only [Option.getD_some] at hj h2
   rw [hj] at h2; cases h2
  constructor
  ·
   intro hr
   exfalso
   cases rem with
   | nil => simp at hlen
   | cons x0 rest =>
    have hx := hls.idx x0 (.head _)
    have hlt : x0.i < ops.size := by
     by_cases h : x0.i < ops.size
     ·
      exact h
     ·
      rw [Array.getElem?_eq_none (by omega)] at hx; cases hx
    have : x0.i ∈ Region.ready .any ops listed := by
     refine mem_ready.2 ⟨hlt, (hls.lst _ hlt).2 ⟨x0, .head _, rfl⟩, x0.o, hx, fun e he hb => ?_⟩
     obtain ⟨e1, _⟩ := hls.edges _ _ hx e he hb
     have hlt2 : e.on < ops.size := by omega
     by_cases hg : listed.getD e.on false = true
     ·
      exact hg
     ·
      exfalso
      have hg' : listed.getD e.on true = false := by
       rw [Array.getD_eq_getD_getElem?, Array.getElem?_eq_getElem (by rw [hls.size]; exact hlt2)] at hg ⊢
       simpa using hg
      obtain ⟨z, hz, hzi⟩ := (hls.lst _ hlt2).1 hg'
      have hinc := hls.inc
      rw [List.pairwise_cons] at hinc
      rcases List.mem_cons.1 hz with e2 | hz
      ·
       subst e2; omega
      ·
       have := hinc.1 z hz; omega
    rw [hr] at this; cases this
  ·
   intro i hi
   obtain ⟨hlt, hl, o, ho, hedge⟩ := mem_ready.1 hi
   obtain ⟨x, hx, rfl⟩ := (hls.lst i hlt).1 hl
   have hxo := hls.idx x hx
   have hoe : o = x.o := by rw [ho] at hxo; injection hxo
   subst hoe
   have hancx : ∀ k ∈ anc x.i, ∀ z ∈ rem, z.i ≠ k := by
    intro k hk z hz
    obtain ⟨e, he, hb, h1⟩ := hls.anc _ _ ho k hk
    have hlis := hnl _ (hedge e he hb)
    rcases h1 with rfl | h1
    ·
     exact hlis z hz
    ·
     have hlt2 := (hls.edges _ _ ho e he hb).1
     exact hls.closed e.on (by omega) hlis k h1 z hz
   obtain ⟨l1, l2, rfl⟩ := List.append_of_mem hx
   have hpair := hls.pair
   have hinc := hls.inc
   rw [List.pairwise_append] at hpair hinc
   have hap : ∀ y ∈ l1, Apart y.lg x.lg := by
    intro y hy
    rcases (hpair.2.2 y hy x (.head _)).2 with h | h
    ·
     exact absurd rfl (hancx _ h y (List.mem_append.2 (.inl hy)))
    ·
     exact h
   have hpw : (l1 ++ x :: l2).Pairwise Pair := hls.pair.imp fun h => h.1
   have hne : ∀ z ∈ l1 ++ l2, z.i ≠ x.i := by
    intro z hz
    rcases List.mem_append.1 hz with hz | hz
    ·
     have := hinc.2.2 z hz x (.head _); omega
    ·
     have := (List.pairwise_cons.1 hinc.2.1).1 z hz; omega
   have hsub : (l1 ++ l2).Sublist (l1 ++ x :: l2) := List.Sublist.append (List.Sublist.refl _) (List.sublist_cons_self _ _)
   have hmem : ∀ z ∈ l1 ++ l2, z ∈ l1 ++ x :: l2 := fun z hz => hsub.subset hz
   have hfr := LChain.front hs.nd hfd hno hpw hap hch
   cases hfr with
   | cons h1 hl1 r =>
    have sx := sayOk_of hl1
    unfold wpOp
    simp only [ho]
    have hstep := stepG_sound hΘ hΓ hok h1 w0 Mu ρ a w Q (wpAny P .any ops Q fuel (listed.setIfInBounds x.i true)) hs (fun a' w' ρ' hs'' => by
     refine ih (l1 ++ l2) _ (s.apply x.d) ?_ ?_ r (fun z hz => hfd z (hmem z hz)) ?_ hok hs'' hQ
     ·
      simp only [List.length_append, List.length_cons] at hlen ⊢; omega
     ·
      refine ⟨by simp [hls.size], fun z hz => hls.idx z (hmem z hz), ?_, hls.inc.sublist hsub, hls.pair.sublist hsub, ?_, hls.edges, hls.anc⟩
      ·
       intro j hj
       rw [Array.getD_eq_getD_getElem?, Array.getElem?_setIfInBounds]
       by_cases e : x.i = j
       ·
        subst e
        rw [if_pos rfl, if_pos (by rw [hls.size]; exact hj)]
        simp only [Option.getD_some]
        constructor
        ·
         intro h; cases h
        ·
         rintro ⟨z, hz, e⟩; exact absurd e (hne z hz)
       ·
        rw [if_neg e, ← Array.getD_eq_getD_getElem?, hls.lst j hj]
        constructor
        ·
         rintro ⟨z, hz, rfl⟩
         refine ⟨z, ?_, rfl⟩
         simp only [List.mem_append, List.mem_cons] at hz ⊢
         rcases hz with h | h | h
         ·
          exact .inl h
         ·
          subst h; exact absurd rfl e
         ·
          exact .inr h
        ·
         rintro ⟨z, hz, rfl⟩; exact ⟨z, hmem z hz, rfl⟩
      ·
       intro j hj hnj k hk z hz
       by_cases e : j = x.i
       ·
        subst e; exact hancx k hk z (hmem z hz)
       ·
        refine hls.closed j hj ?_ k hk z (hmem z hz)
        intro z' hz' e'
        simp only [List.mem_append, List.mem_cons] at hz'
        rcases hz' with h | h | h
        ·
         exact hnj z' (List.mem_append.2 (.inl h)) e'
        ·
         subst h; exact e e'.symm
        ·
         exact hnj z' (List.mem_append.2 (.inr h)) e'
     ·
      intro z hz f hf
      refine (hno z (hmem z hz) f hf).apply hs.nd sx ?_
      rcases List.mem_append.1 hz with h | h
      ·
       exact (hap z h).iws f hf
      ·
       exact (List.pairwise_cons.1 hpair.2.1).1 z h |>.1 f hf)
    split at hstep
    ·
     rename_i hw; rw [if_pos hw]; exact .inl hstep
    ·
     rename_i hw; rw [if_neg hw]; exact hstep
end
section
variable {P : Program} {Γ : Ctx} {Θ : Types}
theorem snoc_eq {α : Type} (l : List α) (a : α) : snoc l a = l ++ [a] := by
 induction l with
 | nil => rfl
 | cons b l ih => simp [snoc, ih]
structure LblOk (ops : List Oper) (B : List Nat) (i : Nat) (l : List Oper) (ancs az : List (List Nat)) (logs : List Log) (rem : List Lbl) (j : Nat) (x : Lbl) : Prop where
 idx : x.i = i + j
 op : l[j]? = some x.o
 nd : FreshNd x
 base : ∀ f ∈ x.lg.fresh, f ∉ B
 anc : az[j]? = some (ancOf (ancs ++ az.take j) x.o.after.toList)
 back : edgesBack (i + j) x.o.after.toList = true
 apart : apartAll (ancOf (ancs ++ az.take j) x.o.after.toList) x.lg 0 (logs ++ (rem.take j).map (·.lg)) = true
theorem runDraw_spec {R : Type} (hΓ : CtxOk P Γ) {ops : List Oper} {B : List Nat} : ∀ (l : List Oper) (i : Nat) (ancs : List (List Nat)) (logs : List Log) (s : AS) (k : AS → Option R) (r : R), runDraw Θ Γ ops B l i ancs logs s k = some r →
  ∃ (rem : List Lbl) (az : List (List Nat)) (s' : AS), k s' = some r ∧ (Nodup' s.items → Nodup' s'.items) ∧ LChain P Γ Θ ops rem s s' ∧ rem.length = l.length ∧ az.length = l.length ∧ ∀ j x, rem[j]? = some x → LblOk ops B i l ancs az logs rem j x
 | [], i, ancs, logs, s, k, r, h => by
  simp only [runDraw] at h
  exact ⟨[], [], s, h, id, .nil (.refl s), rfl, rfl, by simp⟩
 | o :: l, i, ancs, logs, s, k, r, h => by
  simp only [runDraw] at h
  obtain ⟨d, h1, h2⟩ := D.run_out hΓ _ _ _ h
  split at h2
  ·
   rename_i hb
   simp only [Bool.and_eq_true, disj_iff] at hb
   obtain ⟨b1, b2, b3, b4⟩ := hb
   obtain ⟨rem, az, s', g1, g2, g3, g4, g5, g6⟩ := runDraw_spec hΓ l _ _ _ _ k r h2
   have hfd : Nodup' d.fresh := nodup'_of (nodupN_iff.1 b2)
   refine ⟨⟨i, o, d, logOf ops o s.T s.I d⟩ :: rem, ancOf ancs o.after.toList :: az, s', g1, fun hn => g2 (AS.apply_nd hn hfd), .cons h1 rfl g3, by simp [g4], by simp [g5], ?_⟩
   intro j x hj
   cases j with
   | zero =>
    simp only [List.getElem?_cons_zero, Option.some.injEq] at hj
    subst hj
    exact ⟨rfl, rfl, hfd, b3, by simp, b1, by simpa using b4⟩
   | succ j =>
    simp only [List.getElem?_cons_succ] at hj
    have := g6 j x hj
    rw [snoc_eq, snoc_eq] at this
    exact ⟨by rw [this.idx]; omega, by simpa using this.op, this.nd, this.base, by simpa using this.anc, by have := this.back; rwa [show i + (j + 1) = i + 1 + j by omega], by simpa using this.apart⟩
  ·
   cases h2
theorem edgesBack_spec {i : Nat} : ∀ {l : List Edge}, edgesBack i l = true → ∀ e ∈ l, Region.binds .any e = true → e.on < i
 | [], _, e, he, _ => by cases he
 | a :: l, h, e, he, hb => by
  simp only [edgesBack, Bool.and_eq_true] at h
  rcases List.mem_cons.1 he with e1 | he
  ·
   subst e1
   rw [hb] at h
   have := ble_iff.1 (show Nat.ble (e.on + 1) i = true from h.1)
   omega
  ·
   exact edgesBack_spec h.2 e he hb
theorem ancOf_on {ancs : List (List Nat)} : ∀ {l : List Edge} {e : Edge}, e ∈ l → Region.binds .any e = true → e.on ∈ ancOf ancs l
 | [], e, he, _ => by cases he
 | a :: l, e, he, hb => by
  rcases List.mem_cons.1 he with e1 | he
  ·
   subst e1
   simp only [ancOf, hb]; exact mem_unionN.2 (.inl (.head _))
  ·
   have := ancOf_on (ancs := ancs) he hb
   simp only [ancOf]
   split
   ·
    exact mem_unionN.2 (.inr this)
   ·
    exact this
theorem ancOf_of {ancs : List (List Nat)} {j : Nat} : ∀ {l : List Edge}, j ∈ ancOf ancs l → ∃ e ∈ l, Region.binds .any e = true ∧ (j = e.on ∨ j ∈ ancs.getD e.on [])
 | [], h => by cases h
 | a :: l, h => by
  simp only [ancOf] at h
  split at h
  ·
   rename_i hb
   rcases mem_unionN.1 h with h | h
   ·
    rcases List.mem_cons.1 h with e | h
    ·
     exact ⟨a, .head _, hb, .inl e⟩
    ·
     exact ⟨a, .head _, hb, .inr h⟩
   ·
    obtain ⟨e, he, h⟩ := ancOf_of h
    exact ⟨e, .tail _ he, h⟩
  ·
   obtain ⟨e, he, h⟩ := ancOf_of h
   exact ⟨e, .tail _ he, h⟩
theorem apartAll_spec {anc : List Nat} {lg : Log} : ∀ {l : List Log} {i : Nat}, apartAll anc lg i l = true → ∀ j lg', l[j]? = some lg' → (∀ f ∈ lg.fresh, f ∉ lg'.says) ∧ (i + j ∈ anc ∨ Apart lg' lg)
 | [], i, _, j, lg', h => by simp at h
 | a :: l, i, h, j, lg', hj => by
  simp only [apartAll, Bool.and_eq_true, disj_iff, Bool.or_eq_true] at h
  cases j with
  | zero =>
   simp only [List.getElem?_cons_zero, Option.some.injEq] at hj
   subst hj
   refine ⟨h.1, ?_⟩
   rcases h.2.1 with h | h
   ·
    exact .inl (memN_iff.1 h)
   ·
    exact .inr (apartL_spec h)
  | succ j =>
   have := apartAll_spec h.2.2 j lg' (by simpa using hj)
   rwa [show i + (j + 1) = i + 1 + j by omega]
theorem namesT_find {t : Nat} {l : List (Nat × AV)} {n : Nat} (h : n ∈ (findT t l).names) : n ∈ namesT l := by
 rcases findT_mem (t := t) (l := l) with e | hm
 ·
  rw [e] at h; simp [AV.names, SV.names, At.names] at h
 ·
  revert hm h
  generalize findT t l = v
  intro h hm
  induction l with
  | nil => cases hm
  | cons x l ih =>
   obtain ⟨u, v'⟩ := x
   simp only [namesT]
   rcases List.mem_cons.1 hm with e | hm
   ·
    injection e with e1 e2; subst e2; exact List.mem_append.2 (.inl h)
   ·
    exact List.mem_append.2 (.inr (ih hm))
theorem draw_reaches (hΘ : TypesOk P Θ) (hΓ : CtxOk P Γ) (hm : P.follows .mixedOrders = true) {R : Type} {id : Nat} {ops : Array Oper} {s : AS} {k : AS → Option R} {r : R} (hok : dstsOk s.n ops.toList = true)
  (h : runDraw Θ Γ ops.toList (namesT s.tmps ++ putSays s.items) ops.toList 0 [] [] s k = some r) : ∃ s', k s' = some r ∧ Reaches P (.region id ops true) s .normal s' := by
 obtain ⟨rem, az, s', g1, g2, g3, g4, g5, g6⟩ := runDraw_spec hΓ _ _ _ _ _ _ _ h
 refine ⟨s', g1, fun w0 Mu ρ a w Q hs hQ => ?_⟩
 refine wp_region_any hm ?_
 have hs2 : Sim w0 Mu ρ s a { w with drawn := w.drawn + 1 } := by
  refine ⟨hs.defers, hs.nd, hs.size, hs.rel, ?_, hs.own, hs.sep, hs.lt, hs.mono, hs.frame, hs.pin, hs.still, hs.out, hs.outp⟩
  intro n it hi
  exact (hs.hold n it hi).frame ⟨rfl, rfl⟩ (fun m _ => ⟨rfl, rfl, .inl rfl⟩) (fun _ _ => rfl) (fun b hb => ⟨hb, rfl⟩)
 have hsz : ops.size = rem.length := by rw [g4]; simp
 have hget : ∀ x ∈ rem, ∃ j, rem[j]? = some x ∧ LblOk ops.toList (namesT s.tmps ++ putSays s.items) 0 ops.toList [] az [] rem j x := by
  intro x hx
  obtain ⟨j, hj⟩ := List.getElem?_of_mem hx
  exact ⟨j, hj, g6 j x hj⟩
 have hanc : ∀ i o, ops[i]? = some o → az.getD i [] = ancOf (az.take i) o.after.toList ∧ edgesBack i o.after.toList = true := by
  intro i o ho
  have hlt : i < rem.length := by
   rw [← hsz]
   by_cases h : i < ops.size
   ·
    exact h
   ·
    rw [Array.getElem?_eq_none (by omega)] at ho; cases ho
  have hL := g6 i _ (List.getElem?_eq_getElem hlt)
  have h1 := hL.op
  have : rem[i].o = o := by
   rw [Array.getElem?_toList, ho] at h1; injection h1 with h1; exact h1.symm
  have h2 := hL.anc
  have h3 := hL.back
  rw [this] at h2 h3
  simp only [List.nil_append] at h2
  refine ⟨by rw [List.getD_eq_getElem?_getD, h2]; rfl, by simpa using h3⟩
 refine any_ops hΘ hΓ (anc := fun i => az.getD i []) (g2 hs.nd) ops.size rem _ s (by omega) ?_ g3 ?_ ?_ hok hs2 hQ
 ·
  refine ⟨by simp, ?_, ?_, ?_, ?_, ?_, ?_, ?_⟩
  ·
   intro x hx
   obtain ⟨j, hj, hL⟩ := hget x hx
   have := hL.op
   rw [hL.idx, Nat.zero_add]
   simpa using this
  ·
   intro i hi
   rw [Array.getD_eq_getD_getElem?, Array.getElem?_replicate, if_pos hi]
   simp only [Option.getD_some, true_iff]
   have hlt : i < rem.length := by omega
   exact ⟨rem[i], List.getElem_mem hlt, by rw [(g6 i _ (List.getElem?_eq_getElem hlt)).idx]; omega⟩
  ·
   rw [List.pairwise_iff_getElem]
   intro i j hi hj hij
   rw [(g6 i _ (List.getElem?_eq_getElem hi)).idx, (g6 j _ (List.getElem?_eq_getElem hj)).idx]; omega
  ·
   rw [List.pairwise_iff_getElem]
   intro i j hi hj hij
   have hL := g6 j _ (List.getElem?_eq_getElem hj)
   have hg : (([] : List Log) ++ (rem.take j).map (·.lg))[i]? = some rem[i].lg := by
    rw [List.nil_append, List.getElem?_map, List.getElem?_take, if_pos hij, List.getElem?_eq_getElem hi]; rfl
   obtain ⟨p1, p2⟩ := apartAll_spec hL.apart i _ hg
   refine ⟨p1, ?_⟩
   rcases p2 with p2 | p2
   ·
    left
    rw [hL.idx, (g6 i _ (List.getElem?_eq_getElem hi)).idx]
    simp only [Nat.zero_add] at p2 ⊢
    rw [List.getD_eq_getElem?_getD, hL.anc]
    exact p2
   ·
    exact .inr p2
  ·
   intro i hi hne
   have hlt : i < rem.length := by omega
   exact absurd (by rw [(g6 i _ (List.getElem?_eq_getElem hlt)).idx]; omega) (hne rem[i] (List.getElem_mem hlt))
  ·
   intro i o ho e he hb
   obtain ⟨h1, h2⟩ := hanc i o ho
   exact ⟨edgesBack_spec h2 e he hb, by rw [h1]; exact ancOf_on he hb⟩
  ·
   intro i o ho j hj
   obtain ⟨h1, h2⟩ := hanc i o ho
   rw [h1] at hj
   obtain ⟨e, he, hb, h3⟩ := ancOf_of hj
   refine ⟨e, he, hb, ?_⟩
   rcases h3 with h3 | h3
   ·
    exact .inl h3
   ·
    right
    have hlt := edgesBack_spec h2 e he hb
    rw [List.getD_eq_getElem?_getD, List.getElem?_take, if_pos hlt] at h3
    rw [List.getD_eq_getElem?_getD]; exact h3
 ·
  intro x hx
  obtain ⟨j, _, hL⟩ := hget x hx
  exact hL.nd
 ·
  intro x hx f hf
  obtain ⟨j, _, hL⟩ := hget x hx
  have := hL.base f hf
  simp only [List.mem_append, not_or] at this
  exact ⟨fun t hm => this.1 (namesT_find hm), fun n it hi hm => this.2 (Sim.nrm0.putSays_mem (findI_mem hi) hm)⟩
end
section
variable {P : Program}
def X.out : X → Exit
 | .normal => .normal
 | .exit i => .exit i
 | .ret => .ret
theorem reaches_iff {c : Code} {s s' : AS} {e : X} : Reaches P c s e s' ↔ ∀ w0 Mu ρ a w (Q : Exit → Act → World → Prop), Sim w0 Mu ρ s a w → (∀ a' w' ρ', Sim w0 Mu ρ' s' a' w' → Q e.out a' w') → c.wp P Q a w := by
 unfold Reaches
 constructor <;> intro h w0 Mu ρ a w Q hs hQ <;> exact h w0 Mu ρ a w Q hs (fun a' w' ρ' hs' => by cases e <;> exact hQ a' w' ρ' hs')
inductive Rounds (P : Program) (ν : Nrm) (c : Code) : AS → X → AS → Prop
 | last {s s' : AS} {e : X} (h : Reaches P c s e s') (he : e ≠ .normal) : Rounds P ν c s e s'
 | more {s s1 s2 s' : AS} {e : X} (h : Reaches P c s .normal s1) (hn : nrm ν s1 = some s2) (r : Rounds P ν c s2 e s') : Rounds P ν c s e s'
theorem rounds_wp {ν : Nrm} {c : Code} {s s' : AS} {e : X} (h : Rounds P ν c s e s') : e ≠ .normal ∧ ∃ n, ∀ w0 Mu ρ a w (Q : Exit → Act → World → Prop), Sim w0 Mu ρ s a w → (∀ a' w' ρ', Sim w0 Mu ρ' s' a' w' → Q e.out a' w') → Code.rounds P c Q n a w := by
 induction h with
 | @last s s' e h he =>
  refine ⟨he, 1, fun w0 Mu ρ a w Q hs hQ => ?_⟩
  refine reaches_iff.1 h w0 Mu ρ a w _ hs fun a' w' ρ' hs' => ?_
  cases e with
  | normal => exact absurd rfl he
  | exit i => exact hQ a' w' ρ' hs'
  | ret => exact hQ a' w' ρ' hs'
 | @more s s1 s2 s' e h hn r ih =>
  obtain ⟨he, n, ih⟩ := ih
  refine ⟨he, n + 1, fun w0 Mu ρ a w Q hs hQ => ?_⟩
  refine reaches_iff.1 h w0 Mu ρ a w _ hs fun a' w' ρ' hs' => ?_
  obtain ⟨ρ2, hs2⟩ := hs'.nrm hn
  exact ih w0 Mu ρ2 a' w' Q hs2 hQ
theorem iter_rounds {R : Type} {ν : Nrm} {c : Code} {body : AS → (X → AS → Option R) → Option R} {id : Nat} {k : X → AS → Option R}
  (hb : ∀ (s : AS) (k : X → AS → Option R) (r : R), body s k = some r → ∃ e s', k e s' = some r ∧ Reaches P c s e s') :
  ∀ (n : Nat) (s : AS) (r : R), iter ν body id k n s = some r → ∃ e s', (match e with | .exit i => (match Nat.beq i id with | true => k .normal s' | false => k (.exit i) s') | .ret => k .ret s' | .normal => none) = some r ∧ Rounds P ν c s e s'
 | 0, s, r, h => by simp [iter] at h
 | n + 1, s, r, h => by
  simp only [iter] at h
  obtain ⟨e, s', h1, h2⟩ := hb _ _ _ h
  cases e with
  | normal =>
   simp only at h1
   split at h1
   ·
    rename_i s'' hn
    obtain ⟨e, t, h3, h4⟩ := iter_rounds hb n s'' r h1
    exact ⟨e, t, h3, .more h2 hn h4⟩
   ·
    cases h1
  | exit i => exact ⟨.exit i, s', h1, .last h2 (by simp)⟩
  | ret => exact ⟨.ret, s', h1, .last h2 (by simp)⟩
def Sound1 (P : Program) (E : Env) (R : Type) (c : Code) : Prop := ∀ (s : AS) (k : X → AS → Option R) (r : R), exec E c s k = some r → ∃ e s', k e s' = some r ∧ Reaches P c s e s'
def LoopOk (P : Program) (L : LoopFn) (id : Nat) (body : Code) : Prop := ∀ (R : Type) (s : AS) (k : X → AS → Option R) (r : R), L R s k = some r → ∃ e s', k e s' = some r ∧ Reaches P (.block id (.loop body)) s e s'
def LoopsOk (P : Program) (lp : List (Nat × LoopFn)) (c : Code) : Prop := ∀ p ∈ loopsIn c, ∀ L, findL p.1 lp = some L → LoopOk P L p.1 p.2
theorem exec_sound {E : Env} (hΘ : TypesOk P E.Θ) (hΓ : CtxOk P E.Γ) (hm : P.follows .mixedOrders = true) {R : Type} :
  ∀ (c : Code), LoopsOk P E.lp c → Sound1 P E R c ∧ ∀ b, c = .loop b → Sound1 P E R b := by
 intro c
 induction c with
 | skip =>
  intro _
  refine ⟨?_, fun b hb => by cases hb⟩
  intro s k r h
  simp only [exec] at h
  exact ⟨.normal, s, h, fun w0 Mu ρ a w Q hs hQ => wp_skip (hQ a w ρ hs)⟩
 | exit id =>
  intro _
  refine ⟨?_, fun b hb => by cases hb⟩
  intro s k r h
  simp only [exec] at h
  exact ⟨.exit id, s, h, fun w0 Mu ρ a w Q hs hQ => wp_exit (hQ a w ρ hs)⟩
 | ret =>
  intro _
  refine ⟨?_, fun b hb => by cases hb⟩
  intro s k r h
  simp only [exec] at h
  exact ⟨.ret, s, h, fun w0 Mu ρ a w Q hs hQ => wp_ret (hQ a w ρ hs)⟩
 | region id ops d =>
  intro _
  refine ⟨?_, fun b hb => by cases hb⟩
  intro s k r h
  simp only [exec] at h
  split at h
  ·
   cases h
  ·
   rename_i hok
   cases d with
   | false =>
    simp only at h
    obtain ⟨s', h1, h2⟩ := runOps_chain hΓ _ _ _ _ h
    exact ⟨.normal, _, h1, (region_reaches hΘ hΓ hok h2).prune E.K⟩
   | true =>
    simp only at h
    obtain ⟨s', h1, h2⟩ := draw_reaches hΘ hΓ hm (id := id) hok h
    exact ⟨.normal, _, h1, h2.prune E.K⟩
 | seq x y ihx ihy =>
  intro hlp
  have ihx := ihx fun p hp => hlp p (List.mem_append.2 (.inl hp))
  have ihy := ihy fun p hp => hlp p (List.mem_append.2 (.inr hp))
  refine ⟨?_, fun b hb => by cases hb⟩
  intro s k r h
  simp only [exec] at h
  obtain ⟨e, s1, h1, h2⟩ := ihx.1 _ _ _ h
  cases e with
  | normal =>
   obtain ⟨e, s2, h3, h4⟩ := ihy.1 _ _ _ h1
   refine ⟨e, s2, h3, fun w0 Mu ρ a w Q hs hQ => wp_seq ?_⟩
   exact h2 w0 Mu ρ a w _ hs fun a' w' ρ' hs' => h4 w0 Mu ρ' a' w' Q hs' hQ
  | exit i =>
   exact ⟨.exit i, s1, h1, fun w0 Mu ρ a w Q hs hQ => wp_seq (h2 w0 Mu ρ a w _ hs fun a' w' ρ' hs' => hQ a' w' ρ' hs')⟩
  | ret =>
   exact ⟨.ret, s1, h1, fun w0 Mu ρ a w Q hs hQ => wp_seq (h2 w0 Mu ρ a w _ hs fun a' w' ρ' hs' => hQ a' w' ρ' hs')⟩
 | cond c x y ihx ihy =>
  intro hlp
  have ihx := ihx fun p hp => hlp p (List.mem_append.2 (.inl hp))
  have ihy := ihy fun p hp => hlp p (List.mem_append.2 (.inr hp))
  refine ⟨?_, fun b hb => by cases hb⟩
  intro s k r h
  simp only [exec] at h
  split at h
  ·
   rename_i t ht
   have hc : ∀ {w0 Mu ρ a w}, Sim w0 Mu ρ s a w → a.eval c = .bool t := by
    intro w0 Mu ρ a w hs
    have := relEv hs c
    rw [show evO s.T c = .s (.one (.bool t)) from ht] at this
    simpa [RelV, RelSV, RelAt] using this
   cases t with
   | true =>
    obtain ⟨e, s', h1, h2⟩ := ihx.1 _ _ _ h
    exact ⟨e, s', h1, fun w0 Mu ρ a w Q hs hQ => wp_cond_true (hc hs) (h2 w0 Mu ρ a w Q hs hQ)⟩
   | false =>
    obtain ⟨e, s', h1, h2⟩ := ihy.1 _ _ _ h
    exact ⟨e, s', h1, fun w0 Mu ρ a w Q hs hQ => wp_cond_false (hc hs) (h2 w0 Mu ρ a w Q hs hQ)⟩
  ·
   cases h
 | block id c ih =>
  intro hlp
  have ih := ih (by
   intro p hp
   apply hlp p
   cases c <;> first | exact hp | exact .tail _ hp)
  refine ⟨?_, fun b hb => by cases hb⟩
  intro s k r h
  have key : exec E c s (fun e s' => match e with
   | .normal => k .normal s'
   | .exit i => (match Nat.beq i id with | true => k .normal s' | false => k (.exit i) s')
   | .ret => k .ret s') = some r → ∃ e s', k e s' = some r ∧ Reaches P (.block id c) s e s' := by
   intro h
   obtain ⟨e, s', h1, h2⟩ := ih.1 _ _ _ h
   cases e with
   | normal => exact ⟨.normal, s', h1, fun w0 Mu ρ a w Q hs hQ => wp_block (h2 w0 Mu ρ a w _ hs fun a' w' ρ' hs' => hQ a' w' ρ' hs')⟩
   | ret => exact ⟨.ret, s', h1, fun w0 Mu ρ a w Q hs hQ => wp_block (h2 w0 Mu ρ a w _ hs fun a' w' ρ' hs' => hQ a' w' ρ' hs')⟩
   | exit i =>
    simp only at h1
    split at h1
    ·
     rename_i e
     have e := beqT e; subst e
     refine ⟨.normal, s', h1, fun w0 Mu ρ a w Q hs hQ => wp_block (h2 w0 Mu ρ a w _ hs fun a' w' ρ' hs' => ?_)⟩
     simp only [Exit.inBlock, if_true]; exact hQ a' w' ρ' hs'
    ·
     rename_i e
     have e := beqN e
     refine ⟨.exit i, s', h1, fun w0 Mu ρ a w Q hs hQ => wp_block (h2 w0 Mu ρ a w _ hs fun a' w' ρ' hs' => ?_)⟩
     simp only [Exit.inBlock, if_neg e]; exact hQ a' w' ρ' hs'
  cases c with
  | loop body =>
   simp only [exec] at h
   split at h
   ·
    rename_i L hL
    exact hlp (id, body) (by simp [loopsIn]) L hL R s k r h
   split at h
   ·
    rename_i ν hν
    split at h
    ·
     rename_i s0 hs0
     have hb : ∀ (s : AS) (k : X → AS → Option R) (r : R), exec E body s k = some r → ∃ e s', k e s' = some r ∧ Reaches P body s e s' := ih.2 body rfl
     obtain ⟨e, s', h1, h2⟩ := iter_rounds hb _ _ _ h
     obtain ⟨he, n, hw⟩ := rounds_wp h2
     have hl : ∀ w0 Mu ρ a w (Q : Exit → Act → World → Prop), Sim w0 Mu ρ s a w → (∀ a' w' ρ', Sim w0 Mu ρ' s' a' w' → Exit.inBlock id Q e.out a' w') → (Code.block id (.loop body)).wp P Q a w := by
      intro w0 Mu ρ a w Q hs hQ
      obtain ⟨ρ2, hs2⟩ := hs.nrm hs0
      exact wp_block (wp_loop_rounds n (hw w0 Mu ρ2 a w _ hs2 hQ))
     cases e with
     | normal => exact absurd rfl he
     | ret => exact ⟨.ret, s', h1, fun w0 Mu ρ a w Q hs hQ => hl w0 Mu ρ a w Q hs hQ⟩
     | exit i =>
      simp only at h1
      split at h1
      ·
       rename_i e
       have e := beqT e; subst e
       refine ⟨.normal, s', h1, fun w0 Mu ρ a w Q hs hQ => hl w0 Mu ρ a w Q hs fun a' w' ρ' hs' => ?_⟩
       simp only [X.out, Exit.inBlock, if_true]; exact hQ a' w' ρ' hs'
      ·
       rename_i e
       have e := beqN e
       refine ⟨.exit i, s', h1, fun w0 Mu ρ a w Q hs hQ => hl w0 Mu ρ a w Q hs fun a' w' ρ' hs' => ?_⟩
       simp only [X.out, Exit.inBlock, if_neg e]; exact hQ a' w' ρ' hs'
    ·
     cases h
   ·
    cases h
  | _ => exact key h
 | scope c ih =>
  intro hlp
  refine ⟨?_, fun b hb => by cases hb⟩
  intro s k r h
  simp only [exec] at h
  obtain ⟨e, s', h1, h2⟩ := (ih hlp).1 _ _ _ h
  refine ⟨e, s', h1, fun w0 Mu ρ a w Q hs hQ => wp_scope_straight (h2 w0 Mu ρ a w _ hs fun a' w' ρ' hs' => ?_)⟩
  cases e <;> exact hQ a' w' ρ' hs'
 | label l =>
  intro _
  refine ⟨?_, fun b hb => by cases hb⟩
  intro s k r h
  simp only [exec] at h
  exact ⟨.normal, s, h, fun w0 Mu ρ a w Q hs hQ => wp_label (hQ a w ρ hs)⟩
 | loop b ih =>
  intro hlp
  refine ⟨fun s k r h => by simp [exec] at h, fun b' hb => ?_⟩
  cases hb; exact (ih hlp).1
 | _ => exact fun _ => ⟨fun s k r h => by simp [exec] at h, fun b hb => by cases hb⟩
end
section
variable {P : Program}
def initAV (n : Nat) : PM → DV → Option AV
 | .val, .v v => some (.s v)
 | .view _ _, .lst _ _ _ => some (va (.own n))
 | .own _ _, .lst _ _ _ => some (va (.own n))
 | .mt, .obj l => some (va (.ptr n 0 .z (sizesL l)))
 | .mt, .nilp => some (va .nilp)
 | _, _ => none
def initIt : PM → DV → Option Item
 | .view k es, .lst _ _ xs => some (.view k es xs)
 | .own k es, .lst _ _ xs => some (.row k es xs)
 | .mt, .obj l => some (.obj l)
 | _, _ => none
theorem initIt_owned {p : PM} {d : DV} {it : Item} (h : initIt p d = some it) (ho : it.owned = true) : p.owned = true := by
 cases p with
 | val => cases d <;> cases h
 | view k es =>
  cases d with
  | lst k' es' xs => injection h with h; subst h; cases ho
  | _ => cases h
 | own k es => rfl
 | mt => rfl
theorem initT_spec : ∀ {ps : List PM} {ds : List DV} {i : Nat} {ts : List (Nat × AV)} {is : List (Nat × Item)}, initT i ps ds = some (ts, is) →
  ds.length = ps.length ∧ Nodup' is ∧ (∀ t, (t < i ∨ i + ps.length ≤ t) → findT t ts = .s (.one .dead) ∧ t ∉ putNames is) ∧
  ∀ (j : Nat) p d, ps[j]? = some p → ds[j]? = some d → initAV (i + j) p d = some (findT (i + j) ts) ∧ findI (i + j) is = initIt p d
 | [], [], i, ts, is, h => by
  simp only [initT] at h
  injection h with h; injection h with h1 h2; subst h1; subst h2
  exact ⟨rfl, trivial, fun t _ => ⟨rfl, by simp [putNames]⟩, by simp⟩
 | [], _ :: _, i, ts, is, h => by simp [initT] at h
 | _ :: _, [], i, ts, is, h => by simp [initT] at h
 | p :: ps, d :: ds, i, ts, is, h => by
  simp only [initT] at h
  split at h
  ·
   rename_i ts' is' h'
   obtain ⟨g1, g2, g3, g4⟩ := initT_spec h'
   have main : ∀ (v : AV), ts = (i, v) :: ts' → initAV i p d = some v → ((initIt p d = none ∧ is = is') ∨ ∃ it, initIt p d = some it ∧ is = (i, it) :: is') →
     (d :: ds).length = (p :: ps).length ∧ Nodup' is ∧ (∀ t, (t < i ∨ i + (p :: ps).length ≤ t) → findT t ts = .s (.one .dead) ∧ t ∉ putNames is) ∧
      ∀ (j : Nat) q e, (p :: ps)[j]? = some q → (d :: ds)[j]? = some e → initAV (i + j) q e = some (findT (i + j) ts) ∧ findI (i + j) is = initIt q e := by
    intro v hts hav his
    subst hts
    have hi : i ∉ putNames is' := (g3 i (.inl (by omega))).2
    refine ⟨by simp [g1], ?_, ?_, ?_⟩
    ·
     rcases his with ⟨_, rfl⟩ | ⟨it, _, rfl⟩
     ·
      exact g2
     ·
      exact ⟨hi, g2⟩
    ·
     intro t ht
     simp only [List.length_cons] at ht
     have hne : t ≠ i := by omega
     obtain ⟨k1, k2⟩ := g3 t (by omega)
     refine ⟨by rw [findT_cons, if_neg hne]; exact k1, ?_⟩
     rcases his with ⟨_, rfl⟩ | ⟨it, _, rfl⟩
     ·
      exact k2
     ·
      simp [putNames, hne, k2]
    ·
     intro j q e hq he
     cases j with
     | zero =>
      simp only [List.getElem?_cons_zero, Option.some.injEq] at hq he
      subst hq; subst he
      rw [Nat.add_zero, findT_cons, if_pos rfl]
      refine ⟨hav, ?_⟩
      rcases his with ⟨h1, rfl⟩ | ⟨it, h1, rfl⟩
      ·
       rw [h1, findI_none hi]
      ·
       rw [h1, findI_cons, if_pos rfl]
     | succ j =>
      simp only [List.getElem?_cons_succ] at hq he
      obtain ⟨k1, k2⟩ := g4 j q e hq he
      have hne : i + (j + 1) ≠ i := by omega
      rw [show i + (j + 1) = i + 1 + j by omega] at hne ⊢
      rw [findT_cons, if_neg hne]
      refine ⟨k1, ?_⟩
      rcases his with ⟨_, rfl⟩ | ⟨it, _, rfl⟩
      ·
       exact k2
      ·
       rw [findI_cons, if_neg hne]; exact k2
   split at h
   ·
    split at h
    ·
     injection h with h; injection h with h1 h2; subst h1; subst h2
     exact main _ rfl rfl (.inl ⟨rfl, rfl⟩)
    ·
     cases h
   ·
    split at h
    ·
     injection h with h; injection h with h1 h2; subst h1; subst h2
     exact main _ rfl rfl (.inr ⟨_, rfl, rfl⟩)
    ·
     cases h
   ·
    split at h
    ·
     injection h with h; injection h with h1 h2; subst h1; subst h2
     exact main _ rfl rfl (.inr ⟨_, rfl, rfl⟩)
    ·
     cases h
   ·
    split at h
    ·
     injection h with h; injection h with h1 h2; subst h1; subst h2
     exact main _ rfl rfl (.inr ⟨_, rfl, rfl⟩)
    ·
     cases h
   ·
    injection h with h; injection h with h1 h2; subst h1; subst h2
    exact main _ rfl rfl (.inl ⟨rfl, rfl⟩)
   ·
    cases h
  ·
   cases h
theorem agree0 {ρ : Rho} {S : Sh} {ρ' : Rho} {S' : Sh} {l : List Nat} (h : l = []) : ∀ n ∈ l, Agree ρ ρ' S S' n := by
 subst h; simp
theorem sim_init {sig : Sig} {ds : List DV} {n : Nat} {ts : List (Nat × AV)} {is : List (Nat × Item)} {w : World} {vs : List Value} {ℓ : Nat → Option (Nat × Nat)} {τ : Nat → Nat}
  (hi : initT 0 sig.ps ds = some (ts, is)) (hA : ArgsRel w sig.ps ds vs ℓ τ) (hle : sig.ps.length ≤ n) :
  Sim w { blk := OwnB sig.ps ℓ, loc := ℓ, tot := τ, sh := AS.S { n := n, lo := sig.ps.length, tmps := ts, items := is } } { loc := ℓ, tot := τ } { n := n, lo := sig.ps.length, tmps := ts, items := is }
   { tmps := vs.toArray ++ Array.replicate (n - vs.toArray.size) undef, defers := [] } w := by
 obtain ⟨g1, g2, g3, g4⟩ := initT_spec hi
 simp only [Nat.zero_add] at g3 g4
 have hlen : vs.length = sig.ps.length := hA.lenV
 have hfind : ∀ m it, findI m is = some it → ∃ p d v, m < sig.ps.length ∧ sig.ps[m]? = some p ∧ ds[m]? = some d ∧ vs[m]? = some v ∧ initIt p d = some it ∧ ArgRel w p d v (ℓ m) (τ m) := by
  intro m it hm
  have hlt : m < sig.ps.length := by
   by_cases h : m < sig.ps.length
   ·
    exact h
   ·
    have := (g3 m (.inr (by omega))).2
    exact absurd (putNames_iff.2 ⟨it, findI_mem hm⟩) this
  have h1 := List.getElem?_eq_getElem hlt
  have h2 := List.getElem?_eq_getElem (l := ds) (i := m) (by rw [g1]; exact hlt)
  have h3 := List.getElem?_eq_getElem (l := vs) (i := m) (by rw [hlen]; exact hlt)
  obtain ⟨_, k2⟩ := g4 m _ _ h1 h2
  exact ⟨_, _, _, hlt, h1, h2, h3, by rw [← k2]; exact hm, hA.each m _ _ _ h1 h2 h3⟩
 have hS : ∀ m, AS.S { n := n, lo := sig.ps.length, tmps := ts, items := is } m = (findI m is).map Item.shape := fun m => rfl
 refine ⟨rfl, g2, ?_, ?_, ?_, ?_, ?_, ?_, Nat.le_refl _, fun _ _ _ => rfl, fun _ _ => ⟨rfl, rfl, .inl rfl⟩, ⟨rfl, rfl⟩, fun _ h => h.elim, rfl⟩
 ·
  simp; omega
 ·
  intro t
  show RelV _ _ (findT t ts) _
  by_cases ht : t < sig.ps.length
  ·
   have h1 := List.getElem?_eq_getElem ht
   have h2 := List.getElem?_eq_getElem (l := ds) (i := t) (by rw [g1]; exact ht)
   have htv : t < vs.length := by rw [hlen]; exact ht
   have h3 := List.getElem?_eq_getElem htv
   have hget : (vs.toArray ++ Array.replicate (n - vs.toArray.size) undef).getD t undef = vs[t] := by
    rw [Array.getD_eq_getD_getElem?, Array.getElem?_append_left (by simpa using htv)]
    simp [htv]
   show RelV _ _ (findT t ts) ((vs.toArray ++ Array.replicate (n - vs.toArray.size) undef).getD t undef)
   rw [hget]
   obtain ⟨k1, k2⟩ := g4 t _ _ h1 h2
   have hrel := hA.each t _ _ _ h1 h2 h3
   revert k1 k2 hrel
   generalize sig.ps[t] = p
   generalize ds[t]'(by rw [g1]; exact ht) = d
   generalize vs[t] = v
   intro k1 k2 hrel
   cases p with
   | val =>
    cases d with
    | v sv =>
     obtain ⟨e1, e2, e3⟩ := hrel
     simp only [initAV, Option.some.injEq] at k1
     rw [← k1]
     exact RelSV.frame (agree0 e1) e2
    | _ => exact hrel.elim
   | view k es =>
    cases d with
    | lst k' es' xs =>
     obtain ⟨rfl, rfl, e0, m, e1, A, c, rfl, e2, e3, e4, e5⟩ := hrel
     simp only [initAV, Option.some.injEq] at k1
     rw [← k1]
     show RelAt _ _ (.own t) [_]
     simp only [RelAt]
     rw [hS, k2]
     simp only [initIt, Option.map_some, Item.shape]
     refine ⟨A, c, ?_, ?_, ?_⟩
     ·
      rw [e1, rl_mul e0.1]
     ·
      rw [e1, rl_mul e0.1]; exact e2
     ·
      intro hpos
      refine e3 ?_
      rw [e1] at hpos
      exact Nat.pos_of_ne_zero fun h0 => by rw [h0] at hpos; simp at hpos
    | _ => exact hrel.elim
   | own k es =>
    cases d with
    | lst k' es' xs =>
     obtain ⟨rfl, rfl, e0, m, e1, c, rfl, e2, e3, e4, e5⟩ := hrel
     simp only [initAV, Option.some.injEq] at k1
     rw [← k1]
     show RelAt _ _ (.own t) [_]
     simp only [RelAt]
     rw [hS, k2]
     simp only [initIt, Option.map_some, Item.shape]
     exact ⟨c, by rw [e1, rl_mul e0.1], by rw [e1, rl_mul e0.1]; exact e2, e3, e4⟩
    | _ => exact hrel.elim
   | mt =>
    cases d with
    | obj l =>
     obtain ⟨e0, b, T, cs, e1, rfl, e2, e3⟩ := hrel
     simp only [initAV, Option.some.injEq] at k1
     rw [← k1]
     refine ⟨(b, 0), e1, rfl, ?_⟩
     intro sh hsh L hL
     rw [hS, k2] at hsh
     injection hsh with hsh; subst hsh
     simp [Item.shape, Shape.isObj]
    | nilp =>
     obtain ⟨rfl, _⟩ := hrel
     simp only [initAV, Option.some.injEq] at k1
     rw [← k1]
     rfl
    | _ => exact hrel.elim
  ·
   rw [(g3 t (.inr (by omega))).1]; exact relDead _ _ _
 ·
  intro m it hm
  obtain ⟨p, d, v, h0, h1, h2, h3, h4, hrel⟩ := hfind m it hm
  cases p with
  | val => simp [initIt] at h4
  | view k es =>
   cases d with
   | lst k' es' xs =>
    obtain ⟨rfl, rfl, e0, m, e1, A, c, rfl, e2, e3, e4, e5⟩ := hrel
    simp only [initIt, Option.some.injEq] at h4; subst h4
    exact ⟨e0, ⟨m, e1⟩, e4⟩
   | _ => exact hrel.elim
  | own k es =>
   cases d with
   | lst k' es' xs =>
    obtain ⟨rfl, rfl, e0, m, e1, c, rfl, e2, e3, e4, e5⟩ := hrel
    simp only [initIt, Option.some.injEq] at h4; subst h4
    exact ⟨e0, ⟨m, e1⟩, e5⟩
   | _ => exact hrel.elim
  | mt =>
   cases d with
   | obj l =>
    obtain ⟨e0, b, T, cs, e1, rfl, e2, e3⟩ := hrel
    simp only [initIt, Option.some.injEq] at h4; subst h4
    exact ⟨b, T, cs, e1, e2, e3.frame (agree0 e0)⟩
   | nilp => simp [initIt] at h4
   | _ => exact hrel.elim
 ·
  intro m it q hm ho hq
  obtain ⟨p, d, v, h0, h1, h2, h3, h4, hrel⟩ := hfind m it hm
  right
  exact ⟨m, p, q, h1, initIt_owned h4 ho, hq, rfl⟩
 ·
  intro m m' it it' q r hm hm' ho hne hq hr
  obtain ⟨p, d, v, h0, h1, h2, h3, h4, hrel⟩ := hfind m it hm
  exact hA.sep m m' p q r hne h1 (initIt_owned h4 ho) hq hr
 ·
  intro m it q hm hq
  obtain ⟨p, d, v, h0, h1, h2, h3, h4, hrel⟩ := hfind m it hm
  cases p with
  | val => simp [initIt] at h4
  | view k es =>
   cases d with
   | lst k' es' xs =>
    obtain ⟨rfl, rfl, e0, m, e1, A, c, rfl, e2, e3, e4, e5⟩ := hrel
    exact e5 q hq
   | _ => exact hrel.elim
  | own k es =>
   cases d with
   | lst k' es' xs =>
    obtain ⟨rfl, rfl, e0, m, e1, c, rfl, e2, e3, e4, e5⟩ := hrel
    rcases e5 with ⟨e5, _⟩ | ⟨b, T, sp, e5, e6, _⟩
    ·
     rw [show ℓ _ = some q from hq] at e5; cases e5
    ·
     rw [show ℓ _ = some q from hq] at e5; injection e5 with e5; subst e5
     exact (Array.getElem?_eq_some_iff.1 e6).1
   | _ => exact hrel.elim
  | mt =>
   cases d with
   | obj l =>
    obtain ⟨e0, b, T, cs, e1, rfl, e2, e3⟩ := hrel
    rw [show ℓ _ = some q from hq] at e1; injection e1 with e1; subst e1
    exact (Array.getElem?_eq_some_iff.1 e2).1
   | nilp => simp [initIt] at h4
   | _ => exact hrel.elim
end
section
variable {P : Program} {w0 : World} {Mu : MuT} {ρ : Rho} {s : AS} {a : Act} {w : World}
def resRun (tmps : Array Value) (r : ResultVar) : Sem Value := match r with
 | .tmp t => pure (tmps.getD t undef)
 | .cell a t => do loadVar t (← asAddr (tmps.getD a undef))
theorem results_eq (fn : Func) (tmps : Array Value) (w : World) {Xs : List Value} (h : (fn.results.toList.mapM (resRun tmps)).run P w = .ok Xs w) :
  (results fn tmps).run P w = .ok (resVal Xs) w := by
 have e : results fn tmps = (do let vs ← fn.results.mapM (resRun tmps); pure (if h : vs.size = 1 then vs[0] else .tuple vs)) := rfl
 rw [e, Array.mapM_eq_mapM_toList]
 simp only [Sem.run_bind, map_eq_pure_bind, h, Result.andThen_ok, Sem.run_pure]
 cases Xs with
 | nil => rfl
 | cons x l => cases l with
  | nil => rfl
  | cons y l => rfl
theorem resSV_spec {Θ : Types} (hΘ : TypesOk P Θ) (hs : Sim w0 Mu ρ s a w) : ∀ {rv : List ResultVar} {vs : List SV}, resSV Θ s rv = some vs →
  ∃ Xs : List Value, Xs.length = rv.length ∧ vs.length = rv.length ∧ (∀ (i : Nat) sv X, vs[i]? = some sv → Xs[i]? = some X → RelSV ρ s.S sv X) ∧ (rv.mapM (resRun a.tmps)).run P w = .ok Xs w := by
 intro rv
 induction rv with
 | nil =>
  intro vs h
  simp only [resSV] at h; injection h with h; subst h
  exact ⟨[], rfl, rfl, by simp, by simp⟩
 | cons r rv ih =>
  intro vs h
  simp only [resSV] at h
  split at h
  ·
   rename_i vs' h'
   obtain ⟨Xs, g1, g2, g3, g4⟩ := ih h'
   have main : ∀ sv X, RelSV ρ s.S sv X → (resRun a.tmps r).run P w = .ok X w → vs = sv :: vs' → ∃ Xs : List Value, Xs.length = (r :: rv).length ∧ vs.length = (r :: rv).length ∧ (∀ (i : Nat) sv X, vs[i]? = some sv → Xs[i]? = some X → RelSV ρ s.S sv X) ∧ ((r :: rv).mapM (resRun a.tmps)).run P w = .ok Xs w := by
    rintro sv X h1 h2 rfl
    refine ⟨X :: Xs, by simp [g1], by simp [g2], ?_, ?_⟩
    ·
     intro i sv' X' e1 e2
     cases i with
     | zero =>
      simp only [List.getElem?_cons_zero, Option.some.injEq] at e1 e2
      subst e1; subst e2; exact h1
     | succ i => exact g3 i sv' X' (by simpa using e1) (by simpa using e2)
    ·
     rw [List.mapM_cons]
     simp only [Sem.run_bind, h2, Result.andThen_ok, g4, Sem.run_pure]
   cases r with
   | tmp t =>
    simp only at h
    split at h
    ·
     rename_i v hv
     injection h with h
     have := hs.rel t
     rw [hv] at this
     exact main v _ this (by simp [resRun]) h.symm
    ·
     cases h
   | cell b t =>
    simp only at h
    split at h
    ·
     rename_i ti n b' o z ht hT
     split at h
     ·
      rename_i it hi
      split at h
      ·
       rename_i hz
       split at h
       ·
        rename_i v hv
        injection h with h
        have := hs.rel b
        rw [hT] at this
        simp only [RelV, RelSV, RelAt, List.cons.injEq, and_true] at this
        obtain ⟨p, e1, e2, e3⟩ := this
        obtain ⟨y, h4, h5⟩ := load_sound (hΘ t ti ht) (hs.hold n it hi) (S_of hi) e1 e3 (ble_iff.1 hz) hv
        refine main v y h5 ?_ h.symm
        simp only [resRun, Sem.run_bind, e2]
        simp [asAddr, h4]
       ·
        cases h
      ·
       cases h
     ·
      cases h
    ·
     cases h
  ·
   cases h
def locU (ρ : Rho) : List Nat → Option (Nat × Nat)
 | [n] => ρ.loc n
 | _ => none
def totU (ρ : Rho) : List Nat → Nat
 | [n] => ρ.tot n
 | _ => 0
theorem outOf_ok (hs : Sim w0 Mu ρ s a w) {r : RM} (hr : ∀ k es, r = .fresh k es → PosK k es) {v : SV} {X : Value} (hv : RelSV ρ s.S v X) {o : DV} {u : List Nat} (h : outOf s.I r v = some (o, u)) :
  ∃ t, ResRel w r o X (locU ρ u) t ∧ (u = [] ∨ ∃ n it, u = [n] ∧ s.I n = some it ∧ it.owned = true) := by
 unfold outOf at h
 split at h
 ·
  split at h
  ·
   rename_i hn
   injection h with h; injection h with h1 h2; subst h1; subst h2
   exact ⟨totU ρ [], ⟨hn, hv.frame (agree0 hn), rfl⟩, .inl rfl⟩
  ·
   cases h
 ·
  rename_i k es a'
  have hpos := hr k es rfl
  split at h
  ·
   injection h with h; injection h with h1 h2; subst h1; subst h2
   simp only [RelSV, RelAt, List.cons.injEq, and_true] at hv
   refine ⟨totU ρ [], ⟨rfl, rfl, hpos, 0, by simp, 0, by rw [hv]; rfl, Nat.le_refl _, fun _ => rfl, by simp, .inl ⟨rfl, rfl, rfl⟩⟩, .inl rfl⟩
  ·
   rename_i n
   split at h
   ·
    rename_i k' es' xs hi
    split at h
    ·
     rename_i hb
     simp only [Bool.and_eq_true] at hb
     have e1 := rkEq_iff.1 hb.1; have e2 := beqT hb.2
     subst e1; subst e2
     injection h with h; injection h with h1 h2; subst h1; subst h2
     obtain ⟨f1, ⟨m, f2⟩, f3⟩ := hs.hold n _ hi
     simp only [RelSV, RelAt, S_of hi, Item.shape] at hv
     obtain ⟨c, g1, g2, g3, g4⟩ := hv
     rw [f2, rl_mul f1.1] at g1 g2
     injection g1 with g1
     exact ⟨totU ρ [n], ⟨rfl, rfl, f1, m, f2, c, g1, g2, g3, g4, f3⟩, .inr ⟨n, _, rfl, hi, rfl⟩⟩
    ·
     cases h
   ·
    cases h
  ·
   rename_i n b o es2 len cap
   split at h
   ·
    rename_i k' m xs c hi
    split at h
    ·
     rename_i hb
     simp only [Bool.and_eq_true] at hb
     obtain ⟨b1, b2, b3, b4, b5, b6, b7⟩ := hb
     have b1 := rkEq_iff.1 b1
     have b2 := beqT b2; have b3 := beqT b3; have b4 := beqT b4; have b5 := beqT b5; have b6 := beqT b6; have b7 := ble_iff.1 b7
     injection h with h; injection h with h1 h2; subst h1; subst h2
     obtain ⟨bb, T, cs, f1, f2, f3⟩ := hs.hold n _ hi
     obtain ⟨c1, c2, f4, f5, f6⟩ := f3
     simp only [RelAt] at f5
     simp only [RelL] at f6
     subst f6
     obtain ⟨f5, f7⟩ := f5
     simp only [RelSV, RelAt, List.cons.injEq, and_true] at hv
     obtain ⟨A, c', g1, g2, g3, g4, _⟩ := hv
     have g3 := g3 c rfl
     subst g3
     obtain ⟨p, g5, g6⟩ := g4 (by omega)
     have f1' := f1
     rw [g5] at f1'
     injection f1' with f1'
     subst f1'
     rw [b4] at g6
     rw [List.append_nil] at f4
     refine ⟨xs.length, ⟨rfl, rfl, hpos, xs.length, by rw [b2, Nat.mul_one], c', ?_, by omega, ?_, by rw [b2]; omega, .inr ⟨bb, T, [], ?_, ?_, by simp⟩⟩, .inr ⟨n, _, rfl, hi, rfl⟩⟩
     ·
      rw [g1, show locU ρ [n] = some (bb, 0) from g5, g6, f7, b5]; rfl
     ·
      intro hnone
      rw [show locU ρ [n] = some (bb, 0) from g5] at hnone; cases hnone
     ·
      exact g5
     ·
      rw [f2, f4, f5, b1, List.append_nil]; rfl
    ·
     cases h
   ·
    cases h
  ·
   cases h
 ·
  rename_i a'
  split at h
  ·
   injection h with h; injection h with h1 h2; subst h1; subst h2
   simp only [RelSV, RelAt, List.cons.injEq, and_true] at hv
   exact ⟨totU ρ [], ⟨hv, rfl⟩, .inl rfl⟩
  ·
   rename_i n b o z
   split at h
   ·
    rename_i l hi
    split at h
    ·
     rename_i hn hz
     injection h with h; injection h with h1 h2; subst h1; subst h2
     simp only [RelSV, RelAt, List.cons.injEq, and_true] at hv
     obtain ⟨p, g1, g2, g3⟩ := hv
     obtain ⟨b, T, cs, f1, f2, f3⟩ := hs.hold n _ hi
     rw [f1] at g1; injection g1 with g1; subst g1
     exact ⟨totU ρ [n], ⟨hn, b, T, cs, f1, g2, f2, f3.frame (agree0 hn)⟩, .inr ⟨n, _, rfl, hi, rfl⟩⟩
    ·
     cases h
   ·
    cases h
  ·
   cases h
 ·
  cases h
theorem outsOf_spec {I : Nat → Option Item} : ∀ {rs : List RM} {vs : List SV} {os : List DV} {us : List Nat}, outsOf I rs vs = some (os, us) →
  os.length = rs.length ∧ vs.length = rs.length ∧ ∃ U : List (List Nat), U.length = rs.length ∧ us = U.flatten ∧ (∀ (j : Nat) r v o u, rs[j]? = some r → vs[j]? = some v → os[j]? = some o → U[j]? = some u → outOf I r v = some (o, u)) ∧
   (∀ (i j : Nat) u u' n, i ≠ j → U[i]? = some u → U[j]? = some u' → n ∈ u → n ∉ u')
 | [], [], os, us, h => by
  simp only [outsOf] at h
  injection h with h; injection h with h1 h2; subst h1; subst h2
  exact ⟨rfl, rfl, [], rfl, rfl, by simp, by simp⟩
 | [], _ :: _, os, us, h => by simp [outsOf] at h
 | _ :: _, [], os, us, h => by simp [outsOf] at h
 | r :: rs, v :: vs, os, us, h => by
  simp only [outsOf] at h
  split at h
  ·
   rename_i d u ds us' h1 h2
   split at h
   ·
    rename_i hd
    injection h with h; injection h with e1 e2; subst e1; subst e2
    obtain ⟨g1, g2, U, g3, g4, g5, g6⟩ := outsOf_spec h2
    refine ⟨by simp [g1], by simp [g2], u :: U, by simp [g3], by simp [g4], ?_, ?_⟩
    ·
     intro j r' v' o' u' a1 a2 a3 a4
     cases j with
     | zero =>
      simp only [List.getElem?_cons_zero, Option.some.injEq] at a1 a2 a3 a4
      subst a1; subst a2; subst a3; subst a4; exact h1
     | succ j => exact g5 j r' v' o' u' (by simpa using a1) (by simpa using a2) (by simpa using a3) (by simpa using a4)
    ·
     have hmem : ∀ (j : Nat) u', U[j]? = some u' → ∀ n ∈ u', n ∈ us' := by
      intro j u' hj n hn
      rw [g4]; exact List.mem_flatten.2 ⟨u', List.mem_of_getElem? hj, hn⟩
     intro i j u1 u2 n hne a1 a2 hn hn'
     cases i with
     | zero =>
      cases j with
      | zero => exact hne rfl
      | succ j =>
       simp only [List.getElem?_cons_zero, Option.some.injEq] at a1
       subst a1
       exact disj_iff.1 hd n hn (hmem j u2 (by simpa using a2) n hn')
     | succ i =>
      cases j with
      | zero =>
       simp only [List.getElem?_cons_zero, Option.some.injEq] at a2
       subst a2
       exact disj_iff.1 hd n hn' (hmem i u1 (by simpa using a1) n hn)
      | succ j => exact g6 i j u1 u2 n (by omega) (by simpa using a1) (by simpa using a2) hn hn'
   ·
    cases h
  ·
   cases h
theorem mutOuts_ok (hs : Sim w0 Mu ρ s a w) {lo : Nat} (hlo : s.lo = lo) : ∀ {ps : List PM} {ds ms : List DV} {i : Nat}, i + ps.length ≤ lo → mutOuts s.I i ps ds = some ms → MutRel w Mu.loc i ps ds ms
 | [], [], ms, i, _, h => by
  simp only [mutOuts] at h
  injection h with h; exact h.symm
 | [], _ :: _, _, _, _, h => by simp [mutOuts] at h
 | _ :: _, [], _, _, _, h => by simp [mutOuts] at h
 | p :: ps, d :: ds, ms, i, hle, h => by
  simp only [mutOuts] at h
  split at h
  ·
   rename_i r h'
   simp only [List.length_cons] at hle
   have ih := mutOuts_ok hs hlo (by omega) h'
   split at h
   ·
    rename_i l0
    split at h
    ·
     rename_i l hi
     split at h
     ·
      rename_i hf hn
      injection h with h; subst h
      obtain ⟨b, T, cs, f1, f2, f3⟩ := hs.hold i _ hi
      refine ⟨l, r, rfl, hn, (formEq_forms hf).symm, ⟨b, T, cs, ?_, f2, f3.frame (agree0 hn)⟩, ih⟩
      rw [← (hs.pin i (.inl (by omega))).1]; exact f1
     ·
      cases h
    ·
     cases h
   ·
    injection h with h; subst h
    exact ⟨r, rfl, ih⟩
   ·
    cases h
   ·
    rename_i hx hy hz
    injection h with h; subst h
    cases p with
    | mt => exact (hx rfl).elim
    | _ => exact ih
  ·
   cases h
theorem mut_named {I : Nat → Option Item} {l0 : List At} : ∀ {ps : List PM} {ds ms : List DV} {i j : Nat}, mutOuts I i ps ds = some ms → ps[j]? = some .mt → ds[j]? = some (.obj l0) →
  ∃ l, I (i + j) = some (.obj l) ∧ i + j ∈ mutNames i ps ds
 | [], _, _, _, _, _, h, _ => by simp at h
 | _ :: _, [], _, _, _, _, _, h => by simp at h
 | p :: ps, d :: ds, ms, i, j, h, h1, h2 => by
  simp only [mutOuts] at h
  split at h
  ·
   rename_i r h'
   cases j with
   | zero =>
    simp only [List.getElem?_cons_zero, Option.some.injEq] at h1 h2
    subst h1; subst h2
    simp only at h
    split at h
    ·
     rename_i l hi
     exact ⟨l, hi, by simp [mutNames]⟩
    ·
     cases h
   | succ j =>
    obtain ⟨l, g1, g2⟩ := mut_named (j := j) h' (by simpa using h1) (by simpa using h2)
    rw [show i + (j + 1) = i + 1 + j by omega]
    refine ⟨l, g1, ?_⟩
    unfold mutNames
    split
    ·
     rename_i e1 e2
     injection e1 with _ e1; injection e2 with _ e2; subst e1; subst e2
     exact .tail _ g2
    ·
     rename_i e1 e2
     injection e1 with _ e1; injection e2 with _ e2; subst e1; subst e2
     exact g2
    ·
     rename_i hne; exact absurd rfl (hne _ _ _ _ rfl)
  ·
   cases h
theorem call_contract {E : Env} (hΘ : TypesOk P E.Θ) (hΓ : CtxOk P E.Γ) (hm : P.follows .mixedOrders = true) {g n : Nat} {fn : Func} {sig : Sig} {body : Code} {rv : List ResultVar}
  (hf : P.funcs[g]? = some fn) (hb : fn.body = some body) (hn : fn.ntmps = n) (hrv : fn.results.toList = rv) (hname : fn.name ≠ "runtime.NumGoroutine") (hsig : sigOk sig = true) (hle : sig.ps.length ≤ n) (hlp : LoopsOk P E.lp body) :
  Contract P g { sig := sig, impl := fun _ ds k => call E sig n body rv ds k } := by
 intro R ds k r h
 simp only at h
 unfold call at h
 split at h
 ·
  rename_i ts is hi
  obtain ⟨e, s', h1, h2⟩ := (exec_sound hΘ hΓ hm body hlp).1 _ _ _ h
  have key : ∃ vs os us ms, e ≠ .exit 0 ∧ (∀ i, e ≠ .exit i) ∧ resSV E.Θ s' rv = some vs ∧ outsOf s'.I sig.rs vs = some (os, us) ∧ mutOuts s'.I 0 sig.ps ds = some ms ∧ disj us (mutNames 0 sig.ps ds) = true ∧ k (os ++ ms) = some r ∧ s'.lo = sig.ps.length := by
   unfold retK at h1
   split at h1
   ·
    cases h1
   ·
    rename_i he
    split at h1
    ·
     cases h1
    ·
     rename_i hlo
     split at h1
     ·
      rename_i vs hvs
      split at h1
      ·
       rename_i os us ms ho hmm
       split at h1
       ·
        rename_i hd
        exact ⟨vs, os, us, ms, fun h => he _ h, fun i h => he i h, hvs, ho, hmm, hd, h1, beqT hlo⟩
       ·
        cases h1
      ·
       cases h1
     ·
      cases h1
  obtain ⟨vs, os, us, ms, _, he, hvs, ho, hmo, hd, hk, hlo⟩ := key
  refine ⟨os ++ ms, hk, ?_⟩
  intro w xs ℓ τ hA
  subst hn
  refine .inl ⟨⟨fn, hf, by rw [hb]; rfl, hname⟩, ?_⟩
  refine calls_of_wp hf hb ?_
  have hs0 := sim_init hi hA hle
  refine reaches_iff.1 h2 w _ _ _ _ _ hs0 ?_
  intro a' w' ρ' hs
  obtain ⟨Xs, x1, x2, x3, x4⟩ := resSV_spec hΘ hs hvs
  have hpost : a'.defers = [] ∧ ∃ v, (results fn a'.tmps).run P w' = .ok v w' ∧ ∃ v', Ending.returned v = .returned v' ∧ Post w w' sig ds (os ++ ms) ℓ v' := by
   refine ⟨hs.defers, resVal Xs, results_eq fn _ _ (by rw [hrv]; exact x4), resVal Xs, rfl, ?_⟩
   obtain ⟨o1, o2, U, o3, o4, o5, o6⟩ := outsOf_spec ho
   have hrs : ∀ k es, ∀ r ∈ sig.rs, r = .fresh k es → PosK k es := by
    intro k es r hr e
    simp only [sigOk, Bool.and_eq_true, List.all_eq_true] at hsig
    have := hsig.2.2 r hr
    rw [e] at this
    exact posK_iff this
   have hU0 : ∀ (j : Nat) u, U[j]? = some u → ∃ t r v o X, sig.rs[j]? = some r ∧ vs[j]? = some v ∧ os[j]? = some o ∧ Xs[j]? = some X ∧ j < sig.rs.length ∧ ResRel w' r o X (locU ρ' u) t ∧ (u = [] ∨ ∃ n it, u = [n] ∧ s'.I n = some it ∧ it.owned = true) := by
    intro j u hu
    have hj : j < sig.rs.length := by rw [← o3]; exact (List.getElem?_eq_some_iff.1 hu).1
    have e1 := List.getElem?_eq_getElem hj
    have e2 := List.getElem?_eq_getElem (l := vs) (i := j) (by omega)
    have e3 := List.getElem?_eq_getElem (l := os) (i := j) (by omega)
    have e4 := List.getElem?_eq_getElem (l := Xs) (i := j) (by omega)
    obtain ⟨t, this⟩ := outOf_ok hs (r := sig.rs[j]) (fun k es e => hrs k es _ (List.getElem_mem hj) e) (x3 j _ _ e2 e4) (o5 j _ _ _ _ e1 e2 e3 hu)
    exact ⟨t, _, _, _, _, e1, e2, e3, e4, hj, this⟩
   obtain ⟨totF, hU⟩ : ∃ totF : Nat → Nat, ∀ (j : Nat) u, U[j]? = some u → ∃ r v o X, sig.rs[j]? = some r ∧ vs[j]? = some v ∧ os[j]? = some o ∧ Xs[j]? = some X ∧ j < sig.rs.length ∧ ResRel w' r o X (locU ρ' u) (totF j) ∧ (u = [] ∨ ∃ n it, u = [n] ∧ s'.I n = some it ∧ it.owned = true) := by
    refine Classical.axiomOfChoice (r := fun (j : Nat) (t : Nat) => ∀ u, U[j]? = some u → ∃ r v o X, sig.rs[j]? = some r ∧ vs[j]? = some v ∧ os[j]? = some o ∧ Xs[j]? = some X ∧ j < sig.rs.length ∧ ResRel w' r o X (locU ρ' u) t ∧ (u = [] ∨ ∃ n it, u = [n] ∧ s'.I n = some it ∧ it.owned = true)) fun j => ?_
    cases hu : U[j]? with
    | none => exact ⟨0, fun u h => by cases h⟩
    | some u0 =>
     obtain ⟨t, ht⟩ := hU0 j u0 hu
     exact ⟨t, fun u h => by injection h with h; subst h; exact ht⟩
   refine ⟨⟨Xs, os, ms, fun j => locU ρ' ((U[j]?).getD []), totF, rfl, rfl, o1, by omega, ?_, ?_, ?_, ?_⟩, hs.mono, hs.frame, hs.still⟩
   ·
    intro j r' o' X' a1 a2 a3
    have hj : j < U.length := by rw [o3]; exact (List.getElem?_eq_some_iff.1 a1).1
    have hu := List.getElem?_eq_getElem hj
    obtain ⟨r2, v2, o2', X2, b1, b2, b3, b4, _, b5, _⟩ := hU j _ hu
    rw [a1] at b1; injection b1 with b1; subst b1
    rw [a2] at b3; injection b3 with b3; subst b3
    rw [a3] at b4; injection b4 with b4; subst b4
    simp only [hu]; exact b5
   ·
    intro j q hq
    have hq : locU ρ' ((U[j]?).getD []) = some q := hq
    cases hu : U[j]? with
    | none => rw [hu] at hq; cases hq
    | some u =>
     rw [hu] at hq
     obtain ⟨_, _, _, _, _, _, _, _, hj, _, b6⟩ := hU j u hu
     rcases b6 with rfl | ⟨m, it, rfl, b7, b8⟩
     ·
      cases hq
     ·
      have hq : ρ'.loc m = some q := hq
      refine ⟨hj, hs.lt m it q b7 hq, ?_⟩
      rcases hs.own m it q b7 b8 hq with h | ⟨i, p, q', c1, c2, c3, c4⟩
      ·
       exact .inl h
      ·
       right
       cases p with
       | val => cases c2
       | view k es => cases c2
       | own k es => exact ⟨i, k, es, q', c1, c3, c4⟩
       | mt =>
        exfalso
        have hil := (List.getElem?_eq_some_iff.1 c1).1
        have hdl := List.getElem?_eq_getElem (l := ds) (i := i) (by rw [hA.lenD]; exact hil)
        have hxl := List.getElem?_eq_getElem (l := xs) (i := i) (by rw [hA.lenV]; exact hil)
        have hrel := hA.each i _ _ _ c1 hdl hxl
        obtain ⟨l0, hd0⟩ : ∃ l0, ds[i]? = some (.obj l0) := by
         rw [hdl]
         revert hrel
         generalize ds[i]'(by rw [hA.lenD]; exact hil) = d0
         intro hrel
         cases d0 with
         | obj l => exact ⟨l, rfl⟩
         | nilp => rw [hrel.2] at c3; cases c3
         | _ => exact hrel.elim
        obtain ⟨l, hl, hin⟩ := mut_named hmo c1 hd0
        rw [Nat.zero_add] at hl hin
        have hne : m ≠ i := by
         intro e; subst e
         have hmem : m ∈ us := by rw [o4]; exact List.mem_flatten.2 ⟨_, List.mem_of_getElem? hu, .head _⟩
         exact disj_iff.1 hd m hmem hin
        have hpin : ρ'.loc i = ℓ i := (hs.pin i (.inl (by rw [hlo]; exact hil))).1
        exact hs.sep m i it _ q q' b7 hl b8 hne hq (by rw [hpin]; exact c3) c4.symm
   ·
    intro i j q r' hne hq hr'
    have hq : locU ρ' ((U[i]?).getD []) = some q := hq
    have hr' : locU ρ' ((U[j]?).getD []) = some r' := hr'
    cases hu : U[i]? with
    | none => rw [hu] at hq; cases hq
    | some u =>
     cases hu' : U[j]? with
     | none => rw [hu'] at hr'; cases hr'
     | some u' =>
      rw [hu] at hq; rw [hu'] at hr'
      obtain ⟨_, _, _, _, _, _, _, _, _, _, b6⟩ := hU i u hu
      obtain ⟨_, _, _, _, _, _, _, _, _, _, d6⟩ := hU j u' hu'
      rcases b6 with rfl | ⟨m, it, rfl, b7, b8⟩
      ·
       cases hq
      ·
       rcases d6 with rfl | ⟨m', it', rfl, d7, d8⟩
       ·
        cases hr'
       ·
        have hmm : m ≠ m' := fun e => o6 i j _ _ m hne hu hu' (.head _) (by rw [e]; exact .head _)
        exact hs.sep m m' it it' q r' b7 d7 b8 hmm hq hr'
   ·
    exact mutOuts_ok hs hlo (by omega) hmo
  cases e with
  | normal => exact hpost
  | ret => exact hpost
  | exit i => exact absurd rfl (he i)
 ·
  cases h
end
inductive Leaf where
 | i (x : Int)
 | b (x : Bool)
 | l (x : List Int)
 | ll (x : List (List Int))
inductive Hole where
 | int (k : IntKind)
 | bool
 | ints (k : IntKind) (m : Nat)
 | flt (f : FloatKind)
 | fix (a : At)
 | slcE (n b es : Nat)
 | slcA (n b es : Nat)
inductive HV where
 | one (h : Hole)
 | agg (l : List Hole)
inductive ISh where
 | obj (l : List Hole)
 | row (k : RK) (es : Nat)
 | view (k : RK) (es : Nat)
 | tab (l : List Hole)
 | dview (k : RK) (es : Nat)
 | mp (kk : MK) (vk : IntKind)
structure Shp where
 n : Nat
 lo : Nat
 slots : List (Nat × HV)
 items : List (Nat × ISh)
def At.eqb : At → At → Bool
 | .own n, .own m => Nat.beq n m
 | .nils, .nils => true
 | .nilp, .nilp => true
 | .mapv n, .mapv m => Nat.beq n m
 | .dead, .dead => true
 | .ptr n b .z z, .ptr m c .z y => Nat.beq n m && (Nat.beq b c && Nat.beq z y)
 | _, _ => false
theorem At.eqb_eq {a c : At} (h : a.eqb c = true) : a = c := by
 unfold At.eqb at h
 split at h
 ·
  rw [beqT h]
 ·
  rfl
 ·
  rfl
 ·
  rw [beqT h]
 ·
  rfl
 ·
  simp only [Bool.and_eq_true] at h
  rw [beqT h.1, beqT h.2.1, beqT h.2.2]
 ·
  cases h
def takeH : Hole → At → Option (List Leaf)
 | .int k, .int k' x => match kindEq k k' with | true => some [.i x] | false => none
 | .bool, .bool x => some [.b x]
 | .ints k m, .ints k' m' xs => match kindEq k k' && Nat.beq m m' with | true => some [.l xs] | false => none
 | .flt f, .flt f' x => match fltEq f f' with | true => some [.i x] | false => none
 | .fix a, c => match a.eqb c with | true => some [] | false => none
 | .slcE n b es, .slc n' b' o es' len cap => match o, cap with
  | .el i es2 off, none => match off with
   | 0 => match Nat.beq n n' && (Nat.beq b b' && (Nat.beq es es' && Nat.beq es es2)) with | true => some [.i (i : Int), .i (len : Int)] | false => none
   | _ => none
  | _, _ => none
 | .slcA n b es, .slc n' b' o es' len cap => match o, cap with
  | .at e, none => match Nat.beq n n' && (Nat.beq b b' && Nat.beq es es') with | true => some [.i (e : Int), .i (len : Int)] | false => none
  | _, _ => none
 | _, _ => none
def fillH : Hole → List Leaf → At × List Leaf
 | .int k, .i x :: r => (.int k x, r)
 | .bool, .b x :: r => (.bool x, r)
 | .ints k m, .l xs :: r => (.ints k m xs, r)
 | .flt f, .i x :: r => (.flt f x, r)
 | .fix a, r => (a, r)
 | .slcE n b es, .i x :: .i y :: r => (.slc n b (.el x.toNat es 0) es y.toNat none, r)
 | .slcA n b es, .i x :: .i y :: r => (.slc n b (.at x.toNat) es y.toNat none, r)
 | _, r => (.dead, r)
theorem takeH_fill {h : Hole} {a : At} {ls : List Leaf} (r : List Leaf) (e : takeH h a = some ls) : fillH h (ls ++ r) = (a, r) := by
 unfold takeH at e
 split at e
 ·
  split at e
  ·
   rename_i hk
   injection e with e; subst e; rw [kindEq_iff.1 hk]; rfl
  ·
   cases e
 ·
  injection e with e; subst e; rfl
 ·
  split at e
  ·
   rename_i hk
   simp only [Bool.and_eq_true] at hk
   injection e with e; subst e; rw [kindEq_iff.1 hk.1, beqT hk.2]; rfl
  ·
   cases e
 ·
  split at e
  ·
   rename_i hk
   injection e with e; subst e; rw [fltEq_iff.1 hk]; rfl
  ·
   cases e
 ·
  split at e
  ·
   rename_i hk
   injection e with e; subst e; rw [At.eqb_eq hk]; rfl
  ·
   cases e
 ·
  split at e
  ·
   split at e
   ·
    split at e
    ·
     rename_i hk
     simp only [Bool.and_eq_true] at hk
     injection e with e; subst e
     rw [← beqT hk.1, ← beqT hk.2.1, ← beqT hk.2.2.1, ← beqT hk.2.2.2]
     simp [fillH]
    ·
     cases e
   ·
    cases e
  ·
   cases e
 ·
  split at e
  ·
   split at e
   ·
    rename_i hk
    simp only [Bool.and_eq_true] at hk
    injection e with e; subst e
    rw [← beqT hk.1, ← beqT hk.2.1, ← beqT hk.2.2]
    simp [fillH]
   ·
    cases e
  ·
   cases e
 ·
  cases e
def takeHs : List Hole → List At → Option (List Leaf)
 | [], [] => some []
 | h :: hs, a :: az => match takeH h a with
  | some l => match takeHs hs az with
   | some m => some (l ++ m)
   | none => none
  | none => none
 | _, _ => none
def fillHs : List Hole → List Leaf → List At × List Leaf
 | [], r => ([], r)
 | h :: hs, r => match fillH h r with
  | (a, r) => match fillHs hs r with
   | (az, r) => (a :: az, r)
theorem takeHs_fill : ∀ {hs : List Hole} {az : List At} {ls : List Leaf} (r : List Leaf), takeHs hs az = some ls → fillHs hs (ls ++ r) = (az, r)
 | [], [], ls, r, e => by simp only [takeHs] at e; injection e with e; subst e; rfl
 | [], _ :: _, _, _, e => by simp [takeHs] at e
 | _ :: _, [], _, _, e => by simp [takeHs] at e
 | h :: hs, a :: az, ls, r, e => by
  simp only [takeHs] at e
  split at e
  ·
   rename_i l h1
   split at e
   ·
    rename_i m h2
    injection e with e; subst e
    simp only [fillHs, List.append_assoc, takeH_fill _ h1, takeHs_fill r h2]
   ·
    cases e
  ·
   cases e
def takeV : HV → AV → Option (List Leaf)
 | .one h, .s (.one a) => takeH h a
 | .agg hs, .s (.agg l) => takeHs hs l
 | _, _ => none
def fillV : HV → List Leaf → AV × List Leaf
 | .one h, r => match fillH h r with | (a, r) => (.s (.one a), r)
 | .agg hs, r => match fillHs hs r with | (l, r) => (.s (.agg l), r)
theorem takeV_fill {h : HV} {v : AV} {ls : List Leaf} (r : List Leaf) (e : takeV h v = some ls) : fillV h (ls ++ r) = (v, r) := by
 unfold takeV at e
 split at e
 ·
  simp only [fillV, takeH_fill r e]
 ·
  simp only [fillV, takeHs_fill r e]
 ·
  cases e
def takeSl : List (Nat × HV) → List (Nat × AV) → Option (List Leaf)
 | [], [] => some []
 | (t, h) :: hs, (u, a) :: az => match Nat.beq t u, takeV h a with
  | true, some l => match takeSl hs az with
   | some m => some (l ++ m)
   | none => none
  | _, _ => none
 | _, _ => none
def fillSl : List (Nat × HV) → List Leaf → List (Nat × AV) × List Leaf
 | [], r => ([], r)
 | (t, h) :: hs, r => match fillV h r with
  | (a, r) => match fillSl hs r with
   | (az, r) => ((t, a) :: az, r)
theorem takeSl_fill : ∀ {hs : List (Nat × HV)} {az : List (Nat × AV)} {ls : List Leaf} (r : List Leaf), takeSl hs az = some ls → fillSl hs (ls ++ r) = (az, r)
 | [], [], ls, r, e => by simp only [takeSl] at e; injection e with e; subst e; rfl
 | [], _ :: _, _, _, e => by simp [takeSl] at e
 | _ :: _, [], _, _, e => by simp [takeSl] at e
 | (t, h) :: hs, (u, a) :: az, ls, r, e => by
  simp only [takeSl] at e
  split at e
  ·
   rename_i l hb h1
   split at e
   ·
    rename_i m h2
    injection e with e; subst e
    have := beqT hb; subst this
    simp only [fillSl, List.append_assoc, takeV_fill _ h1, takeSl_fill r h2]
   ·
    cases e
  ·
   cases e
def takeIS : ISh → Item → Option (List Leaf)
 | .obj hs, .obj l => takeHs hs l
 | .tab hs, .tab l => takeHs hs l
 | .row k es, .row k' es' xs => match rkEq k k' && Nat.beq es es' with | true => some [.l xs] | false => none
 | .view k es, .view k' es' xs => match rkEq k k' && Nat.beq es es' with | true => some [.l xs] | false => none
 | .dview k es, .dview k' es' xs => match rkEq k k' && Nat.beq es es' with | true => some [.ll xs] | false => none
 | .mp kk vk, .mp kk' vk' l => match mkEq kk kk' && kindEq vk vk' with | true => some [.ll l] | false => none
 | _, _ => none
def fillI : ISh → List Leaf → Item × List Leaf
 | .obj hs, r => match fillHs hs r with | (l, r) => (.obj l, r)
 | .tab hs, r => match fillHs hs r with | (l, r) => (.tab l, r)
 | .row k es, .l xs :: r => (.row k es xs, r)
 | .view k es, .l xs :: r => (.view k es xs, r)
 | .dview k es, .ll xs :: r => (.dview k es xs, r)
 | .mp kk vk, .ll l :: r => (.mp kk vk l, r)
 | _, r => (.obj [], r)
theorem takeI_fill {h : ISh} {v : Item} {ls : List Leaf} (r : List Leaf) (e : takeIS h v = some ls) : fillI h (ls ++ r) = (v, r) := by
 unfold takeIS at e
 split at e
 ·
  simp only [fillI, takeHs_fill r e]
 ·
  simp only [fillI, takeHs_fill r e]
 ·
  split at e
  ·
   rename_i hk
   simp only [Bool.and_eq_true] at hk
   injection e with e; subst e; rw [rkEq_iff.1 hk.1, beqT hk.2]; rfl
  ·
   cases e
 ·
  split at e
  ·
   rename_i hk
   simp only [Bool.and_eq_true] at hk
   injection e with e; subst e; rw [rkEq_iff.1 hk.1, beqT hk.2]; rfl
  ·
   cases e
 ·
  split at e
  ·
   rename_i hk
   simp only [Bool.and_eq_true] at hk
   injection e with e; subst e; rw [rkEq_iff.1 hk.1, beqT hk.2]; rfl
  ·
   cases e
 ·
  split at e
  ·
   rename_i hk
   simp only [Bool.and_eq_true] at hk
   injection e with e; subst e; rw [mkEq_iff.1 hk.1, kindEq_iff.1 hk.2]; rfl
  ·
   cases e
 ·
  cases e
def takeIs : List (Nat × ISh) → List (Nat × Item) → Option (List Leaf)
 | [], [] => some []
 | (t, h) :: hs, (u, a) :: az => match Nat.beq t u, takeIS h a with
  | true, some l => match takeIs hs az with
   | some m => some (l ++ m)
   | none => none
  | _, _ => none
 | _, _ => none
def fillIs : List (Nat × ISh) → List Leaf → List (Nat × Item) × List Leaf
 | [], r => ([], r)
 | (t, h) :: hs, r => match fillI h r with
  | (a, r) => match fillIs hs r with
   | (az, r) => ((t, a) :: az, r)
theorem takeIs_fill : ∀ {hs : List (Nat × ISh)} {az : List (Nat × Item)} {ls : List Leaf} (r : List Leaf), takeIs hs az = some ls → fillIs hs (ls ++ r) = (az, r)
 | [], [], ls, r, e => by simp only [takeIs] at e; injection e with e; subst e; rfl
 | [], _ :: _, _, _, e => by simp [takeIs] at e
 | _ :: _, [], _, _, e => by simp [takeIs] at e
 | (t, h) :: hs, (u, a) :: az, ls, r, e => by
  simp only [takeIs] at e
  split at e
  ·
   rename_i l hb h1
   split at e
   ·
    rename_i m h2
    injection e with e; subst e
    have := beqT hb; subst this
    simp only [fillIs, List.append_assoc, takeI_fill _ h1, takeIs_fill r h2]
   ·
    cases e
  ·
   cases e
def proj (σ : Shp) (s : AS) : Option (List Leaf) := match Nat.beq σ.n s.n && Nat.beq σ.lo s.lo, takeSl σ.slots s.tmps, takeIs σ.items s.items with
 | true, some a, some b => some (a ++ b)
 | _, _, _ => none
def fill (σ : Shp) (ls : List Leaf) : AS := match fillSl σ.slots ls with
 | (ts, r) => { n := σ.n, lo := σ.lo, tmps := ts, items := (fillIs σ.items r).1 }
theorem proj_fill {σ : Shp} {s : AS} {ls : List Leaf} (h : proj σ s = some ls) : fill σ ls = s := by
 unfold proj at h
 split at h
 ·
  rename_i a b hn ha hb
  injection h with h; subst h
  simp only [Bool.and_eq_true] at hn
  have e1 := beqT hn.1; have e2 := beqT hn.2
  have h3 := takeIs_fill [] hb
  rw [List.append_nil] at h3
  simp only [fill, takeSl_fill b ha, h3, e1, e2]
 ·
  cases h
def mkL (ν : Nrm) (σ : Shp) (F : (R : Type) → List Leaf → (X → AS → Option R) → Option R) : LoopFn := fun R s k =>
 match nrm ν s with
 | some s' => match proj σ s' with
  | some ls => F R ls k
  | none => none
 | none => none
def roundsOf {R : Type} (E : Env) (ν : Nrm) (id : Nat) (body : Code) (k : X → AS → Option R) (fuel : Nat) (s : AS) : Option R := iter ν (fun s k => exec E body s k) id k fuel s
theorem loopOk_of {P : Program} {E : Env} (hΘ : TypesOk P E.Θ) (hΓ : CtxOk P E.Γ) (hm : P.follows .mixedOrders = true) {ν : Nrm} {σ : Shp} {id : Nat} {body : Code} {F : (R : Type) → List Leaf → (X → AS → Option R) → Option R}
  (hlp : LoopsOk P E.lp body) (h : ∀ R ls k r, F R ls k = some r → ∃ fuel, roundsOf E ν id body k fuel (fill σ ls) = some r) : LoopOk P (mkL ν σ F) id body := by
 intro R s k r hk
 unfold mkL at hk
 split at hk
 ·
  rename_i s' hn
  split at hk
  ·
   rename_i ls hp
   obtain ⟨fuel, hf⟩ := h R ls k r hk
   rw [proj_fill hp] at hf
   have hb : ∀ (s : AS) (k : X → AS → Option R) (r : R), exec E body s k = some r → ∃ e s', k e s' = some r ∧ Reaches P body s e s' := (exec_sound hΘ hΓ hm body hlp).1
   obtain ⟨e, s'', h1, h2⟩ := iter_rounds hb _ _ _ hf
   obtain ⟨he, n, hw⟩ := rounds_wp h2
   have hl : ∀ w0 Mu ρ a w (Q : Exit → Act → World → Prop), Sim w0 Mu ρ s a w → (∀ a' w' ρ', Sim w0 Mu ρ' s'' a' w' → Exit.inBlock id Q e.out a' w') → (Code.block id (.loop body)).wp P Q a w := by
    intro w0 Mu ρ a w Q hs hQ
    obtain ⟨ρ2, hs2⟩ := hs.nrm hn
    exact wp_block (wp_loop_rounds n (hw w0 Mu ρ2 a w _ hs2 hQ))
   cases e with
   | normal => exact absurd rfl he
   | ret => exact ⟨.ret, s'', h1, fun w0 Mu ρ a w Q hs hQ => hl w0 Mu ρ a w Q hs hQ⟩
   | exit i =>
    simp only at h1
    split at h1
    ·
     rename_i e
     have e := beqT e; subst e
     refine ⟨.normal, s'', h1, fun w0 Mu ρ a w Q hs hQ => hl w0 Mu ρ a w Q hs fun a' w' ρ' hs' => ?_⟩
     simp only [X.out, Exit.inBlock, if_true]; exact hQ a' w' ρ' hs'
    ·
     rename_i e
     have e := beqN e
     refine ⟨.exit i, s'', h1, fun w0 Mu ρ a w Q hs hQ => hl w0 Mu ρ a w Q hs fun a' w' ρ' hs' => ?_⟩
     simp only [X.out, Exit.inBlock, if_neg e]; exact hQ a' w' ρ' hs'
  ·
   cases hk
 ·
  cases hk
theorem Contract.refine {P : Program} {g : Nat} {sig : Sig} {impl : (R : Type) → List DV → (List DV → Option R) → Option R}
  (h : ∀ R ds (k : List DV → Option R) r, impl R ds k = some r → ∃ impl', Contract P g { sig := sig, impl := impl' } ∧ impl' R ds k = some r) : Contract P g { sig := sig, impl := impl } := by
 intro R ds k r hk
 obtain ⟨impl', h1, h2⟩ := h R ds k r hk
 exact h1 R ds k r h2
end
end Go.Eng
namespace Go.Eng
open Go
def takeInts (k : IntKind) : List Int → List Value → Option (List Value)
 | [], cs => some cs
 | x :: xs, c :: cs => match c with
  | .int k' y => match kindEq k k' && decide (x = y) with | true => takeInts k xs cs | false => none
  | _ => none
 | _ :: _, [] => none
theorem takeInts_eq {k : IntKind} : ∀ {xs : List Int} {cs r : List Value}, takeInts k xs cs = some r → cs = xs.map (Value.int k) ++ r
 | [], cs, r, h => by
  have h : some cs = some r := h
  injection h with h
 | x :: xs, [], r, h => by simp [takeInts] at h
 | x :: xs, c :: cs, r, h => by
  simp only [takeInts] at h
  split at h
  ·
   rename_i k' y
   split at h
   ·
    rename_i hb
    simp only [Bool.and_eq_true, decide_eq_true_eq] at hb
    rw [takeInts_eq h, kindEq_iff.1 hb.1, hb.2]; rfl
   ·
    cases h
  ·
   cases h
def relLB : List At → List Value → Bool
 | [], [] => true
 | a :: l, cs => match a with
  | .ints k m xs => match takeInts k xs cs with
   | some r => Nat.beq xs.length m && relLB l r
   | none => false
  | a => match cs with
   | c :: r => (match a, c with
    | .int k x, .int k' y => kindEq k k' && decide (x = y)
    | .bool x, .bool y => (match x, y with | true, true => true | false, false => true | _, _ => false)
    | .flt f x, .float f' y => fltEq f' f && Nat.beq y x.toNat
    | .nils, .slice none 0 0 => true
    | .nilp, .pointer none => true
    | .dead, v => v.oneCell'
    | _, _ => false) && relLB l r
   | [] => false
 | [], _ :: _ => false
theorem relLB_rel : ∀ {l : List At} {cs : List Value}, relLB l cs = true → RelL rho0 sh0 l cs
 | [], [], _ => rfl
 | [], _ :: _, h => by simp [relLB] at h
 | a :: l, cs, h => by
  simp only [relLB] at h
  split at h
  ·
   rename_i k m xs
   split at h
   ·
    rename_i r hr
    simp only [Bool.and_eq_true] at h
    exact ⟨_, r, takeInts_eq hr, ⟨rfl, beqT h.1⟩, relLB_rel h.2⟩
   ·
    cases h
  ·
   split at h
   ·
    rename_i c r
    simp only [Bool.and_eq_true] at h
    refine ⟨[c], r, rfl, ?_, relLB_rel h.2⟩
    have h1 := h.1
    split at h1
    ·
     simp only [Bool.and_eq_true, decide_eq_true_eq] at h1
     rw [kindEq_iff.1 h1.1, h1.2]; rfl
    ·
     split at h1
     ·
      rfl
     ·
      rfl
     ·
      cases h1
    ·
     simp only [Bool.and_eq_true] at h1
     rw [fltEq_iff.1 h1.1, beqT h1.2]; rfl
    ·
     rfl
    ·
     rfl
    ·
     exact ⟨_, rfl, h1⟩
    ·
     cases h1
   ·
    cases h
def nilB {α : Type} : List α → Bool
 | [] => true
 | _ => false
theorem nilB_eq {α : Type} {l : List α} (h : nilB l = true) : l = [] := by cases l <;> simp_all [nilB]
def fieldsB : List (Nat × Nat) → List (Nat × Nat) → Bool
 | [], [] => true
 | (a, b) :: l, (c, d) :: m => Nat.beq a c && (Nat.beq b d && fieldsB l m)
 | _, _ => false
theorem fieldsB_eq : ∀ {l m : List (Nat × Nat)}, fieldsB l m = true → l = m
 | [], [], _ => rfl
 | [], _ :: _, h => by simp [fieldsB] at h
 | _ :: _, [], h => by simp [fieldsB] at h
 | (a, b) :: l, (c, d) :: m, h => by
  simp only [fieldsB, Bool.and_eq_true] at h
  rw [beqT h.1, beqT h.2.1, fieldsB_eq h.2.2]
def tdB : TD → TypeDesc → Bool
 | .int k, .int k' => kindEq k' k
 | .bool, .bool => true
 | .slice e, .slice e' => Nat.beq e' e
 | .str, .string => true
 | .flt f, .float f' => fltEq f' f
 | .map k e, .map k' e' => Nat.beq k' k && Nat.beq e' e
 | .ptr, .pointer _ => true
 | .array m e, .array m' e' => Nat.beq m' m && Nat.beq e' e
 | .struct fs, .struct fields => fieldsB (fields.toList.map (fun f => (f.type, f.offset))) fs
 | .other, .struct _ => false
 | .other, .array _ _ => false
 | .other, _ => true
 | _, _ => false
theorem tdB_desc {a : TD} {d : TypeDesc} (h : tdB a d = true) : TDesc a d := by
 unfold tdB at h
 split at h
 ·
  exact kindEq_iff.1 h
 ·
  trivial
 ·
  exact beqT h
 ·
  trivial
 ·
  exact fltEq_iff.1 h
 ·
  simp only [Bool.and_eq_true] at h; exact ⟨beqT h.1, beqT h.2⟩
 ·
  trivial
 ·
  simp only [Bool.and_eq_true] at h; exact ⟨beqT h.1, beqT h.2⟩
 ·
  exact fieldsB_eq h
 ·
  cases h
 ·
  cases h
 ·
  rename_i h1 h2
  cases d <;> first | trivial | (exact (h1 _ rfl).elim) | (exact (h2 _ _ rfl).elim)
 ·
  cases h
def cmpB (P : Program) (t : Nat) (ti : TI) : Bool := match ti.d with
 | .struct _ => !(P.stoodInHeld t) && (!(P.eqGuardType P.depth t) && (P.fieldsOf t).toList.all fun f => f.name != "_")
 | _ => true
theorem cmpB_ok {P : Program} {t : Nat} {ti : TI} (h : cmpB P t ti = true) : ∀ fs, ti.d = .struct fs → P.stoodInHeld t = false ∧ P.eqGuardType P.depth t = false ∧ ∀ f ∈ (P.fieldsOf t).toList, f.name ≠ "_" := by
 intro fs hd
 unfold cmpB at h
 rw [hd] at h
 simp only [Bool.and_eq_true, Bool.not_eq_true', List.all_eq_true, bne_iff_ne, ne_eq] at h
 exact h
def zB (P : Program) (t : Nat) (ti : TI) : Bool := match ti.d with
 | .int k => match P.info? t with
  | some i => match i.zero with
   | some (.int k' z) => kindEq k' k && decide (z = 0)
   | _ => false
  | none => false
 | _ => true
theorem zB_ok {P : Program} {t : Nat} {ti : TI} (h : zB P t ti = true) : ∀ k, ti.d = .int k → ∃ i, P.info? t = some i ∧ i.zero = some (.int k 0) := by
 intro k hd
 unfold zB at h
 rw [hd] at h
 simp only at h
 split at h
 ·
  rename_i i hi
  split at h
  ·
   rename_i k' z hz
   simp only [Bool.and_eq_true, decide_eq_true_eq] at h
   have := kindEq_iff.1 h.1
   subst this
   rw [h.2] at hz
   exact ⟨i, hi, hz⟩
  ·
   cases h
 ·
  cases h
def tyB (P : Program) (t : Nat) (ti : TI) : Bool :=
 match P.info? t, P.underlying t with
 | some i, some d => match i.zero with
  | some z => (Nat.beq i.size ti.size && Nat.beq i.bytes ti.bytes) && (nilB (namesL ti.zero) && (relLB ti.zero z.cells.toList && (tdB ti.d d && (cmpB P t ti && zB P t ti))))
  | none => false
 | _, _ => false
theorem tyB_ok {P : Program} {t : Nat} {ti : TI} (h : tyB P t ti = true) : TyOk P t ti := by
 unfold tyB at h
 split at h
 ·
  rename_i i d h1 h2
  split at h
  ·
   rename_i z hz
   simp only [Bool.and_eq_true] at h
   obtain ⟨⟨a1, a2⟩, a3, a4, a5, a6, a7⟩ := h
   exact ⟨⟨i, h1, beqT a1, beqT a2, nilB_eq a3, z, hz, relLB_rel a4⟩, ⟨d, h2, tdB_desc a5⟩, cmpB_ok a6, zB_ok a7⟩
  ·
   cases h
 ·
  cases h
def tysB (P : Program) : Types → Bool
 | [] => true
 | (t, ti) :: l => tyB P t ti && tysB P l
theorem tysB_ok {P : Program} : ∀ {Θ : Types}, tysB P Θ = true → TypesOk P Θ
 | [], _, t, ti, h => by simp [findTy] at h
 | (u, v) :: l, h, t, ti, hf => by
  simp only [tysB, Bool.and_eq_true] at h
  simp only [findTy] at hf
  split at hf
  ·
   rename_i e; injection hf with hf; subst hf; rw [beqT e]; exact tyB_ok h.1
  ·
   exact tysB_ok h.2 t ti hf
structure FnOk (P : Program) (g : Nat) (fn : Func) (n : Nat) (body : Code) (rv : List ResultVar) : Prop where
 look : P.funcs[g]? = some fn
 body : fn.body = some body
 n : fn.ntmps = n
 rv : fn.results.toList = rv
 name : fn.name ≠ "runtime.NumGoroutine"
theorem ctxOk_nil {P : Program} : CtxOk P [] := fun g fi h => by simp [findF] at h
theorem ctxOk_cons {P : Program} {g : Nat} {fi : FI} {Γ : Ctx} {fn : Func} {n : Nat} {body : Code} {rv : List ResultVar} (_hf : FnOk P g fn n body rv) (hs : sigOk fi.sig = true) (hc : Contract P g fi) (h : CtxOk P Γ) : CtxOk P ((g, fi) :: Γ) := by
 intro g' fi' hg
 simp only [findF] at hg
 split at hg
 ·
  rename_i e
  injection hg with hg; subst hg
  have e := beqT e; subst e
  exact ⟨hc, hs⟩
 ·
  exact h g' fi' hg
theorem ctxOk_ext {P : Program} {g : Nat} {fi : FI} {Γ : Ctx} (hs : sigOk fi.sig = true) (hc : Contract P g fi) (h : CtxOk P Γ) : CtxOk P ((g, fi) :: Γ) := by
 intro g' fi' hg
 simp only [findF] at hg
 split at hg
 ·
  rename_i e
  injection hg with hg; subst hg
  have e := beqT e; subst e
  exact ⟨hc, hs⟩
 ·
  exact h g' fi' hg
end Go.Eng
namespace Go.Eng
open Go
@[reducible] def nI (n : Nat) : Int := (n : Int)
def bodyIn (id : Nat) : List (Nat × Code) → Code
 | [] => .skip
 | (u, c) :: l => match Nat.beq id u with | true => c | false => bodyIn id l
def AllOk (P : Program) (lp : List (Nat × LoopFn)) : List (Nat × Code) → Prop
 | [] => True
 | p :: l => (∀ L, findL p.1 lp = some L → LoopOk P L p.1 p.2) ∧ AllOk P lp l
theorem loopsOk_of {P : Program} {lp : List (Nat × LoopFn)} {c : Code} {l : List (Nat × Code)} (h : loopsIn c = l) (ho : AllOk P lp l) : LoopsOk P lp c := by
 intro p hp
 rw [h] at hp
 clear h
 induction l with
 | nil => cases hp
 | cons q l ih =>
  rcases List.mem_cons.1 hp with e | hp
  ·
   subst e; exact ho.1
  ·
   exact ih ho.2 hp
theorem allOk_skip {P : Program} {lp : List (Nat × LoopFn)} {id : Nat} {c : Code} {l : List (Nat × Code)} (hL : findL id lp = none) (ho : AllOk P lp l) : AllOk P lp ((id, c) :: l) := by
 refine ⟨fun L' h' => ?_, ho⟩
 rw [show findL (id, c).1 lp = none from hL] at h'
 cases h'
theorem allOk_cons {P : Program} {lp : List (Nat × LoopFn)} {L : LoopFn} {id : Nat} {c : Code} {l : List (Nat × Code)} (hL : findL id lp = some L) (h : LoopOk P L id c) (ho : AllOk P lp l) : AllOk P lp ((id, c) :: l) := by
 refine ⟨fun L' h' => ?_, ho⟩
 rw [show findL (id, c).1 lp = some L from hL] at h'
 injection h' with h'; subst h'; exact h
end Go.Eng
namespace Go.Eng
noncomputable section
open Go
set_option maxRecDepth 100000
set_option linter.unusedVariables false
theorem law_calls {P : Program} {E : Env} (hΘ : TypesOk P E.Θ) (hΓ : CtxOk P E.Γ) (hm : P.follows .mixedOrders = true) {f : Nat} {fn : Func} {n : Nat} {body : Code} {rv : List ResultVar} (ok : FnOk P f fn n body rv) (hlp : LoopsOk P E.lp body)
  {args : Array Value} {W : World} {s0 : AS} {ρ : Rho} {Mu : MuT} (hMu : ∀ b, ¬ Mu b) (hs : Sim W Mu ρ s0 { tmps := args ++ Array.replicate (n - args.size) undef, defers := [] } W)
  (he : exec E body s0 (retK E.Θ { ps := [], rs := [.val] } [] rv some) = some [.v (.one (.bool true))]) :
  Calls P f args W fun e W' => e = .returned (.bool true) ∧ Still W W' ∧ W.heap.size ≤ W'.heap.size ∧ ∀ b, b < W.heap.size → W'.heap[b]? = W.heap[b]? := by
 obtain ⟨e, s', h1, h2⟩ := (exec_sound hΘ hΓ hm body hlp).1 _ _ _ he
 have key : ∃ vs os us ms, (∀ i, e ≠ .exit i) ∧ resSV E.Θ s' rv = some vs ∧ outsOf s'.I [.val] vs = some (os, us) ∧ mutOuts s'.I 0 [] [] = some ms ∧ some (os ++ ms) = some [.v (.one (.bool true))] := by
  unfold retK at h1
  split at h1
  ·
   cases h1
  ·
   rename_i he
   split at h1
   ·
    cases h1
   ·
    split at h1
    ·
     rename_i vs hvs
     split at h1
     ·
      rename_i os us ms ho hmm
      split at h1
      ·
       exact ⟨vs, os, us, ms, fun i h => he i h, hvs, ho, hmm, h1⟩
      ·
       cases h1
     ·
      cases h1
    ·
     cases h1
 obtain ⟨vs, os, us, ms, hx, hvs, ho, hmo, hk⟩ := key
 have hms : ms = [] := by simp only [mutOuts] at hmo; injection hmo with hmo; exact hmo.symm
 subst hms
 rw [List.append_nil] at hk
 injection hk with hk
 subst hk
 obtain ⟨o1, o2, U, o3, o4, o5, o6⟩ := outsOf_spec ho
 obtain ⟨v, rfl⟩ : ∃ v, vs = [v] := by
  cases vs with
  | nil => simp at o2
  | cons v l => cases l with
   | nil => exact ⟨v, rfl⟩
   | cons _ _ => simp at o2
 obtain ⟨u, rfl⟩ : ∃ u, U = [u] := by
  cases U with
  | nil => simp at o3
  | cons v l => cases l with
   | nil => exact ⟨v, rfl⟩
   | cons _ _ => simp at o3
 have hv := o5 0 _ _ _ _ rfl rfl rfl rfl
 have hv : v = .one (.bool true) := by
  simp only [outOf] at hv
  split at hv
  ·
   injection hv with hv; injection hv with h1 h2; injection h1
  ·
   cases hv
 subst hv
 have hn := ok.n
 subst hn
 refine calls_of_wp ok.look ok.body ?_
 refine reaches_iff.1 h2 W _ _ _ _ _ hs ?_
 intro a' W' ρ' hs'
 obtain ⟨Xs, x1, x2, x3, x4⟩ := resSV_spec hΘ hs' hvs
 have hpost : a'.defers = [] ∧ ∃ v, (results fn a'.tmps).run P W' = .ok v W' ∧ (Ending.returned v = .returned (.bool true) ∧ Still W W' ∧ W.heap.size ≤ W'.heap.size ∧ ∀ b, b < W.heap.size → W'.heap[b]? = W.heap[b]?) := by
  refine ⟨hs'.defers, resVal Xs, results_eq fn _ _ (by rw [ok.rv]; exact x4), ?_, hs'.still, hs'.mono, fun b hb => hs'.frame b hb (hMu b)⟩
  obtain ⟨X, rfl⟩ : ∃ X, Xs = [X] := by
   have : Xs.length = 1 := by rw [x1, ← x2]; rfl
   cases Xs with
   | nil => simp at this
   | cons v l => cases l with
    | nil => exact ⟨v, rfl⟩
    | cons _ _ => simp at this
  have := x3 0 _ X rfl rfl
  simp only [RelSV, RelAt, List.cons.injEq, and_true] at this
  rw [this]; rfl
 cases e with
 | normal => exact hpost
 | ret => exact hpost
 | exit i => exact absurd rfl (hx i)
end
end Go.Eng
namespace Go.Eng
noncomputable section
open Go Go.ChangeShapes Go.WideShapes Go.RowKit
set_option maxRecDepth 100000
set_option linter.unusedVariables false
section
variable {H : Type} {enc : TypeId × Value → H} {P : Program}
theorem post_of_law {f : Func} {s : ChangeSpec} {apart fresh handsOn again : Bool} {W W' : World} {args : Array Value} {ds gs : List (DataW H)} {before : List MemPlace} {tb : TypeId}
  (hl : laidOutB P = true) (hres : f.resultTypes = #[tb]) (htb : P.underlying tb = some .bool) (hvs : s.vars = [])
  (hts : ∀ t ∈ f.params.toList, P.readableRec t = true ∧ t < P.types.size)
  (hfn : (s.fn H (ds ++ gs)).results = [.lit (.bool true)] ∧ (s.fn H (ds ++ gs)).args = ds ∧ (s.fn H (ds ++ gs)).vars = [])
  (hW : DataW.Whole enc P f.params.toList s.vars apart W args.toList ds gs before)
  (hst : Still W W') (hsz : W.heap.size ≤ W'.heap.size) (hbl : ∀ b, b < W.heap.size → W'.heap[b]? = W.heap[b]?) :
  s.post enc P f apart fresh handsOn again W args (.bool true) W' := by
 obtain ⟨W2, hW2, hB⟩ : ∃ W2 : World, W2.heap = W'.heap ∧ Below W.heap.size W W2 := ⟨{ W' with tape := W.tape }, rfl, ⟨hst.1, rfl, hst.2, hsz, hbl⟩⟩
 have hlt : ∀ p ∈ before, p.block < W.heap.size := fun p hp => hW.lt p hp
 have hW0 := hW
 obtain ⟨p, q, hA, hV, rfl, hz, hn⟩ := hW
 rw [hvs] at hV
 obtain ⟨rfl, rfl⟩ := trodVars_none hV
 rw [List.append_nil] at hlt hz hn
 have hargs2 : ∀ sp : Nat → Bool, (∀ b, b < W.heap.size → sp b = true) → ∀ {ts : List TypeId} {vs : List Value} {ds : List (DataW H)} {p : List MemPlace}, (∀ t ∈ ts, P.readableRec t = true ∧ t < P.types.size) → (∀ x ∈ p, x.block < W.heap.size) →
   DataW.TrodAll enc P W 0 (fun _ => true) true ts vs ds p → DataW.TrodAll enc P W' 0 sp true ts vs ds p := by
  intro sp hsp ts
  induction ts with
  | nil =>
   intro vs ds p _ _ h
   obtain ⟨rfl, rfl, rfl⟩ := trodAll_nil h
   exact trodAll_mk0
  | cons t ts ih =>
   intro vs ds p ht hp h
   obtain ⟨v, vs1, d, ds1, a, b, rfl, rfl, rfl, h1, h2⟩ := trodAll_cons h
   have r1 := WideElems.Trod_stays hl (ht t (.head _)).1 (ht t (.head _)).2 h1 (fun x hx => hB.same (hp x (by simp [hx]))) (sp' := sp) (fun x hx => hsp _ (hp x (by simp [hx])))
   exact ⟨a, b, DataW.Trod.of_heap hW2 r1, ih (fun u hu => ht u (.tail _ hu)) (fun x hx => hp x (by simp [hx])) h2, rfl⟩
 have hres2 : ∀ (b : Nat) (sp : Nat → Bool) (hd : Bool), DataW.TrodAll enc P W' b sp hd f.resultTypes.toList ((Value.bool true).resultList f.resultTypes.size) (s.fn H (ds ++ [])).results [] := by
  intro b sp hd
  rw [hres, hfn.1]
  exact trodAll_mk1 (shut_bool htb true)
 have hvar2 : ∀ sp, DataW.TrodVars enc P W' sp s.vars (s.fn H (ds ++ [])).vars [] := by
  intro sp; rw [hvs, hfn.2.2]; rfl
 refine ⟨ds, [], p ++ [], [], p, [], hW0, hres2 _ _ _, ?_, hvar2 _, ?_, fun _ => ⟨?_, [.lit (.bool true)] ++ ds, [], ([] ++ p) ++ [], ⟨[] ++ p, [], ?_, ?_, rfl, ?_, ?_⟩, ?_⟩⟩
 ·
  rw [hfn.2.1]
  exact hargs2 _ (fun b hb => by simpa using hb) hts hlt hA
 ·
  refine ⟨hst.1, hst.2, fun i hi => ?_⟩
  rw [hbl i hi]
  split <;> simp_all
 ·
  exact ok_one hres rfl (okWide_bool_mk htb true)
 ·
  have h1 := hres2 0 (fun _ => true) true
  rw [hfn.1] at h1
  exact trodAll_append (hargs2 _ (fun _ _ => rfl) hts hlt hA) h1
 ·
  rw [hvs]; rfl
 ·
  intro b off hp
  rw [List.append_nil, List.nil_append] at hp
  have := hB.frozen (p := ⟨b, off, none⟩) (hlt _ hp)
  have e : W'.frozen? ⟨b, off, none⟩ = W2.frozen? ⟨b, off, none⟩ := by unfold World.frozen?; rw [hW2]
  rw [e, this]
  exact hz b off hp
 ·
  intro ha
  rw [List.append_nil, List.nil_append]
  exact hn ha
 ·
  intro x hx _
  simpa using hx
def IntEl (H : Type) (enc : TypeId × Value → H) (P : Program) (e : Nat) (k : IntKind) (es : Nat) : Prop :=
 P.cellsOf e = es ∧ ∀ (w : World) base sp hd n cs (x : DataW H × List MemPlace), DataW.trod enc P w base sp hd n e cs = some x → ∃ ys : List Int, cs = ys.map (Value.int k) ∧ ys.length = es ∧ ∀ y ∈ ys, (Lit.int k y).wf = true
theorem intEl_int {e : Nat} {k : IntKind} (he : P.underlying e = some (.int k)) (hc : P.cellsOf e = 1) : IntEl H enc P e k 1 := by
 refine ⟨hc, fun w base sp hd n cs x h => ?_⟩
 obtain ⟨m, rfl, _, hw⟩ := DataW.trod_int he h
 exact ⟨[m], rfl, rfl, by simpa using hw⟩
theorem chunks {k : IntKind} {es : Nat} (hpos : 0 < es) : ∀ (n : Nat) (cs : List Value), cs.length = n * es → (∀ i, i < n → ∃ ys : List Int, (cs.drop (i * es)).take es = ys.map (Value.int k) ∧ ys.length = es ∧ ∀ y ∈ ys, (Lit.int k y).wf = true) →
  ∃ ys : List Int, cs = ys.map (Value.int k) ∧ ys.length = n * es ∧ ∀ y ∈ ys, (Lit.int k y).wf = true
 | 0, cs, h, _ => by
  have : cs = [] := List.eq_nil_of_length_eq_zero (by simpa using h)
  exact ⟨[], by simp [this], by simp, by simp⟩
 | n + 1, cs, h, hh => by
  obtain ⟨ys, e1, e2, e3⟩ := hh 0 (by omega)
  obtain ⟨zs, f1, f2, f3⟩ := chunks hpos n (cs.drop es) (by rw [List.length_drop, h, Nat.succ_mul]; omega) (fun i hi => by
   obtain ⟨ys, e1, e2, e3⟩ := hh (i + 1) (by omega)
   refine ⟨ys, ?_, e2, e3⟩
   rw [List.drop_drop, ← e1, Nat.succ_mul, Nat.add_comm])
  refine ⟨ys ++ zs, ?_, by rw [List.length_append, e2, f2, Nat.succ_mul]; omega, ?_⟩
  ·
   rw [List.map_append, ← f1, ← e1]; simp
  ·
   intro y hy
   rcases List.mem_append.1 hy with hy | hy
   ·
    exact e3 y hy
   ·
    exact f3 y hy
theorem intEl_array {t e n : Nat} {k : IntKind} {es : Nat} (ht : P.underlying t = some (.array n e)) (hc : P.cellsOf t = n * es) (hpos : 0 < es) (he : IntEl H enc P e k es) : IntEl H enc P t k (n * es) := by
 refine ⟨hc, fun w base sp hd m cs x h => ?_⟩
 obtain ⟨xs, m', rfl, rfl, hl, hlen, hf⟩ := DataW.trod_array ht h
 rw [hc] at hl
 refine chunks hpos n cs hl fun i hi => ?_
 have h1 := hf i hi
 rw [he.1, List.getElem?_eq_getElem (by omega)] at h1
 exact he.2 _ _ _ _ _ _ _ h1
theorem cells?_get {w : World} {base : Nat} {a : Addr} {n : Nat} {cs : List Value} (h : w.cells? base a n = some cs) : cs.length = n ∧ ∀ i, i < n → w.cell? (a.add i) = cs[i]? := by
 unfold World.cells? at h
 split at h
 ·
  exact ⟨by simpa using mapM_some_length h, fun i hi => mapM_some_get h i i (by simp [hi])⟩
 ·
  cases h
theorem open_view {t e : Nat} {k : IntKind} {es : Nat} (ht : P.underlying t = some (.slice e)) (hpos : 0 < es) (he : IntEl H enc P e k es) {w : World} {base : Nat} {sp : Nat → Bool} {hd : Bool} {fuel : Nat} {cs : List Value} {x : DataW H × List MemPlace}
  (h : DataW.trod enc P w base sp hd fuel t cs = some x) :
  ∃ (xs : List Int) (len c : Nat) (A : Option Addr) (loc : Option (Nat × Nat)), cs = [.slice A len c] ∧ len ≤ c ∧ xs.length = len * es ∧ ViewAt (.one k) xs loc w ∧ (0 < xs.length → A = loc.map (adr · 0)) ∧ (∀ p, loc = some p → p.1 < w.heap.size) ∧
   (∀ y ∈ xs, (Lit.int k y).wf = true) ∧ ((x.1 = .nil ∧ len = 0) ∨ ∃ elems spare, x.1 = .slice elems spare ∧ elems.length = len) := by
 rcases DataW.trod_slice ht h with ⟨rfl, rfl⟩ | ⟨a, len, cap, elems, rest, n, rfl, rfl, rfl, hb, hlc, hcm, hel, hget, _, _⟩
 ·
  exact ⟨[], 0, 0, none, none, rfl, Nat.le_refl _, by simp, fun i x hx => by simp at hx, fun h => absurd h (by simp), (fun p hp => by cases hp), by simp, .inl ⟨rfl, rfl⟩⟩
 ·
  rw [he.1] at hget
  have key : ∀ i, i < len → ∃ ys : List Int, ys.length = es ∧ (∀ y ∈ ys, (Lit.int k y).wf = true) ∧ ∀ j, j < es → w.cell? ((a.add (i * es)).add j) = (ys[j]?).map (Value.int k) := by
   intro i hi
   have h1 := hget i hi
   rw [List.getElem?_eq_getElem (by omega), Option.bind_eq_some_iff] at h1
   obtain ⟨cs', h2, h3⟩ := h1
   obtain ⟨ys, e1, e2, e3⟩ := he.2 _ _ _ _ _ _ _ h3
   obtain ⟨_, g2⟩ := cells?_get h2
   refine ⟨ys, e2, e3, fun j hj => ?_⟩
   rw [g2 j hj, e1, List.getElem?_map]
  have build : ∀ m, m ≤ len → ∃ xs : List Int, xs.length = m * es ∧ (∀ y ∈ xs, (Lit.int k y).wf = true) ∧ ∀ i x, xs[i]? = some x → w.cell? (a.add i) = some (.int k x) := by
   intro m
   induction m with
   | zero => intro _; exact ⟨[], by simp, by simp, by simp⟩
   | succ m ih =>
    intro hm
    obtain ⟨xs, h1, h2, h3⟩ := ih (by omega)
    obtain ⟨ys, g1, g2, g3⟩ := key m (by omega)
    have hspot : a.spot = none := by
     by_cases h0 : m = 0
     ·
      subst h0
      have := g3 0 hpos
      rw [List.getElem?_eq_getElem (by omega)] at this
      simpa [Addr.add] using World.cell?_spot this
     ·
      have hx : 0 < xs.length := by rw [h1]; exact Nat.mul_pos (by omega) hpos
      have := h3 0 _ (List.getElem?_eq_getElem hx)
      simpa [Addr.add] using World.cell?_spot this
    obtain ⟨b, off, spot⟩ := a
    simp only at hspot
    subst hspot
    refine ⟨xs ++ ys, by rw [List.length_append, h1, g1, Nat.succ_mul], ?_, ?_⟩
    ·
     intro y hy
     rcases List.mem_append.1 hy with hy | hy
     ·
      exact h2 y hy
     ·
      exact g2 y hy
    ·
     intro i x hx
     rw [List.getElem?_append] at hx
     split at hx
     ·
      exact h3 i x hx
     ·
      have hi : i - xs.length < es := by
       have := (List.getElem?_eq_some_iff.1 hx).1; omega
      have := g3 (i - xs.length) hi
      rw [hx, add_plain, add_plain] at this
      rw [add_plain]
      rw [show off + i = off + m * es + (i - xs.length) by rw [h1]; omega]
      exact this
  obtain ⟨xs, h1, h2, h3⟩ := build len (Nat.le_refl _)
  refine ⟨xs, len, cap, some a, if 0 < xs.length then some (a.block, a.off) else none, rfl, hlc, h1, ?_, ?_, ?_, h2, .inr ⟨elems.map (·.1), rest.map (·.1), rfl, by simpa using hel⟩⟩
  ·
   intro i x hx
   have hp : 0 < xs.length := by have := (List.getElem?_eq_some_iff.1 hx).1; omega
   rw [if_pos hp]
   refine ⟨_, rfl, ?_⟩
   have hs : a.spot = none := by simpa [Addr.add] using World.cell?_spot (h3 0 _ (List.getElem?_eq_getElem hp))
   have := h3 i x hx
   obtain ⟨b, off, spot⟩ := a
   simp only at hs; subst hs
   rw [add_plain] at this
   exact this
  ·
   intro hp
   rw [if_pos hp]
   have hs : a.spot = none := by simpa [Addr.add] using World.cell?_spot (h3 0 _ (List.getElem?_eq_getElem hp))
   obtain ⟨b, off, spot⟩ := a
   simp only at hs; subst hs
   rfl
  ·
   intro p hp
   split at hp
   ·
    rename_i hpos'
    injection hp with hp; subst hp
    have h4 := h3 0 _ (List.getElem?_eq_getElem hpos')
    unfold World.cell? at h4
    have e : (a.add 0).block = a.block := by simp [Addr.add]
    rw [e] at h4
    cases hh : w.heap[a.block]? with
    | none => rw [hh] at h4; cases h4
    | some o => exact (Array.getElem?_eq_some_iff.1 hh).1
   ·
    cases hp
def RelArgs (ρ : Rho) (S : Sh) : List AV → List Value → Prop
 | [], [] => True
 | a :: l, v :: vs => RelV ρ S a v ∧ RelArgs ρ S l vs
 | _, _ => False
theorem relArgs_find {ρ : Rho} {S : Sh} : ∀ {l : List AV} {vs : List Value} (i t : Nat), RelArgs ρ S l vs → i ≤ t → RelV ρ S (findT t (numT i l)) (vs.getD (t - i) undef)
 | [], [], i, t, _, _ => trivial
 | [], _ :: _, _, _, h, _ => h.elim
 | _ :: _, [], _, _, h, _ => h.elim
 | a :: l, v :: vs, i, t, ⟨h1, h2⟩, hle => by
  show RelV ρ S (findT t ((i, a) :: numT (i + 1) l)) _
  rw [findT_cons]
  by_cases e : t = i
  ·
   subst e
   rw [if_pos rfl, Nat.sub_self]; exact h1
  ·
   rw [if_neg e]
   have := relArgs_find (i + 1) t h2 (by omega)
   rw [show t - i = (t - (i + 1)) + 1 by omega]
   exact this
theorem sim_startD {W : World} {s0 : AS} {ρ : Rho} {avs : List AV} {args : Array Value} {n : Nat} (hn : s0.n = n) (hargs : args.size ≤ n) (ht : s0.tmps = numT 0 avs) (nd : Nodup' s0.items)
  (hv : ∀ m it, s0.I m = some it → it.owned = false ∧ HoldI ρ s0.S m W it) (hlt : ∀ m p, ρ.loc m = some p → p.1 < W.heap.size) (hout : ∀ b, ρ.out b → b < W.heap.size) (hr : RelArgs ρ s0.S avs args.toList) :
  Sim W { blk := fun _ => False, loc := ρ.loc, tot := ρ.tot, sh := s0.S, out := ρ.out } ρ s0 { tmps := args ++ Array.replicate (n - args.size) undef, defers := [] } W := by
 refine ⟨rfl, nd, by simp [hn]; omega, ?_, fun m it hi => (hv m it hi).2, ?_, ?_, ?_, Nat.le_refl _, fun _ _ _ => rfl, fun m hm => ⟨rfl, rfl, .inl rfl⟩, ⟨rfl, rfl⟩, fun b hb => ⟨hout b hb, id⟩, rfl⟩
 ·
  intro t
  have h1 := relArgs_find 0 t hr (Nat.zero_le _)
  unfold AS.T
  rw [ht]
  by_cases h : t < args.size
  ·
   have : (args ++ Array.replicate (n - args.size) undef).getD t undef = args.toList.getD (t - 0) undef := by
    simp [Array.getD_eq_getD_getElem?, List.getD_eq_getElem?_getD, Array.getElem?_append, h]
   simp only [this]; exact h1
  ·
   have : (args ++ Array.replicate (n - args.size) undef).getD t undef = args.toList.getD (t - 0) undef := by
    simp [Array.getD_eq_getD_getElem?, List.getD_eq_getElem?_getD, Array.getElem?_append, h, Array.getElem?_replicate]
    split <;> rfl
   simp only [this]; exact h1
 ·
  intro m it p hi ho
  rw [(hv m it hi).1] at ho; cases ho
 ·
  intro m m' it it' p q hi hi' ho
  rw [(hv m it hi).1] at ho; cases ho
 ·
  intro m it p _ hp; exact hlt m p hp
theorem open_arr {t e n : Nat} {k : IntKind} {r : Reach} {b0 : Nat} {w : World} {base : Nat} {sp : Nat → Bool} {hd : Bool} {v : Value} {d : DataW H} {ps : List MemPlace} (ht : P.underlying t = some (.array n e)) (he : P.underlying e = some (.int k)) (hc : P.cellsOf e = 1) (hct : P.cellsOf t = n)
  (hval : Value.okWide P w r b0 t v) (h : DataW.Trod enc P w base sp hd t v d ps) : ∃ xs : List Int, v = .agg (xs.map (Value.int k)).toArray ∧ xs.length = n ∧ ∀ y ∈ xs, (Lit.int k y).wf = true := by
 unfold Value.okWide at hval
 rw [ht] at hval
 obtain ⟨cs, rfl, hs, _⟩ := hval
 obtain ⟨fuel, h⟩ := h
 have h1 := (intEl_array (H := H) (enc := enc) ht (by rw [hct, Nat.mul_one]) (by omega) (intEl_int he hc)).2 _ _ _ _ _ _ _ h
 obtain ⟨ys, e1, e2, e3⟩ := h1
 refine ⟨ys, ?_, by simpa using e2, e3⟩
 simp only [Value.cells] at e1
 rw [← e1]
theorem rel_own {ρ : Rho} {S : Sh} {m es len c : Nat} {A : Option Addr} {xs : List Int} {loc : Option (Nat × Nat)} {cs : List Value} (hS : S m = some (.view es xs.length)) (h1 : cs = [.slice A len c]) (h2 : len ≤ c) (h3 : xs.length = len * es) (h5 : 0 < xs.length → A = loc.map (adr · 0)) (hpos : 0 < es) (hloc : ρ.loc m = loc := by rfl) :
  RelAt ρ S (.own m) cs := by
 simp only [RelAt, hS]
 rw [h3, rl_mul hpos, hloc]
 exact ⟨A, c, h1, h2, by rw [← h3]; exact h5⟩
def locOf (l : List (Nat × Option (Nat × Nat))) (m : Nat) : Option (Nat × Nat) := match l with
 | [] => none
 | (u, p) :: r => match Nat.beq m u with | true => p | false => locOf r m
end

section
variable {P : Program} {H : Type} {enc : TypeId × Value → H}
structure RowOf (k : IntKind) (es : Nat) (w : World) (a : Addr) (i : Nat) (el : Option (DataW H)) (row : List Int) : Prop where
 ex : ∃ A m c pl, w.cell? (a.add i) = some (.slice A m c) ∧ row.length = m * es ∧ m ≤ c ∧ (0 < m → A = pl.map (adr · 0)) ∧ ViewAt (.one k) row pl w ∧ (∀ q, pl = some q → q.1 < w.heap.size) ∧
  ∃ d, el = some d ∧ ((d = .nil ∧ m = 0) ∨ ∃ elems spare, d = .slice elems spare ∧ elems.length = m)
 wf : ∀ y ∈ row, (Lit.int k y).wf = true
end
section
variable {H : Type} {enc : TypeId × Value → H} {P : Program}
end
end
end Go.Eng
namespace Go.Proofs.YtogcijgklnfjjaaGreat
noncomputable section
open Go Go.Eng
set_option maxRecDepth 100000
set_option linter.unusedVariables false
def Th : Types := [(3, ⟨.int .i64, 1, 8, [.int .i64 0]⟩),
 (4, ⟨.bool, 1, 1, [.bool false]⟩),
 (5, ⟨.int .u8, 1, 1, [.int .u8 0]⟩),
 (9, ⟨.str, 1, 16, [.dead]⟩),
 (22, ⟨.slice 78, 1, 24, [.nils]⟩),
 (23, ⟨.slice 118, 1, 24, [.nils]⟩),
 (24, ⟨.slice 41, 1, 24, [.nils]⟩),
 (25, ⟨.slice 120, 1, 24, [.nils]⟩),
 (26, ⟨.slice 122, 1, 24, [.nils]⟩),
 (27, ⟨.slice 40, 1, 24, [.nils]⟩),
 (28, ⟨.slice 124, 1, 24, [.nils]⟩),
 (29, ⟨.slice 126, 1, 24, [.nils]⟩),
 (30, ⟨.slice 128, 1, 24, [.nils]⟩),
 (31, ⟨.slice 22, 1, 24, [.nils]⟩),
 (32, ⟨.slice 130, 1, 24, [.nils]⟩),
 (33, ⟨.slice 132, 1, 24, [.nils]⟩),
 (34, ⟨.slice 134, 1, 24, [.nils]⟩),
 (35, ⟨.slice 136, 1, 24, [.nils]⟩),
 (36, ⟨.slice 138, 1, 24, [.nils]⟩),
 (37, ⟨.slice 140, 1, 24, [.nils]⟩),
 (39, ⟨.struct [(23, 0), (23, 1), (24, 2), (24, 3), (25, 4), (25, 5), (26, 6), (26, 7), (27, 8), (27, 9), (28, 10), (28, 11), (29, 12), (29, 13), (30, 14), (30, 15), (31, 16), (31, 17), (32, 18), (32, 19), (33, 20), (33, 21), (34, 22), (34, 23), (35, 24), (35, 25), (36, 26), (36, 27), (37, 28), (37, 29)], 30, 720, [.nils, .nils, .nils, .nils, .nils, .nils, .nils, .nils, .nils, .nils, .nils, .nils, .nils, .nils, .nils, .nils, .nils, .nils, .nils, .nils, .nils, .nils, .nils, .nils, .nils, .nils, .nils, .nils, .nils, .nils]⟩),
 (40, ⟨.slice 54, 1, 24, [.nils]⟩),
 (41, ⟨.slice 3, 1, 24, [.nils]⟩),
 (42, ⟨.int .i64, 1, 8, [.int .i64 0]⟩),
 (54, ⟨.array 32 5, 32, 32, [.ints .u8 32 (List.replicate 32 0)]⟩),
 (68, ⟨.slice 105, 1, 24, [.nils]⟩),
 (78, ⟨.struct [(3, 0), (54, 1)], 33, 40, [.int .i64 0, .ints .u8 32 (List.replicate 32 0)]⟩),
 (105, ⟨.struct [(54, 0), (54, 32)], 64, 64, [.ints .u8 32 (List.replicate 32 0), .ints .u8 32 (List.replicate 32 0)]⟩),
 (118, ⟨.slice 5, 1, 24, [.nils]⟩),
 (120, ⟨.slice 174, 1, 24, [.nils]⟩),
 (122, ⟨.slice 179, 1, 24, [.nils]⟩),
 (124, ⟨.slice 180, 1, 24, [.nils]⟩),
 (126, ⟨.slice 181, 1, 24, [.nils]⟩),
 (128, ⟨.slice 182, 1, 24, [.nils]⟩),
 (130, ⟨.slice 183, 1, 24, [.nils]⟩),
 (132, ⟨.slice 184, 1, 24, [.nils]⟩),
 (134, ⟨.slice 186, 1, 24, [.nils]⟩),
 (136, ⟨.slice 188, 1, 24, [.nils]⟩),
 (138, ⟨.slice 190, 1, 24, [.nils]⟩),
 (140, ⟨.slice 192, 1, 24, [.nils]⟩),
 (149, ⟨.map 54 3, 1, 8, [.dead]⟩),
 (165, ⟨.int .u64, 1, 8, [.int .u64 0]⟩),
 (167, ⟨.array 4 165, 4, 32, [.ints .u64 4 (List.replicate 4 0)]⟩),
 (172, ⟨.int .u64, 1, 8, [.int .u64 0]⟩),
 (174, ⟨.int .u32, 1, 4, [.int .u32 0]⟩),
 (176, ⟨.array 8 174, 8, 32, [.ints .u32 8 (List.replicate 8 0)]⟩),
 (179, ⟨.array 32 5, 32, 32, [.ints .u8 32 (List.replicate 32 0)]⟩),
 (180, ⟨.array 32 5, 32, 32, [.ints .u8 32 (List.replicate 32 0)]⟩),
 (181, ⟨.array 32 5, 32, 32, [.ints .u8 32 (List.replicate 32 0)]⟩),
 (182, ⟨.array 32 5, 32, 32, [.ints .u8 32 (List.replicate 32 0)]⟩),
 (183, ⟨.struct [(3, 0), (54, 1)], 33, 40, [.int .i64 0, .ints .u8 32 (List.replicate 32 0)]⟩),
 (184, ⟨.struct [(3, 0), (54, 1)], 33, 40, [.int .i64 0, .ints .u8 32 (List.replicate 32 0)]⟩),
 (186, ⟨.struct [(3, 0), (180, 1), (180, 33)], 65, 72, [.int .i64 0, .ints .u8 32 (List.replicate 32 0), .ints .u8 32 (List.replicate 32 0)]⟩),
 (188, ⟨.struct [(3, 0), (180, 1)], 33, 40, [.int .i64 0, .ints .u8 32 (List.replicate 32 0)]⟩),
 (190, ⟨.struct [(3, 0), (3, 1), (54, 2)], 34, 48, [.int .i64 0, .int .i64 0, .ints .u8 32 (List.replicate 32 0)]⟩),
 (192, ⟨.struct [(3, 0), (3, 1)], 2, 16, [.int .i64 0, .int .i64 0]⟩),
 (193, ⟨.map 3 3, 1, 8, [.dead]⟩),
 (247, ⟨.int .i64, 1, 8, [.int .i64 0]⟩),
 (272, ⟨.array 6 165, 6, 48, [.ints .u64 6 (List.replicate 6 0)]⟩)]
theorem thOk : TypesOk Tryz.prog Th := tysB_ok (by kernel_rfl)
theorem mixed : Tryz.prog.follows .mixedOrders = true := by kernel_rfl
def ck78 : List CK := [.int .i64] ++ List.replicate 32 (.int .u8)
def ck105 : List CK := List.replicate 64 (.int .u8)
def B4 : Code := (Tryz.f4.body.getD .skip)
def B6 : Code := (Tryz.f6.body.getD .skip)
def B7 : Code := (Tryz.f7.body.getD .skip)
def R7 : List ResultVar := [.tmp 6]
def K7 : List Nat := [0, 1, 5, 6, 7, 8, 9, 10, 11, 12, 13, 14, 15]
def N7 : Nrms := []
theorem ok7 : FnOk Tryz.prog 7 Tryz.f7 68 B7 R7 := ⟨by kernel_rfl, by kernel_rfl, by kernel_rfl, by kernel_rfl, by decide +kernel⟩
def B8 : Code := (Tryz.f8.body.getD .skip)
def S8 : Sig := { ps := [.view (.mix ck78) 33, .val], rs := [.fresh (.one .u8) 32, .fresh (.one .i64) 1, .val] }
def R8 : List ResultVar := [.tmp 4, .tmp 5, .tmp 6]
def K8 : List Nat := [0, 1, 4, 5, 6, 7, 8, 9, 10, 11, 12, 13, 14, 23, 38, 39, 40, 41, 42, 54, 67]
def B8_0 : Code := bodyIn 0 (loopsIn B8)
theorem ok8 : FnOk Tryz.prog 8 Tryz.f8 72 B8 R8 := ⟨by kernel_rfl, by kernel_rfl, by kernel_rfl, by kernel_rfl, by decide +kernel⟩
def B11 : Code := (Tryz.f11.body.getD .skip)
def S11 : Sig := { ps := [.view (.one .u8) 32, .view (.one .u8) 32], rs := [.val] }
def R11 : List ResultVar := [.tmp 4]
def K11 : List Nat := [0, 1, 4, 5, 10, 14, 25]
def N11_0 : Nrm := { slots := [.tmp 0, .tmp 1, .tmp 5], items := [0, 1] }
def B11_0 : Code := bodyIn 0 (loopsIn B11)
def N11 : Nrms := [(0, N11_0)]
theorem ok11 : FnOk Tryz.prog 11 Tryz.f11 26 B11 R11 := ⟨by kernel_rfl, by kernel_rfl, by kernel_rfl, by kernel_rfl, by decide +kernel⟩
def B12 : Code := (Tryz.f12.body.getD .skip)
def S12 : Sig := { ps := [.view (.one .i64) 1, .view (.one .i64) 1], rs := [.val] }
def R12 : List ResultVar := [.tmp 4]
def K12 : List Nat := [0, 1, 4, 5, 10, 14, 25]
def N12_0 : Nrm := { slots := [.tmp 0, .tmp 1, .tmp 5], items := [0, 1] }
def B12_0 : Code := bodyIn 0 (loopsIn B12)
def N12 : Nrms := [(0, N12_0)]
theorem ok12 : FnOk Tryz.prog 12 Tryz.f12 26 B12 R12 := ⟨by kernel_rfl, by kernel_rfl, by kernel_rfl, by kernel_rfl, by decide +kernel⟩
def B13 : Code := (Tryz.f13.body.getD .skip)
def S13 : Sig := { ps := [.val], rs := [.val] }
def R13 : List ResultVar := [.tmp 2]
def K13 : List Nat := [0, 2]
def N13 : Nrms := []
theorem ok13 : FnOk Tryz.prog 13 Tryz.f13 4 B13 R13 := ⟨by kernel_rfl, by kernel_rfl, by kernel_rfl, by kernel_rfl, by decide +kernel⟩
def B15 : Code := (Tryz.f15.body.getD .skip)
def S15 : Sig := { ps := [], rs := [.val] }
def R15 : List ResultVar := [.tmp 0]
def K15 : List Nat := [0, 1, 2, 3, 4, 5, 6, 7, 46]
theorem ok15 : FnOk Tryz.prog 15 Tryz.f15 88 B15 R15 := ⟨by kernel_rfl, by kernel_rfl, by kernel_rfl, by kernel_rfl, by decide +kernel⟩
def B19 : Code := (Tryz.f19.body.getD .skip)
def S19 : Sig := { ps := [.view (.one .u8) 32, .view (.one .i64) 1], rs := [.fresh (.mix ck78) 33, .val] }
def R19 : List ResultVar := [.tmp 4, .tmp 5]
def K19 : List Nat := [0, 1, 4, 5, 6, 7, 9, 13, 15, 16, 17, 18]
def N19_0 : Nrm := { slots := [.tmp 0, .row 7 1000007 (.mix ck78) 33, .tmp 15, .tmp 16, .tmp 17], items := [0, 1] }
def B19_0 : Code := bodyIn 0 (loopsIn B19)
def N19 : Nrms := [(0, N19_0)]
theorem ok19 : FnOk Tryz.prog 19 Tryz.f19 32 B19 R19 := ⟨by kernel_rfl, by kernel_rfl, by kernel_rfl, by kernel_rfl, by decide +kernel⟩
def B22 : Code := (Tryz.f22.body.getD .skip)
def S22 : Sig := { ps := [.view (.one .u8) 32, .val], rs := [.val] }
def R22 : List ResultVar := [.cell 4 54]
def K22 : List Nat := [0, 3, 4, 5, 6, 11]
def N22_0 : Nrm := { slots := [.tmp 0, .tmp 3, .tmp 4, .tmp 5, .tmp 6], items := [0, 3, 4, 5] }
def B22_0 : Code := bodyIn 0 (loopsIn B22)
def N22 : Nrms := [(0, N22_0)]
theorem ok22 : FnOk Tryz.prog 22 Tryz.f22 22 B22 R22 := ⟨by kernel_rfl, by kernel_rfl, by kernel_rfl, by kernel_rfl, by decide +kernel⟩
def B24 : Code := (Tryz.f24.body.getD .skip)
def S24 : Sig := { ps := [.view (.mix ck78) 33, .view (.mix ck78) 33], rs := [.val] }
def R24 : List ResultVar := [.tmp 4]
def K24 : List Nat := [0, 1, 4, 5, 10, 14, 25]
def N24_0 : Nrm := { slots := [.tmp 0, .tmp 1, .tmp 5], items := [0, 1] }
def B24_0 : Code := bodyIn 0 (loopsIn B24)
def N24 : Nrms := [(0, N24_0)]
theorem ok24 : FnOk Tryz.prog 24 Tryz.f24 26 B24 R24 := ⟨by kernel_rfl, by kernel_rfl, by kernel_rfl, by kernel_rfl, by decide +kernel⟩
def B25 : Code := (Tryz.f25.body.getD .skip)
def S25 : Sig := { ps := [.view (.one .i64) 1], rs := [.fresh (.one .u8) 32, .val] }
def R25 : List ResultVar := [.tmp 2, .tmp 3]
def K25 : List Nat := [0, 2, 3, 4, 8]
def N25 : Nrms := []
theorem ok25 : FnOk Tryz.prog 25 Tryz.f25 14 B25 R25 := ⟨by kernel_rfl, by kernel_rfl, by kernel_rfl, by kernel_rfl, by decide +kernel⟩
def B26 : Code := (Tryz.f26.body.getD .skip)
def S26 : Sig := { ps := [.view (.mix ck105) 64], rs := [.fresh (.one .u8) 32, .val] }
def R26 : List ResultVar := [.tmp 2, .tmp 3]
def K26 : List Nat := [0, 2, 3, 4, 5, 6, 7, 8, 9, 10, 11, 12, 13, 14, 16, 17, 18, 26, 28, 29, 30, 31, 42, 52, 53, 54, 55, 69, 76, 116, 122]
def N26_10 : Nrm := { slots := [.tmp 0, .tmp 8, .tmp 9, .tmp 16, .tmp 17, .tmp 18], items := [0, 51, 112] }
def N26_8 : Nrm := { slots := [.tmp 0, .tmp 8, .tmp 9, .tmp 16, .tmp 17], items := [0, 51, 112] }
def N26_6 : Nrm := { slots := [.tmp 0, .tmp 8, .tmp 9, .tmp 12, .tmp 13], items := [0, 51] }
def N26_4 : Nrm := { slots := [.tmp 0, .tmp 8, .tmp 9, .tmp 12], items := [0, 51] }
def N26_2 : Nrm := { slots := [.tmp 0, .tmp 8, .tmp 9, .tmp 52, .tmp 53, .tmp 54], items := [0, 51] }
def N26_0 : Nrm := { slots := [.tmp 0, .tmp 4, .tmp 28, .tmp 29, .tmp 30], items := [0, 27] }
def B26_10 : Code := bodyIn 10 (loopsIn B26)
def B26_8 : Code := bodyIn 8 (loopsIn B26)
def B26_6 : Code := bodyIn 6 (loopsIn B26)
def B26_4 : Code := bodyIn 4 (loopsIn B26)
def B26_2 : Code := bodyIn 2 (loopsIn B26)
def B26_0 : Code := bodyIn 0 (loopsIn B26)
def N26 : Nrms := [(10, N26_10), (8, N26_8), (6, N26_6), (4, N26_4), (2, N26_2), (0, N26_0)]
theorem ok26 : FnOk Tryz.prog 26 Tryz.f26 161 B26 R26 := ⟨by kernel_rfl, by kernel_rfl, by kernel_rfl, by kernel_rfl, by decide +kernel⟩
def B33 : Code := (Tryz.f33.body.getD .skip)
def S33 : Sig := { ps := [.view (.mix ck78) 33, .val], rs := [.val, .val] }
def R33 : List ResultVar := [.cell 4 54, .tmp 5]
def K33 : List Nat := [0, 1, 4, 5, 6, 7, 16, 22]
theorem ok33 : FnOk Tryz.prog 33 Tryz.f33 29 B33 R33 := ⟨by kernel_rfl, by kernel_rfl, by kernel_rfl, by kernel_rfl, by decide +kernel⟩
def B37 : Code := (Tryz.f37.body.getD .skip)
def S37 : Sig := { ps := [.view (.one .i64) 1, .val, .val], rs := [.val, .val] }
def R37 : List ResultVar := [.cell 6 54, .tmp 7]
def K37 : List Nat := [0, 1, 5, 6, 7, 8, 9, 13, 20]
def N37 : Nrms := []
theorem ok37 : FnOk Tryz.prog 37 Tryz.f37 29 B37 R37 := ⟨by kernel_rfl, by kernel_rfl, by kernel_rfl, by kernel_rfl, by decide +kernel⟩
def B38 : Code := (Tryz.f38.body.getD .skip)
def S38 : Sig := { ps := [.view (.one .i64) 1, .val, .val], rs := [.val, .val] }
def R38 : List ResultVar := [.cell 6 54, .tmp 7]
def K38 : List Nat := [0, 1, 5, 6, 7, 8, 9, 13, 19, 27]
def N38_0 : Nrm := { slots := [.tmp 0, .tmp 1, .tmp 5, .tmp 6, .tmp 9], items := [0, 5, 6] }
def B38_0 : Code := bodyIn 0 (loopsIn B38)
def N38 : Nrms := [(0, N38_0)]
theorem ok38 : FnOk Tryz.prog 38 Tryz.f38 34 B38 R38 := ⟨by kernel_rfl, by kernel_rfl, by kernel_rfl, by kernel_rfl, by decide +kernel⟩
def B39 : Code := (Tryz.f39.body.getD .skip)
def S39 : Sig := { ps := [.view (.one .i64) 1], rs := [.fresh (.one .u8) 32, .val] }
def R39 : List ResultVar := [.tmp 2, .tmp 3]
def K39 : List Nat := [0, 2, 3, 4, 5, 6, 10, 15]
def N39_0 : Nrm := { slots := [.tmp 0, .row 5 1000005 (.one .u8) 32, .tmp 6], items := [0] }
def B39_0 : Code := bodyIn 0 (loopsIn B39)
def N39 : Nrms := [(0, N39_0)]
theorem ok39 : FnOk Tryz.prog 39 Tryz.f39 27 B39 R39 := ⟨by kernel_rfl, by kernel_rfl, by kernel_rfl, by kernel_rfl, by decide +kernel⟩
def B40 : Code := (Tryz.f40.body.getD .skip)
def S40 : Sig := { ps := [.view (.mix ck78) 33, .val, .val], rs := [.fresh (.mix ck105) 64, .val] }
def R40 : List ResultVar := [.tmp 6, .tmp 7]
def K40 : List Nat := [0, 1, 2, 6, 7, 8, 9, 10, 14, 19]
theorem ok40 : FnOk Tryz.prog 40 Tryz.f40 28 B40 R40 := ⟨by kernel_rfl, by kernel_rfl, by kernel_rfl, by kernel_rfl, by decide +kernel⟩
def B41 : Code := (Tryz.f41.body.getD .skip)
def S41 : Sig := { ps := [.view (.mix ck105) 64, .val, .val], rs := [.fresh (.one .u8) 32, .val] }
def R41 : List ResultVar := [.tmp 6, .tmp 7]
def K41 : List Nat := [0, 1, 2, 6, 7, 8, 9, 11, 12, 13, 14, 15, 16, 17, 18, 23, 24, 25, 26, 35, 36, 37, 45, 60, 85]
def B41_2 : Code := bodyIn 2 (loopsIn B41)
def B41_0 : Code := bodyIn 0 (loopsIn B41)
theorem ok41 : FnOk Tryz.prog 41 Tryz.f41 106 B41 R41 := ⟨by kernel_rfl, by kernel_rfl, by kernel_rfl, by kernel_rfl, by decide +kernel⟩
def B42 : Code := (Tryz.f42.body.getD .skip)
def S42 : Sig := { ps := [.val, .val], rs := [.val] }
def R42 : List ResultVar := [.cell 4 54]
def K42 : List Nat := [2, 3, 4]
def N42 : Nrms := []
theorem ok42 : FnOk Tryz.prog 42 Tryz.f42 11 B42 R42 := ⟨by kernel_rfl, by kernel_rfl, by kernel_rfl, by kernel_rfl, by decide +kernel⟩
def B43 : Code := (Tryz.f43.body.getD .skip)
def R43 : List ResultVar := []
def K43 : List Nat := [0, 2]
theorem ok43 : FnOk Tryz.prog 43 Tryz.f43 11 B43 R43 := ⟨by kernel_rfl, by kernel_rfl, by kernel_rfl, by kernel_rfl, by decide +kernel⟩
def B44 : Code := (Tryz.f44.body.getD .skip)
def S44 : Sig := { ps := [.val, .val], rs := [.val] }
def R44 : List ResultVar := [.cell 4 78]
def K44 : List Nat := [0, 1, 4]
def N44 : Nrms := []
theorem ok44 : FnOk Tryz.prog 44 Tryz.f44 11 B44 R44 := ⟨by kernel_rfl, by kernel_rfl, by kernel_rfl, by kernel_rfl, by decide +kernel⟩
def B47 : Code := (Tryz.f47.body.getD .skip)
def S47 : Sig := { ps := [.view (.one .i64) 1], rs := [.fresh (.one .u8) 32] }
def R47 : List ResultVar := [.tmp 2]
def K47 : List Nat := [0, 2, 3, 4, 8]
def N47_0 : Nrm := { slots := [.tmp 0, .row 3 1000003 (.one .u8) 32, .tmp 4], items := [0] }
def B47_0 : Code := bodyIn 0 (loopsIn B47)
def N47 : Nrms := [(0, N47_0)]
theorem ok47 : FnOk Tryz.prog 47 Tryz.f47 20 B47 R47 := ⟨by kernel_rfl, by kernel_rfl, by kernel_rfl, by kernel_rfl, by decide +kernel⟩
def B51 : Code := (Tryz.f51.body.getD .skip)
def S51 : Sig := { ps := [.val], rs := [.val] }
def R51 : List ResultVar := [.tmp 2]
def K51 : List Nat := [1, 2]
def N51 : Nrms := []
theorem ok51 : FnOk Tryz.prog 51 Tryz.f51 7 B51 R51 := ⟨by kernel_rfl, by kernel_rfl, by kernel_rfl, by kernel_rfl, by decide +kernel⟩
def B65 : Code := (Tryz.f65.body.getD .skip)
def S65 : Sig := { ps := [.val, .val], rs := [.val] }
def R65 : List ResultVar := [.cell 4 54]
def K65 : List Nat := [0, 1, 4]
def N65 : Nrms := []
theorem ok65 : FnOk Tryz.prog 65 Tryz.f65 16 B65 R65 := ⟨by kernel_rfl, by kernel_rfl, by kernel_rfl, by kernel_rfl, by decide +kernel⟩
def B66 : Code := (Tryz.f66.body.getD .skip)
def S66 : Sig := { ps := [.view (.one .u8) 32], rs := [.fresh (.one .u8) 32] }
def R66 : List ResultVar := [.tmp 2]
def K66 : List Nat := [0, 2, 3]
def N66 : Nrms := []
theorem ok66 : FnOk Tryz.prog 66 Tryz.f66 8 B66 R66 := ⟨by kernel_rfl, by kernel_rfl, by kernel_rfl, by kernel_rfl, by decide +kernel⟩
def B67 : Code := (Tryz.f67.body.getD .skip)
def S67 : Sig := { ps := [.val], rs := [.val] }
def R67 : List ResultVar := [.tmp 2]
def K67 : List Nat := [0, 2]
def N67 : Nrms := []
theorem ok67 : FnOk Tryz.prog 67 Tryz.f67 9 B67 R67 := ⟨by kernel_rfl, by kernel_rfl, by kernel_rfl, by kernel_rfl, by decide +kernel⟩
def B68 : Code := (Tryz.f68.body.getD .skip)
def S68 : Sig := { ps := [.val], rs := [.val] }
def R68 : List ResultVar := [.cell 2 54]
def K68 : List Nat := [0, 2]
def N68 : Nrms := []
theorem ok68 : FnOk Tryz.prog 68 Tryz.f68 6 B68 R68 := ⟨by kernel_rfl, by kernel_rfl, by kernel_rfl, by kernel_rfl, by decide +kernel⟩
def B69 : Code := (Tryz.f69.body.getD .skip)
def S69 : Sig := { ps := [.val], rs := [.val] }
def R69 : List ResultVar := [.cell 2 54]
def K69 : List Nat := [0, 2]
def N69 : Nrms := []
theorem ok69 : FnOk Tryz.prog 69 Tryz.f69 6 B69 R69 := ⟨by kernel_rfl, by kernel_rfl, by kernel_rfl, by kernel_rfl, by decide +kernel⟩
def B70 : Code := (Tryz.f70.body.getD .skip)
def S70 : Sig := { ps := [.view (.one .i64) 1], rs := [.val] }
def R70 : List ResultVar := [.tmp 2]
def K70 : List Nat := [0, 2, 3, 4, 5, 8, 10, 11, 12, 13, 19, 23]
def N70_0 : Nrm := { slots := [.tmp 3, .tmp 10, .tmp 11, .tmp 12], items := [0, 9] }
def B70_0 : Code := bodyIn 0 (loopsIn B70)
def N70 : Nrms := [(0, N70_0)]
theorem ok70 : FnOk Tryz.prog 70 Tryz.f70 29 B70 R70 := ⟨by kernel_rfl, by kernel_rfl, by kernel_rfl, by kernel_rfl, by decide +kernel⟩
def B71 : Code := (Tryz.f71.body.getD .skip)
def S71 : Sig := { ps := [.val, .val], rs := [.val] }
def R71 : List ResultVar := [.tmp 4]
def K71 : List Nat := [0, 1, 4]
def N71 : Nrms := []
theorem ok71 : FnOk Tryz.prog 71 Tryz.f71 12 B71 R71 := ⟨by kernel_rfl, by kernel_rfl, by kernel_rfl, by kernel_rfl, by decide +kernel⟩
def B72 : Code := (Tryz.f72.body.getD .skip)
def S72 : Sig := { ps := [.view (.one .i64) 1], rs := [.fresh (.one .i64) 1] }
def R72 : List ResultVar := [.tmp 2]
def K72 : List Nat := [0, 2, 3]
def N72 : Nrms := []
theorem ok72 : FnOk Tryz.prog 72 Tryz.f72 8 B72 R72 := ⟨by kernel_rfl, by kernel_rfl, by kernel_rfl, by kernel_rfl, by decide +kernel⟩
def B73 : Code := (Tryz.f73.body.getD .skip)
def S73 : Sig := { ps := [.view (.one .i64) 1], rs := [.val] }
def R73 : List ResultVar := [.tmp 2]
def K73 : List Nat := [0, 2, 3, 4, 7, 11, 25, 28, 39]
def N73_2 : Nrm := { slots := [.tmp 0, .tmp 3, .tmp 4], items := [0] }
def N73_0 : Nrm := { slots := [.tmp 0, .tmp 3], items := [0] }
def B73_2 : Code := bodyIn 2 (loopsIn B73)
def B73_0 : Code := bodyIn 0 (loopsIn B73)
def N73 : Nrms := [(2, N73_2), (0, N73_0)]
theorem ok73 : FnOk Tryz.prog 73 Tryz.f73 40 B73 R73 := ⟨by kernel_rfl, by kernel_rfl, by kernel_rfl, by kernel_rfl, by decide +kernel⟩
def B74 : Code := (Tryz.f74.body.getD .skip)
def S74 : Sig := { ps := [.val, .val, .val], rs := [.val] }
def R74 : List ResultVar := [.cell 6 54]
def K74 : List Nat := [3, 4, 5, 6]
def N74 : Nrms := []
theorem ok74 : FnOk Tryz.prog 74 Tryz.f74 16 B74 R74 := ⟨by kernel_rfl, by kernel_rfl, by kernel_rfl, by kernel_rfl, by decide +kernel⟩
def B75 : Code := (Tryz.f75.body.getD .skip)
def S75 : Sig := { ps := [.val, .val, .val], rs := [.val] }
def R75 : List ResultVar := [.cell 6 54]
def K75 : List Nat := [3, 4, 5, 6]
def N75 : Nrms := []
theorem ok75 : FnOk Tryz.prog 75 Tryz.f75 12 B75 R75 := ⟨by kernel_rfl, by kernel_rfl, by kernel_rfl, by kernel_rfl, by decide +kernel⟩
def B76 : Code := (Tryz.f76.body.getD .skip)
def S76 : Sig := { ps := [.view (.one .u8) 32, .val], rs := [.fresh (.one .u8) 32] }
def R76 : List ResultVar := [.tmp 4]
def K76 : List Nat := [0, 3, 4, 5, 6, 7, 8, 9, 17, 18, 19, 30, 31, 32, 36, 77, 78, 79]
def N76_4 : Nrm := { slots := [.tmp 5, .tmp 6, .tmp 77, .tmp 78], items := [12, 15, 72] }
def N76_2 : Nrm := { slots := [.tmp 0, .tmp 3, .tmp 5, .tmp 6, .tmp 7, .tmp 17, .tmp 18, .tmp 30, .tmp 31], items := [0, 3, 12, 15, 72] }
def N76_0 : Nrm := { slots := [.tmp 0, .tmp 3, .tmp 5, .tmp 6, .tmp 17, .tmp 18], items := [0, 3, 12, 15, 72] }
def B76_4 : Code := bodyIn 4 (loopsIn B76)
def B76_2 : Code := bodyIn 2 (loopsIn B76)
def B76_0 : Code := bodyIn 0 (loopsIn B76)
def N76 : Nrms := [(4, N76_4), (2, N76_2), (0, N76_0)]
theorem ok76 : FnOk Tryz.prog 76 Tryz.f76 95 B76 R76 := ⟨by kernel_rfl, by kernel_rfl, by kernel_rfl, by kernel_rfl, by decide +kernel⟩
def B77 : Code := (Tryz.f77.body.getD .skip)
def S77 : Sig := { ps := [.view (.one .i64) 1], rs := [.fresh (.one .u8) 32] }
def R77 : List ResultVar := [.tmp 2]
def K77 : List Nat := [0, 2, 3, 5, 6, 7, 8, 9]
def N77_0 : Nrm := { slots := [.row 3 1000003 (.one .u8) 32, .tmp 6, .tmp 7, .tmp 8], items := [0] }
def B77_0 : Code := bodyIn 0 (loopsIn B77)
def N77 : Nrms := [(0, N77_0)]
theorem ok77 : FnOk Tryz.prog 77 Tryz.f77 19 B77 R77 := ⟨by kernel_rfl, by kernel_rfl, by kernel_rfl, by kernel_rfl, by decide +kernel⟩
def B78 : Code := (Tryz.f78.body.getD .skip)
def S78 : Sig := { ps := [.val], rs := [.val, .val] }
def R78 : List ResultVar := [.cell 2 54, .tmp 3]
def K78 : List Nat := [1, 2, 3, 4, 5, 11]
def N78 : Nrms := []
theorem ok78 : FnOk Tryz.prog 78 Tryz.f78 23 B78 R78 := ⟨by kernel_rfl, by kernel_rfl, by kernel_rfl, by kernel_rfl, by decide +kernel⟩
def B79 : Code := (Tryz.f79.body.getD .skip)
def S79 : Sig := { ps := [.val, .val], rs := [.val] }
def R79 : List ResultVar := [.cell 4 54]
def K79 : List Nat := [2, 3, 4]
def N79 : Nrms := []
theorem ok79 : FnOk Tryz.prog 79 Tryz.f79 12 B79 R79 := ⟨by kernel_rfl, by kernel_rfl, by kernel_rfl, by kernel_rfl, by decide +kernel⟩
def B80 : Code := (Tryz.f80.body.getD .skip)
def S80 : Sig := { ps := [.val, .val], rs := [.val] }
def R80 : List ResultVar := [.cell 4 54]
def K80 : List Nat := [2, 3, 4]
def N80 : Nrms := []
theorem ok80 : FnOk Tryz.prog 80 Tryz.f80 11 B80 R80 := ⟨by kernel_rfl, by kernel_rfl, by kernel_rfl, by kernel_rfl, by decide +kernel⟩
def B102 : Code := (Tryz.f102.body.getD .skip)
def S102 : Sig := { ps := [.view (.mix ck78) 33], rs := [.fresh (.one .i64) 1, .fresh (.mix ck105) 64] }
def R102 : List ResultVar := [.tmp 2, .tmp 3]
def K102 : List Nat := [0, 2, 3, 4, 5, 7, 8, 9, 10, 11]
def N102_0 : Nrm := { slots := [.row 4 1000004 (.one .i64) 1, .row 5 1000005 (.mix ck105) 64, .tmp 8, .tmp 9, .tmp 10], items := [0] }
def B102_0 : Code := bodyIn 0 (loopsIn B102)
def N102 : Nrms := [(0, N102_0)]
theorem ok102 : FnOk Tryz.prog 102 Tryz.f102 31 B102 R102 := ⟨by kernel_rfl, by kernel_rfl, by kernel_rfl, by kernel_rfl, by decide +kernel⟩
def B103 : Code := (Tryz.f103.body.getD .skip)
def S103 : Sig := { ps := [.view (.mix ck105) 64, .val], rs := [.val] }
def R103 : List ResultVar := [.cell 4 54]
def K103 : List Nat := [0, 3, 4, 5, 6, 8, 9, 11, 12, 13, 14]
def B103_0 : Code := bodyIn 0 (loopsIn B103)
theorem ok103 : FnOk Tryz.prog 103 Tryz.f103 37 B103 R103 := ⟨by kernel_rfl, by kernel_rfl, by kernel_rfl, by kernel_rfl, by decide +kernel⟩
def B105 : Code := (Tryz.f105.body.getD .skip)
def S105 : Sig := { ps := [.view (.mix ck105) 64, .val], rs := [.val] }
def R105 : List ResultVar := [.tmp 4]
def K105 : List Nat := [0, 1, 4, 5, 8, 12, 22, 23, 24, 25, 36]
def B105_0 : Code := bodyIn 0 (loopsIn B105)
theorem ok105 : FnOk Tryz.prog 105 Tryz.f105 38 B105 R105 := ⟨by kernel_rfl, by kernel_rfl, by kernel_rfl, by kernel_rfl, by decide +kernel⟩
def B108 : Code := (Tryz.f108.body.getD .skip)
def S108 : Sig := { ps := [.view (.one .i64) 1, .val], rs := [.val] }
def R108 : List ResultVar := [.tmp 4]
def K108 : List Nat := [0, 1, 4, 5, 7, 8, 9, 16]
def N108_0 : Nrm := { slots := [.tmp 0, .tmp 1, .tmp 7, .tmp 8], items := [0] }
def B108_0 : Code := bodyIn 0 (loopsIn B108)
def N108 : Nrms := [(0, N108_0)]
theorem ok108 : FnOk Tryz.prog 108 Tryz.f108 19 B108 R108 := ⟨by kernel_rfl, by kernel_rfl, by kernel_rfl, by kernel_rfl, by decide +kernel⟩
def B109 : Code := (Tryz.f109.body.getD .skip)
def S109 : Sig := { ps := [.view (.one .u8) 32, .val, .val], rs := [.val] }
def R109 : List ResultVar := [.cell 6 54]
def K109 : List Nat := [0, 1, 5, 6, 7, 8, 9, 10, 17, 22]
def N109_0 : Nrm := { slots := [.tmp 0, .tmp 1, .tmp 5, .tmp 6, .tmp 7, .tmp 8, .tmp 9], items := [0, 5, 6, 7, 8] }
def B109_0 : Code := bodyIn 0 (loopsIn B109)
def N109 : Nrms := [(0, N109_0)]
theorem ok109 : FnOk Tryz.prog 109 Tryz.f109 50 B109 R109 := ⟨by kernel_rfl, by kernel_rfl, by kernel_rfl, by kernel_rfl, by decide +kernel⟩
def B110 : Code := (Tryz.f110.body.getD .skip)
def S110 : Sig := { ps := [.val], rs := [.val] }
def R110 : List ResultVar := [.tmp 2]
def K110 : List Nat := [0, 2, 8]
def N110 : Nrms := []
theorem ok110 : FnOk Tryz.prog 110 Tryz.f110 9 B110 R110 := ⟨by kernel_rfl, by kernel_rfl, by kernel_rfl, by kernel_rfl, by decide +kernel⟩
def B111 : Code := (Tryz.f111.body.getD .skip)
def S111 : Sig := { ps := [.val], rs := [.val] }
def R111 : List ResultVar := [.cell 2 54]
def K111 : List Nat := [1, 2]
def N111 : Nrms := []
theorem ok111 : FnOk Tryz.prog 111 Tryz.f111 7 B111 R111 := ⟨by kernel_rfl, by kernel_rfl, by kernel_rfl, by kernel_rfl, by decide +kernel⟩
def B112 : Code := (Tryz.f112.body.getD .skip)
def R112 : List ResultVar := [.tmp 4, .tmp 5]
def K112 : List Nat := [0, 1, 4, 5, 6, 7, 8, 9, 10, 11, 12, 14, 18, 19, 20, 27, 37, 65, 66, 67, 68, 86, 87, 88, 89, 97]
def B112_6 : Code := bodyIn 6 (loopsIn B112)
def B112_4 : Code := bodyIn 4 (loopsIn B112)
def B112_2 : Code := bodyIn 2 (loopsIn B112)
def B112_0 : Code := bodyIn 0 (loopsIn B112)
theorem ok112 : FnOk Tryz.prog 112 Tryz.f112 100 B112 R112 := ⟨by kernel_rfl, by kernel_rfl, by kernel_rfl, by kernel_rfl, by decide +kernel⟩
def B113 : Code := (Tryz.f113.body.getD .skip)
def S113 : Sig := { ps := [.view (.one .u8) 32, .view (.one .u8) 32, .val], rs := [.fresh (.one .u8) 32, .val] }
def R113 : List ResultVar := [.tmp 6, .tmp 7]
def K113 : List Nat := [0, 1, 2, 6, 7, 8, 9, 10, 11, 12, 14, 26, 42, 43, 44, 73, 74, 75, 76, 81]
def B113_4 : Code := bodyIn 4 (loopsIn B113)
def B113_2 : Code := bodyIn 2 (loopsIn B113)
def B113_0 : Code := bodyIn 0 (loopsIn B113)
theorem ok113 : FnOk Tryz.prog 113 Tryz.f113 84 B113 R113 := ⟨by kernel_rfl, by kernel_rfl, by kernel_rfl, by kernel_rfl, by decide +kernel⟩
def B114 : Code := (Tryz.f114.body.getD .skip)
def S114 : Sig := { ps := [.val], rs := [.val] }
def R114 : List ResultVar := [.cell 2 54]
def K114 : List Nat := [1, 2, 3, 4, 5, 6]
def N114_0 : Nrm := { slots := [.tmp 1, .tmp 2, .tmp 3, .tmp 5], items := [1, 2, 3] }
def B114_0 : Code := bodyIn 0 (loopsIn B114)
def N114 : Nrms := [(0, N114_0)]
theorem ok114 : FnOk Tryz.prog 114 Tryz.f114 21 B114 R114 := ⟨by kernel_rfl, by kernel_rfl, by kernel_rfl, by kernel_rfl, by decide +kernel⟩
def B115 : Code := (Tryz.f115.body.getD .skip)
def S115 : Sig := { ps := [.val, .val], rs := [.val] }
def R115 : List ResultVar := [.cell 4 167]
def K115 : List Nat := [2, 3, 4, 5, 6, 7, 8, 9]
def N115_0 : Nrm := { slots := [.tmp 2, .tmp 3, .tmp 4, .tmp 5, .tmp 6, .tmp 8], items := [2, 3, 4, 5] }
def B115_0 : Code := bodyIn 0 (loopsIn B115)
def N115 : Nrms := [(0, N115_0)]
theorem ok115 : FnOk Tryz.prog 115 Tryz.f115 27 B115 R115 := ⟨by kernel_rfl, by kernel_rfl, by kernel_rfl, by kernel_rfl, by decide +kernel⟩
def B116 : Code := (Tryz.f116.body.getD .skip)
def S116 : Sig := { ps := [.val], rs := [.val] }
def R116 : List ResultVar := [.cell 2 167]
def K116 : List Nat := [1, 2, 3, 6, 7]
def N116_0 : Nrm := { slots := [.tmp 2, .tmp 3, .tmp 6], items := [2, 3] }
def B116_0 : Code := bodyIn 0 (loopsIn B116)
def N116 : Nrms := [(0, N116_0)]
theorem ok116 : FnOk Tryz.prog 116 Tryz.f116 12 B116 R116 := ⟨by kernel_rfl, by kernel_rfl, by kernel_rfl, by kernel_rfl, by decide +kernel⟩
def B117 : Code := (Tryz.f117.body.getD .skip)
def R117 : List ResultVar := []
def K117 : List Nat := [0, 1, 2, 3, 8, 9, 10, 11, 12, 13, 14, 15, 16, 17, 18, 23, 29, 35, 50, 68, 72, 87, 113]
def B117_0 : Code := bodyIn 0 (loopsIn B117)
theorem ok117 : FnOk Tryz.prog 117 Tryz.f117 134 B117 R117 := ⟨by kernel_rfl, by kernel_rfl, by kernel_rfl, by kernel_rfl, by decide +kernel⟩
def B118 : Code := (Tryz.f118.body.getD .skip)
def S118 : Sig := { ps := [.val], rs := [.val] }
def R118 : List ResultVar := [.tmp 2]
def K118 : List Nat := [0, 2]
theorem ok118 : FnOk Tryz.prog 118 Tryz.f118 8 B118 R118 := ⟨by kernel_rfl, by kernel_rfl, by kernel_rfl, by kernel_rfl, by decide +kernel⟩
def B119 : Code := (Tryz.f119.body.getD .skip)
def S119 : Sig := { ps := [.val, .val], rs := [.val] }
def R119 : List ResultVar := [.cell 4 54]
def K119 : List Nat := [2, 3, 4, 5, 6, 7, 8, 9, 16]
def N119_0 : Nrm := { slots := [.tmp 4, .tmp 5, .tmp 6, .tmp 7, .tmp 8, .tmp 9], items := [4, 5, 6, 14] }
def B119_0 : Code := bodyIn 0 (loopsIn B119)
def N119 : Nrms := [(0, N119_0)]
theorem ok119 : FnOk Tryz.prog 119 Tryz.f119 44 B119 R119 := ⟨by kernel_rfl, by kernel_rfl, by kernel_rfl, by kernel_rfl, by decide +kernel⟩
def B120 : Code := (Tryz.f120.body.getD .skip)
def S120 : Sig := { ps := [.val], rs := [.val] }
def R120 : List ResultVar := [.cell 2 54]
def K120 : List Nat := [0, 2, 3, 4, 6]
def N120_0 : Nrm := { slots := [.tmp 0, .tmp 2, .tmp 3, .tmp 4], items := [2, 3] }
def B120_0 : Code := bodyIn 0 (loopsIn B120)
def N120 : Nrms := [(0, N120_0)]
theorem ok120 : FnOk Tryz.prog 120 Tryz.f120 18 B120 R120 := ⟨by kernel_rfl, by kernel_rfl, by kernel_rfl, by kernel_rfl, by decide +kernel⟩
def B121 : Code := (Tryz.f121.body.getD .skip)
def S121 : Sig := { ps := [.val, .val], rs := [.val] }
def R121 : List ResultVar := [.cell 4 54]
def K121 : List Nat := [2, 3, 4]
def N121 : Nrms := []
theorem ok121 : FnOk Tryz.prog 121 Tryz.f121 11 B121 R121 := ⟨by kernel_rfl, by kernel_rfl, by kernel_rfl, by kernel_rfl, by decide +kernel⟩
def B122 : Code := (Tryz.f122.body.getD .skip)
def S122 : Sig := { ps := [.val], rs := [.val] }
def R122 : List ResultVar := [.cell 2 54]
def K122 : List Nat := [1, 2, 3, 8]
def N122 : Nrms := []
theorem ok122 : FnOk Tryz.prog 122 Tryz.f122 14 B122 R122 := ⟨by kernel_rfl, by kernel_rfl, by kernel_rfl, by kernel_rfl, by decide +kernel⟩
def B124 : Code := (Tryz.f124.body.getD .skip)
def S124 : Sig := { ps := [.val], rs := [.val] }
def R124 : List ResultVar := [.cell 2 176]
def K124 : List Nat := [1, 2]
def N124 : Nrms := []
theorem ok124 : FnOk Tryz.prog 124 Tryz.f124 6 B124 R124 := ⟨by kernel_rfl, by kernel_rfl, by kernel_rfl, by kernel_rfl, by decide +kernel⟩
def B126 : Code := (Tryz.f126.body.getD .skip)
def S126 : Sig := { ps := [.val, .val], rs := [.val] }
def R126 : List ResultVar := [.cell 4 54]
def K126 : List Nat := [2, 3, 4]
def N126 : Nrms := []
theorem ok126 : FnOk Tryz.prog 126 Tryz.f126 9 B126 R126 := ⟨by kernel_rfl, by kernel_rfl, by kernel_rfl, by kernel_rfl, by decide +kernel⟩
def B127 : Code := (Tryz.f127.body.getD .skip)
def S127 : Sig := { ps := [.val], rs := [.val, .val] }
def R127 : List ResultVar := [.cell 2 54, .tmp 3]
def K127 : List Nat := [1, 2, 3, 5]
def N127 : Nrms := []
theorem ok127 : FnOk Tryz.prog 127 Tryz.f127 10 B127 R127 := ⟨by kernel_rfl, by kernel_rfl, by kernel_rfl, by kernel_rfl, by decide +kernel⟩
def B128 : Code := (Tryz.f128.body.getD .skip)
def S128 : Sig := { ps := [.val], rs := [.val] }
def R128 : List ResultVar := [.cell 2 54]
def K128 : List Nat := [0, 2]
def N128 : Nrms := []
theorem ok128 : FnOk Tryz.prog 128 Tryz.f128 6 B128 R128 := ⟨by kernel_rfl, by kernel_rfl, by kernel_rfl, by kernel_rfl, by decide +kernel⟩
def B129 : Code := (Tryz.f129.body.getD .skip)
def S129 : Sig := { ps := [.val, .val], rs := [.val] }
def R129 : List ResultVar := [.cell 4 167]
def K129 : List Nat := [2, 3, 4]
def N129 : Nrms := []
theorem ok129 : FnOk Tryz.prog 129 Tryz.f129 10 B129 R129 := ⟨by kernel_rfl, by kernel_rfl, by kernel_rfl, by kernel_rfl, by decide +kernel⟩
def B130 : Code := (Tryz.f130.body.getD .skip)
def S130 : Sig := { ps := [.view (.one .u8) 32], rs := [.fresh (.one .u8) 32, .val, .val] }
def R130 : List ResultVar := [.tmp 2, .tmp 3, .tmp 4]
def K130 : List Nat := [0, 2, 3, 4, 5, 6, 7, 8, 9, 10, 15, 16, 17, 18, 23, 39, 40, 41]
def N130_2 : Nrm := { slots := [.tmp 0, .tmp 5, .tmp 6, .tmp 39, .tmp 40], items := [0, 6, 13] }
def N130_0 : Nrm := { slots := [.tmp 0, .tmp 5, .tmp 6, .tmp 15, .tmp 16, .tmp 17], items := [0, 6, 13] }
def B130_2 : Code := bodyIn 2 (loopsIn B130)
def B130_0 : Code := bodyIn 0 (loopsIn B130)
def N130 : Nrms := [(2, N130_2), (0, N130_0)]
theorem ok130 : FnOk Tryz.prog 130 Tryz.f130 65 B130 R130 := ⟨by kernel_rfl, by kernel_rfl, by kernel_rfl, by kernel_rfl, by decide +kernel⟩
def B131 : Code := (Tryz.f131.body.getD .skip)
def S131 : Sig := { ps := [.val, .val], rs := [.val, .val] }
def R131 : List ResultVar := [.cell 4 167, .tmp 5]
def K131 : List Nat := [2, 3, 4, 5, 6, 7, 8, 9, 10]
def N131_0 : Nrm := { slots := [.tmp 2, .tmp 3, .tmp 4, .tmp 6, .tmp 7, .tmp 9], items := [2, 3, 4, 6] }
def B131_0 : Code := bodyIn 0 (loopsIn B131)
def N131 : Nrms := [(0, N131_0)]
theorem ok131 : FnOk Tryz.prog 131 Tryz.f131 28 B131 R131 := ⟨by kernel_rfl, by kernel_rfl, by kernel_rfl, by kernel_rfl, by decide +kernel⟩
def B132 : Code := (Tryz.f132.body.getD .skip)
def S132 : Sig := { ps := [], rs := [.val] }
def R132 : List ResultVar := [.cell 0 167]
def K132 : List Nat := [0]
def N132 : Nrms := []
theorem ok132 : FnOk Tryz.prog 132 Tryz.f132 2 B132 R132 := ⟨by kernel_rfl, by kernel_rfl, by kernel_rfl, by kernel_rfl, by decide +kernel⟩
def B133 : Code := (Tryz.f133.body.getD .skip)
def S133 : Sig := { ps := [.val, .val], rs := [.val] }
def R133 : List ResultVar := [.cell 4 167]
def K133 : List Nat := [2, 3, 4, 5, 6, 7, 15, 29]
def N133_0 : Nrm := { slots := [.tmp 3, .tmp 4, .tmp 5, .tmp 6, .tmp 7], items := [3, 4, 5, 6] }
def B133_0 : Code := bodyIn 0 (loopsIn B133)
def N133 : Nrms := [(0, N133_0)]
theorem ok133 : FnOk Tryz.prog 133 Tryz.f133 36 B133 R133 := ⟨by kernel_rfl, by kernel_rfl, by kernel_rfl, by kernel_rfl, by decide +kernel⟩
def B134 : Code := (Tryz.f134.body.getD .skip)
def S134 : Sig := { ps := [.val], rs := [.val] }
def R134 : List ResultVar := [.cell 2 167]
def K134 : List Nat := [1, 2, 3, 7]
def N134 : Nrms := []
theorem ok134 : FnOk Tryz.prog 134 Tryz.f134 16 B134 R134 := ⟨by kernel_rfl, by kernel_rfl, by kernel_rfl, by kernel_rfl, by decide +kernel⟩
def B153 : Code := (Tryz.f153.body.getD .skip)
def S153 : Sig := { ps := [.view (.one .u8) 32, .view (.one .u8) 32], rs := [.val, .val] }
def R153 : List ResultVar := [.cell 4 54, .tmp 5]
def K153 : List Nat := [0, 1, 4, 5, 6, 7, 12, 15, 16, 17]
def N153_0 : Nrm := { slots := [.tmp 0, .tmp 1, .tmp 4, .tmp 6, .tmp 15, .tmp 16], items := [0, 1, 4, 6] }
def B153_0 : Code := bodyIn 0 (loopsIn B153)
def N153 : Nrms := [(0, N153_0)]
theorem ok153 : FnOk Tryz.prog 153 Tryz.f153 35 B153 R153 := ⟨by kernel_rfl, by kernel_rfl, by kernel_rfl, by kernel_rfl, by decide +kernel⟩
def B154 : Code := (Tryz.f154.body.getD .skip)
def S154 : Sig := { ps := [.val], rs := [.val] }
def R154 : List ResultVar := [.tmp 2]
def K154 : List Nat := [1, 2]
def N154 : Nrms := []
theorem ok154 : FnOk Tryz.prog 154 Tryz.f154 7 B154 R154 := ⟨by kernel_rfl, by kernel_rfl, by kernel_rfl, by kernel_rfl, by decide +kernel⟩
def B155 : Code := (Tryz.f155.body.getD .skip)
def R155 : List ResultVar := []
def K155 : List Nat := [0, 1, 2, 6, 8, 9, 10, 11, 27, 28, 29, 48, 49, 50, 54, 67, 68, 69]
def B155_4 : Code := bodyIn 4 (loopsIn B155)
def B155_2 : Code := bodyIn 2 (loopsIn B155)
def B155_0 : Code := bodyIn 0 (loopsIn B155)
theorem ok155 : FnOk Tryz.prog 155 Tryz.f155 95 B155 R155 := ⟨by kernel_rfl, by kernel_rfl, by kernel_rfl, by kernel_rfl, by decide +kernel⟩
def B156 : Code := (Tryz.f156.body.getD .skip)
def S156 : Sig := { ps := [.view (.one .u8) 32], rs := [.fresh (.one .u8) 32] }
def R156 : List ResultVar := [.tmp 2]
def K156 : List Nat := [0, 2, 4]
theorem ok156 : FnOk Tryz.prog 156 Tryz.f156 8 B156 R156 := ⟨by kernel_rfl, by kernel_rfl, by kernel_rfl, by kernel_rfl, by decide +kernel⟩
def B158 : Code := (Tryz.f158.body.getD .skip)
def S158 : Sig := { ps := [.val], rs := [.val] }
def R158 : List ResultVar := [.cell 2 167]
def K158 : List Nat := [1, 2, 3, 4, 12]
def N158 : Nrms := []
theorem ok158 : FnOk Tryz.prog 158 Tryz.f158 15 B158 R158 := ⟨by kernel_rfl, by kernel_rfl, by kernel_rfl, by kernel_rfl, by decide +kernel⟩
def B159 : Code := (Tryz.f159.body.getD .skip)
def S159 : Sig := { ps := [.val], rs := [.val] }
def R159 : List ResultVar := [.cell 2 167]
def K159 : List Nat := [1, 2, 3, 4, 5, 6]
def N159_0 : Nrm := { slots := [.tmp 1, .tmp 2, .tmp 3, .tmp 5], items := [1, 2, 3] }
def B159_0 : Code := bodyIn 0 (loopsIn B159)
def N159 : Nrms := [(0, N159_0)]
theorem ok159 : FnOk Tryz.prog 159 Tryz.f159 24 B159 R159 := ⟨by kernel_rfl, by kernel_rfl, by kernel_rfl, by kernel_rfl, by decide +kernel⟩
def B160 : Code := (Tryz.f160.body.getD .skip)
def R160 : List ResultVar := []
def K160 : List Nat := [0, 1, 2, 6, 7, 12, 30]
def B160_2 : Code := bodyIn 2 (loopsIn B160)
def B160_0 : Code := bodyIn 0 (loopsIn B160)
theorem ok160 : FnOk Tryz.prog 160 Tryz.f160 49 B160 R160 := ⟨by kernel_rfl, by kernel_rfl, by kernel_rfl, by kernel_rfl, by decide +kernel⟩
def B166 : Code := (Tryz.f166.body.getD .skip)
def S166 : Sig := { ps := [.val, .val], rs := [.val] }
def R166 : List ResultVar := [.tmp 4]
def K166 : List Nat := [0, 1, 4]
theorem ok166 : FnOk Tryz.prog 166 Tryz.f166 17 B166 R166 := ⟨by kernel_rfl, by kernel_rfl, by kernel_rfl, by kernel_rfl, by decide +kernel⟩
def B170 : Code := (Tryz.f170.body.getD .skip)
def S170 : Sig := { ps := [.val], rs := [.val] }
def R170 : List ResultVar := [.tmp 2]
def K170 : List Nat := [0, 2, 4, 8, 14]
theorem ok170 : FnOk Tryz.prog 170 Tryz.f170 25 B170 R170 := ⟨by kernel_rfl, by kernel_rfl, by kernel_rfl, by kernel_rfl, by decide +kernel⟩
def B171 : Code := (Tryz.f171.body.getD .skip)
def S171 : Sig := { ps := [.val], rs := [.val] }
def R171 : List ResultVar := [.cell 2 54]
def K171 : List Nat := [1, 2, 3, 4, 6]
def N171_0 : Nrm := { slots := [.tmp 1, .tmp 2, .tmp 3, .tmp 4], items := [1, 2, 3] }
def B171_0 : Code := bodyIn 0 (loopsIn B171)
def N171 : Nrms := [(0, N171_0)]
theorem ok171 : FnOk Tryz.prog 171 Tryz.f171 22 B171 R171 := ⟨by kernel_rfl, by kernel_rfl, by kernel_rfl, by kernel_rfl, by decide +kernel⟩
def B172 : Code := (Tryz.f172.body.getD .skip)
def S172 : Sig := { ps := [.view (.one .u32) 1], rs := [.val] }
def R172 : List ResultVar := [.cell 2 176]
def K172 : List Nat := [0, 2, 3, 4, 5, 6, 12, 16, 32]
def N172_2 : Nrm := { slots := [.tmp 0, .tmp 2, .tmp 3, .tmp 4, .tmp 5, .tmp 6], items := [0, 2, 3, 4] }
def N172_0 : Nrm := { slots := [.tmp 0, .tmp 2, .tmp 3, .tmp 4, .tmp 5], items := [0, 2, 3, 4] }
def B172_2 : Code := bodyIn 2 (loopsIn B172)
def B172_0 : Code := bodyIn 0 (loopsIn B172)
def N172 : Nrms := [(2, N172_2), (0, N172_0)]
theorem ok172 : FnOk Tryz.prog 172 Tryz.f172 37 B172 R172 := ⟨by kernel_rfl, by kernel_rfl, by kernel_rfl, by kernel_rfl, by decide +kernel⟩
def B173 : Code := (Tryz.f173.body.getD .skip)
def S173 : Sig := { ps := [.val, .val], rs := [.val] }
def R173 : List ResultVar := [.cell 4 176]
def K173 : List Nat := [2, 3, 4, 5, 6, 7, 8, 11, 15]
def N173_2 : Nrm := { slots := [.tmp 2, .tmp 3, .tmp 4, .tmp 5, .tmp 6, .tmp 7, .tmp 8], items := [2, 3, 4, 9] }
def N173_0 : Nrm := { slots := [.tmp 2, .tmp 3, .tmp 4, .tmp 5, .tmp 6], items := [2, 3, 4, 9] }
def B173_2 : Code := bodyIn 2 (loopsIn B173)
def B173_0 : Code := bodyIn 0 (loopsIn B173)
def N173 : Nrms := [(2, N173_2), (0, N173_0)]
theorem ok173 : FnOk Tryz.prog 173 Tryz.f173 54 B173 R173 := ⟨by kernel_rfl, by kernel_rfl, by kernel_rfl, by kernel_rfl, by decide +kernel⟩
def B174 : Code := (Tryz.f174.body.getD .skip)
def S174 : Sig := { ps := [.val, .val], rs := [.val] }
def R174 : List ResultVar := [.cell 4 176]
def K174 : List Nat := [2, 3, 4, 5, 6, 7, 9]
def N174_0 : Nrm := { slots := [.tmp 2, .tmp 3, .tmp 4, .tmp 5, .tmp 6], items := [2, 3, 4] }
def B174_0 : Code := bodyIn 0 (loopsIn B174)
def N174 : Nrms := [(0, N174_0)]
theorem ok174 : FnOk Tryz.prog 174 Tryz.f174 30 B174 R174 := ⟨by kernel_rfl, by kernel_rfl, by kernel_rfl, by kernel_rfl, by decide +kernel⟩
def B175 : Code := (Tryz.f175.body.getD .skip)
def S175 : Sig := { ps := [], rs := [.val] }
def R175 : List ResultVar := [.cell 0 176]
def K175 : List Nat := [0]
def N175 : Nrms := []
theorem ok175 : FnOk Tryz.prog 175 Tryz.f175 2 B175 R175 := ⟨by kernel_rfl, by kernel_rfl, by kernel_rfl, by kernel_rfl, by decide +kernel⟩
def B176 : Code := (Tryz.f176.body.getD .skip)
def S176 : Sig := { ps := [.view (.one .u8) 1], rs := [.fresh (.one .u32) 1] }
def R176 : List ResultVar := [.tmp 2]
def K176 : List Nat := [0, 2, 3, 4, 13]
def N176_0 : Nrm := { slots := [.tmp 0, .tmp 3, .tmp 4], items := [0, 9] }
def B176_0 : Code := bodyIn 0 (loopsIn B176)
def N176 : Nrms := [(0, N176_0)]
theorem ok176 : FnOk Tryz.prog 176 Tryz.f176 37 B176 R176 := ⟨by kernel_rfl, by kernel_rfl, by kernel_rfl, by kernel_rfl, by decide +kernel⟩
def B177 : Code := (Tryz.f177.body.getD .skip)
def S177 : Sig := { ps := [.val, .view (.one .u8) 1], rs := [.val] }
def R177 : List ResultVar := [.cell 4 54]
def K177 : List Nat := [1, 2, 4, 5, 6, 7, 8, 16, 20, 34]
def N177_2 : Nrm := { slots := [.tmp 1, .tmp 4, .tmp 5, .tmp 6, .tmp 7, .tmp 8], items := [1, 4, 5, 6] }
def N177_0 : Nrm := { slots := [.tmp 1, .tmp 4, .tmp 5, .tmp 6, .tmp 7], items := [1, 4, 5, 6] }
def B177_2 : Code := bodyIn 2 (loopsIn B177)
def B177_0 : Code := bodyIn 0 (loopsIn B177)
def N177 : Nrms := [(2, N177_2), (0, N177_0)]
theorem ok177 : FnOk Tryz.prog 177 Tryz.f177 40 B177 R177 := ⟨by kernel_rfl, by kernel_rfl, by kernel_rfl, by kernel_rfl, by decide +kernel⟩
def B178 : Code := (Tryz.f178.body.getD .skip)
def S178 : Sig := { ps := [.val], rs := [.fresh (.one .u8) 1] }
def R178 : List ResultVar := [.tmp 2]
def K178 : List Nat := [0, 2, 3]
def N178 : Nrms := []
theorem ok178 : FnOk Tryz.prog 178 Tryz.f178 10 B178 R178 := ⟨by kernel_rfl, by kernel_rfl, by kernel_rfl, by kernel_rfl, by decide +kernel⟩
def B179 : Code := (Tryz.f179.body.getD .skip)
def S179 : Sig := { ps := [.val, .val], rs := [.val] }
def R179 : List ResultVar := [.cell 4 167]
def K179 : List Nat := [2, 3, 4, 5, 6, 7, 8, 9, 10, 11, 12, 14, 15, 17, 18, 59]
def N179_4 : Nrm := { slots := [.tmp 2, .tmp 3, .tmp 4, .tmp 5, .tmp 6, .tmp 8, .tmp 10, .tmp 11, .tmp 14], items := [2, 3, 4, 5, 6] }
def N179_2 : Nrm := { slots := [.tmp 2, .tmp 3, .tmp 4, .tmp 5, .tmp 6, .tmp 7, .tmp 8, .tmp 14, .tmp 17], items := [2, 3, 4, 5, 6] }
def N179_0 : Nrm := { slots := [.tmp 2, .tmp 3, .tmp 4, .tmp 5, .tmp 6, .tmp 14], items := [2, 3, 4, 5, 6] }
def B179_4 : Code := bodyIn 4 (loopsIn B179)
def B179_2 : Code := bodyIn 2 (loopsIn B179)
def B179_0 : Code := bodyIn 0 (loopsIn B179)
def N179 : Nrms := [(4, N179_4), (2, N179_2), (0, N179_0)]
theorem ok179 : FnOk Tryz.prog 179 Tryz.f179 101 B179 R179 := ⟨by kernel_rfl, by kernel_rfl, by kernel_rfl, by kernel_rfl, by decide +kernel⟩
def B180 : Code := (Tryz.f180.body.getD .skip)
def S180 : Sig := { ps := [], rs := [.val] }
def R180 : List ResultVar := [.cell 0 167]
def K180 : List Nat := [0]
def N180 : Nrms := []
theorem ok180 : FnOk Tryz.prog 180 Tryz.f180 2 B180 R180 := ⟨by kernel_rfl, by kernel_rfl, by kernel_rfl, by kernel_rfl, by decide +kernel⟩
def B187 : Code := (Tryz.f187.body.getD .skip)
def S187 : Sig := { ps := [.val], rs := [.val] }
def R187 : List ResultVar := [.tmp 2]
def K187 : List Nat := [0, 2]
theorem ok187 : FnOk Tryz.prog 187 Tryz.f187 6 B187 R187 := ⟨by kernel_rfl, by kernel_rfl, by kernel_rfl, by kernel_rfl, by decide +kernel⟩
def B188 : Code := (Tryz.f188.body.getD .skip)
def S188 : Sig := { ps := [.val, .val], rs := [.val] }
def R188 : List ResultVar := [.cell 4 176]
def K188 : List Nat := [1, 2, 4, 5, 6, 8]
def N188_0 : Nrm := { slots := [.tmp 1, .tmp 2, .tmp 4, .tmp 5], items := [2, 4] }
def B188_0 : Code := bodyIn 0 (loopsIn B188)
def N188 : Nrms := [(0, N188_0)]
theorem ok188 : FnOk Tryz.prog 188 Tryz.f188 25 B188 R188 := ⟨by kernel_rfl, by kernel_rfl, by kernel_rfl, by kernel_rfl, by decide +kernel⟩
def B189 : Code := (Tryz.f189.body.getD .skip)
def S189 : Sig := { ps := [.val, .val], rs := [.val] }
def R189 : List ResultVar := [.tmp 4]
def K189 : List Nat := [2, 3, 4, 5, 7, 16]
def N189_0 : Nrm := { slots := [.tmp 2, .tmp 3, .tmp 5], items := [2, 3] }
def B189_0 : Code := bodyIn 0 (loopsIn B189)
def N189 : Nrms := [(0, N189_0)]
theorem ok189 : FnOk Tryz.prog 189 Tryz.f189 24 B189 R189 := ⟨by kernel_rfl, by kernel_rfl, by kernel_rfl, by kernel_rfl, by decide +kernel⟩
def B190 : Code := (Tryz.f190.body.getD .skip)
def S190 : Sig := { ps := [.val, .val, .val, .val], rs := [.val, .val] }
def R190 : List ResultVar := [.tmp 8, .tmp 9]
def K190 : List Nat := [0, 1, 2, 3, 8, 9, 10, 11, 12]
def N190 : Nrms := []
theorem ok190 : FnOk Tryz.prog 190 Tryz.f190 38 B190 R190 := ⟨by kernel_rfl, by kernel_rfl, by kernel_rfl, by kernel_rfl, by decide +kernel⟩
def B192 : Code := (Tryz.f192.body.getD .skip)
def S192 : Sig := { ps := [.val, .val], rs := [.val, .val] }
def R192 : List ResultVar := [.tmp 4, .tmp 5]
def K192 : List Nat := [0, 1, 4, 5, 6, 7, 8, 9, 10, 11, 12, 13]
def N192 : Nrms := []
theorem ok192 : FnOk Tryz.prog 192 Tryz.f192 51 B192 R192 := ⟨by kernel_rfl, by kernel_rfl, by kernel_rfl, by kernel_rfl, by decide +kernel⟩
def f73_2_sh : Shp := ⟨40, 1, [(0, .one (.fix (.own 0))), (3, .one (.int .i64)), (4, .one (.int .i64))], [(0, .view (.one .i64) 1)]⟩
def f73_2_ex1 : Shp := ⟨40, 1, [(2, .one (.int .i64)), (39, .one .bool), (28, .one .bool), (0, .one (.fix (.own 0))), (3, .one (.int .i64)), (4, .one (.int .i64))], [(0, .view (.one .i64) 1)]⟩
def f73_2_ex2 : Shp := ⟨40, 1, [(28, .one .bool), (0, .one (.fix (.own 0))), (3, .one (.int .i64)), (4, .one (.int .i64))], [(0, .view (.one .i64) 1)]⟩
def f73_2_st {R : Type} (N : Nat) (self : Int → Int → List Int → Option R) (k1 : Int → Bool → Bool → Int → Int → List Int → Option R) (k2 : Bool → Int → Int → List Int → Option R) (x1 x2 : Int) (x3 : List Int) : Option R :=
 bif decide (x2 < x1) then
 bif decide (0 ≤ x2) && decide (x2 < nI (rowLen 1 x3)) then
 bif decide (0 ≤ x1) && decide (x1 < nI (rowLen 1 x3)) then
 bif x3.getD (mulE x2.toNat 1) 0 == x3.getD (mulE x1.toNat 1) 0 then k1 5 (x3.getD (mulE x2.toNat 1) 0 == x3.getD (mulE x1.toNat 1) 0) (decide (x2 < x1)) x1 x2 x3
 else
 let v0 := IntKind.i64.wrap (x2 + 1);
 self x1 v0 x3
 else none
 else none
else k2 (decide (x2 < x1)) x1 x2 x3
def f73_2_lp {R : Type} (N : Nat) (k1 : Int → Bool → Bool → Int → Int → List Int → Option R) (k2 : Bool → Int → Int → List Int → Option R) : Nat → Int → Int → List Int → Option R
 | 0, _, _, _ => none
 | n + 1, x1, x2, x3 => f73_2_st N (f73_2_lp N k1 k2 n) k1 k2 x1 x2 x3
def f73_2_F (N : Nat) : (R : Type) → List Leaf → (X → AS → Option R) → Option R := fun _ ls K => match ls with
 | [.i x1, .i x2, .l x3] => f73_2_lp N (fun y1 y2 y3 y4 y5 y6 => K (.ret) (fill f73_2_ex1 [.i y1, .b y2, .b y3, .i y4, .i y5, .l y6])) (fun y1 y2 y3 y4 => K .normal (fill f73_2_ex2 [.b y1, .i y2, .i y3, .l y4])) N x1 x2 x3
 | _ => none
def f73_0_sh : Shp := ⟨40, 1, [(0, .one (.fix (.own 0))), (3, .one (.int .i64))], [(0, .view (.one .i64) 1)]⟩
def f73_0_ex1 : Shp := ⟨40, 1, [(2, .one (.int .i64)), (25, .one .bool), (11, .one .bool), (0, .one (.fix (.own 0))), (3, .one (.int .i64))], [(0, .view (.one .i64) 1)]⟩
def f73_0_ex2 : Shp := ⟨40, 1, [(2, .one (.int .i64)), (39, .one .bool), (28, .one .bool), (0, .one (.fix (.own 0))), (3, .one (.int .i64)), (4, .one (.int .i64))], [(0, .view (.one .i64) 1)]⟩
def f73_0_ex3 : Shp := ⟨40, 1, [(11, .one .bool), (0, .one (.fix (.own 0))), (3, .one (.int .i64))], [(0, .view (.one .i64) 1)]⟩
def f73_0_st {R : Type} (N : Nat) (self : Int → List Int → Option R) (k1 : Int → Bool → Bool → Int → List Int → Option R) (k2 : Int → Bool → Bool → Int → Int → List Int → Option R) (k3 : Bool → Int → List Int → Option R) (x1 : Int) (x2 : List Int) : Option R :=
 bif decide (x1 < nI (rowLen 1 x2)) then
 bif decide (0 ≤ x1) && decide (x1 < nI (rowLen 1 x2)) then
 bif decide (x2.getD (mulE x1.toNat 1) 0 < 1) then k1 4 true (decide (x1 < nI (rowLen 1 x2))) x1 x2
 else
 bif decide (0 ≤ x1) && decide (x1 < nI (rowLen 1 x2)) then
 let v0 : Bool := bif false then true else decide (x2.getD (mulE x1.toNat 1) 0 > 255);
 bif v0 then k1 4 v0 (decide (x1 < nI (rowLen 1 x2))) x1 x2
 else
 f73_2_lp N (fun w1_1 w1_2 w1_3 w1_4 w1_5 w1_6 => k2 w1_1 w1_2 w1_3 w1_4 w1_5 w1_6)
 (fun w2_1 w2_2 w2_3 w2_4 =>
 let v3 := IntKind.i64.wrap (w2_2 + 1);
 self v3 w2_4)
 N x1 0 x2
 else none
 else none
else k3 (decide (x1 < nI (rowLen 1 x2))) x1 x2
def f73_0_lp {R : Type} (N : Nat) (k1 : Int → Bool → Bool → Int → List Int → Option R) (k2 : Int → Bool → Bool → Int → Int → List Int → Option R) (k3 : Bool → Int → List Int → Option R) : Nat → Int → List Int → Option R
 | 0, _, _ => none
 | n + 1, x1, x2 => f73_0_st N (f73_0_lp N k1 k2 k3 n) k1 k2 k3 x1 x2
def f73_0_F (N : Nat) : (R : Type) → List Leaf → (X → AS → Option R) → Option R := fun _ ls K => match ls with
 | [.i x1, .l x2] => f73_0_lp N (fun y1 y2 y3 y4 y5 => K (.ret) (fill f73_0_ex1 [.i y1, .b y2, .b y3, .i y4, .l y5])) (fun y1 y2 y3 y4 y5 y6 => K (.ret) (fill f73_0_ex2 [.i y1, .b y2, .b y3, .i y4, .i y5, .l y6])) (fun y1 y2 y3 => K .normal (fill f73_0_ex3 [.b y1, .i y2, .l y3])) N x1 x2
 | _ => none
def f73_raw {R : Type} (N : Nat) (xs : List Int) (k : List DV → Option R) : Option R :=
 bif nI (rowLen 1 xs) == 0 then k [.v (.one (.int .i64 8))] else f73_0_lp N (fun w0_1 w0_2 w0_3 w0_4 w0_5 => k [.v (.one (.int .i64 w0_1))]) (fun w1_1 w1_2 w1_3 w1_4 w1_5 w1_6 => k [.v (.one (.int .i64 w1_1))]) (fun w2_1 w2_2 w2_3 => k [.v (.one (.int .i64 0))]) N 0 xs
def E73 (N : Nat) : Env := { Θ := Th, Γ := [], K := K73, ν := N73, fuel := 0, lp := [(0, mkL N73_0 f73_0_sh (f73_0_F N)), (2, mkL N73_2 f73_2_sh (f73_2_F N))] }
theorem f73_2_st_eq {R : Type} (N : Nat) (K : X → AS → Option R) (n : Nat) (x1 x2 : Int) (x3 : List Int) : roundsOf (E73 N) N73_2 2 B73_2 K (n + 1) (fill f73_2_sh [.i x1, .i x2, .l x3]) = f73_2_st N (fun x1 x2 x3 => roundsOf (E73 N) N73_2 2 B73_2 K n (fill f73_2_sh [.i x1, .i x2, .l x3])) (fun y1 y2 y3 y4 y5 y6 => K (.ret) (fill f73_2_ex1 [.i y1, .b y2, .b y3, .i y4, .i y5, .l y6])) (fun y1 y2 y3 y4 => K .normal (fill f73_2_ex2 [.b y1, .i y2, .i y3, .l y4])) x1 x2 x3 := by kernel_rfl
theorem f73_2_lp_eq {R : Type} (N : Nat) (K : X → AS → Option R) : ∀ (n : Nat) (x1 x2 : Int) (x3 : List Int), roundsOf (E73 N) N73_2 2 B73_2 K n (fill f73_2_sh [.i x1, .i x2, .l x3]) = f73_2_lp N (fun y1 y2 y3 y4 y5 y6 => K (.ret) (fill f73_2_ex1 [.i y1, .b y2, .b y3, .i y4, .i y5, .l y6])) (fun y1 y2 y3 y4 => K .normal (fill f73_2_ex2 [.b y1, .i y2, .i y3, .l y4])) n x1 x2 x3
 | 0, _, _, _ => rfl
 | n + 1, x1, x2, x3 => by
  rw [f73_2_st_eq, f73_2_lp, show (fun x1 x2 x3 => roundsOf (E73 N) N73_2 2 B73_2 K n (fill f73_2_sh [.i x1, .i x2, .l x3])) = f73_2_lp N (fun y1 y2 y3 y4 y5 y6 => K (.ret) (fill f73_2_ex1 [.i y1, .b y2, .b y3, .i y4, .i y5, .l y6])) (fun y1 y2 y3 y4 => K .normal (fill f73_2_ex2 [.b y1, .i y2, .i y3, .l y4])) n from by funext x1 x2 x3; exact f73_2_lp_eq N K n x1 x2 x3]
theorem f73_2_ok (N : Nat) (hlp : LoopsOk Tryz.prog (E73 N).lp B73_2) (hΓ : CtxOk Tryz.prog (E73 N).Γ) : LoopOk Tryz.prog (mkL N73_2 f73_2_sh (f73_2_F N)) 2 B73_2 := by
 refine loopOk_of (E := E73 N) thOk hΓ mixed hlp ?_
 intro R ls K r h
 unfold f73_2_F at h
 split at h
 ·
  exact ⟨N, by rw [f73_2_lp_eq]; exact h⟩
 ·
  cases h
theorem f73_0_st_eq {R : Type} (N : Nat) (K : X → AS → Option R) (n : Nat) (x1 : Int) (x2 : List Int) : roundsOf (E73 N) N73_0 0 B73_0 K (n + 1) (fill f73_0_sh [.i x1, .l x2]) = f73_0_st N (fun x1 x2 => roundsOf (E73 N) N73_0 0 B73_0 K n (fill f73_0_sh [.i x1, .l x2])) (fun y1 y2 y3 y4 y5 => K (.ret) (fill f73_0_ex1 [.i y1, .b y2, .b y3, .i y4, .l y5])) (fun y1 y2 y3 y4 y5 y6 => K (.ret) (fill f73_0_ex2 [.i y1, .b y2, .b y3, .i y4, .i y5, .l y6])) (fun y1 y2 y3 => K .normal (fill f73_0_ex3 [.b y1, .i y2, .l y3])) x1 x2 := by kernel_rfl
theorem f73_0_lp_eq {R : Type} (N : Nat) (K : X → AS → Option R) : ∀ (n : Nat) (x1 : Int) (x2 : List Int), roundsOf (E73 N) N73_0 0 B73_0 K n (fill f73_0_sh [.i x1, .l x2]) = f73_0_lp N (fun y1 y2 y3 y4 y5 => K (.ret) (fill f73_0_ex1 [.i y1, .b y2, .b y3, .i y4, .l y5])) (fun y1 y2 y3 y4 y5 y6 => K (.ret) (fill f73_0_ex2 [.i y1, .b y2, .b y3, .i y4, .i y5, .l y6])) (fun y1 y2 y3 => K .normal (fill f73_0_ex3 [.b y1, .i y2, .l y3])) n x1 x2
 | 0, _, _ => rfl
 | n + 1, x1, x2 => by
  rw [f73_0_st_eq, f73_0_lp, show (fun x1 x2 => roundsOf (E73 N) N73_0 0 B73_0 K n (fill f73_0_sh [.i x1, .l x2])) = f73_0_lp N (fun y1 y2 y3 y4 y5 => K (.ret) (fill f73_0_ex1 [.i y1, .b y2, .b y3, .i y4, .l y5])) (fun y1 y2 y3 y4 y5 y6 => K (.ret) (fill f73_0_ex2 [.i y1, .b y2, .b y3, .i y4, .i y5, .l y6])) (fun y1 y2 y3 => K .normal (fill f73_0_ex3 [.b y1, .i y2, .l y3])) n from by funext x1 x2; exact f73_0_lp_eq N K n x1 x2]
theorem f73_0_ok (N : Nat) (hlp : LoopsOk Tryz.prog (E73 N).lp B73_0) (hΓ : CtxOk Tryz.prog (E73 N).Γ) : LoopOk Tryz.prog (mkL N73_0 f73_0_sh (f73_0_F N)) 0 B73_0 := by
 refine loopOk_of (E := E73 N) thOk hΓ mixed hlp ?_
 intro R ls K r h
 unfold f73_0_F at h
 split at h
 ·
  exact ⟨N, by rw [f73_0_lp_eq]; exact h⟩
 ·
  cases h
theorem lok73_2 (N : Nat) (hΓ : CtxOk Tryz.prog []) : LoopOk Tryz.prog (mkL N73_2 f73_2_sh (f73_2_F N)) 2 B73_2 := f73_2_ok N (loopsOk_of (l := []) (by kernel_rfl) trivial) hΓ
theorem lok73_0 (N : Nat) (hΓ : CtxOk Tryz.prog []) : LoopOk Tryz.prog (mkL N73_0 f73_0_sh (f73_0_F N)) 0 B73_0 := f73_0_ok N (loopsOk_of (l := [(2, B73_2)]) (by kernel_rfl) (allOk_cons (L := mkL N73_2 f73_2_sh (f73_2_F N)) rfl (lok73_2 N hΓ) trivial)) hΓ
theorem f73_contract (N : Nat) (hΓ : CtxOk Tryz.prog []) : Contract Tryz.prog 73 { sig := S73, impl := fun _ ds k => call (E73 N) S73 40 B73 R73 ds k } :=
 call_contract (E := E73 N) thOk hΓ mixed ok73.look ok73.body ok73.n ok73.rv ok73.name rfl (by decide) (loopsOk_of (l := [(0, B73_0), (2, B73_2)]) (by kernel_rfl) (allOk_cons (L := mkL N73_0 f73_0_sh (f73_0_F N)) rfl (lok73_0 N hΓ) (allOk_cons (L := mkL N73_2 f73_2_sh (f73_2_F N)) rfl (lok73_2 N hΓ) trivial)))
theorem f73_raw_eq {R : Type} (N : Nat) (xs : List Int) (k : List DV → Option R) : call (E73 N) S73 40 B73 R73 [.lst (.one .i64) 1 xs] k = f73_raw N xs k := by kernel_rfl
def f11_0_sh : Shp := ⟨26, 2, [(0, .one (.fix (.own 0))), (1, .one (.fix (.own 1))), (5, .one (.int .i64))], [(0, .view (.one .u8) 32), (1, .view (.one .u8) 32)]⟩
def f11_0_ex1 : Shp := ⟨26, 2, [(4, .one .bool), (25, .one .bool), (14, .one .bool), (0, .one (.fix (.own 0))), (1, .one (.fix (.own 1))), (5, .one (.int .i64))], [(0, .view (.one .u8) 32), (1, .view (.one .u8) 32)]⟩
def f11_0_ex2 : Shp := ⟨26, 2, [(14, .one .bool), (0, .one (.fix (.own 0))), (1, .one (.fix (.own 1))), (5, .one (.int .i64))], [(0, .view (.one .u8) 32), (1, .view (.one .u8) 32)]⟩
def f11_0_st {R : Type} (N : Nat) (self : Int → List Int → List Int → Option R) (k1 : Bool → Bool → Bool → Int → List Int → List Int → Option R) (k2 : Bool → Int → List Int → List Int → Option R) (x1 : Int) (x2 x3 : List Int) : Option R :=
 bif decide (x1 < nI (rowLen 32 x2)) then
 bif decide (0 ≤ x1) && decide (x1 < nI (rowLen 32 x2)) then
 bif decide (0 ≤ x1) && decide (x1 < nI (rowLen 32 x3)) then
 bif !decide (List.take 32 (List.drop (mulE x1.toNat 32) x2) = List.take 32 (List.drop (mulE x1.toNat 32) x3)) then k1 false (!decide (List.take 32 (List.drop (mulE x1.toNat 32) x2) = List.take 32 (List.drop (mulE x1.toNat 32) x3))) (decide (x1 < nI (rowLen 32 x2))) x1 x2 x3
 else
 let v0 := IntKind.i64.wrap (x1 + 1);
 self v0 x2 x3
 else none
 else none
else k2 (decide (x1 < nI (rowLen 32 x2))) x1 x2 x3
def f11_0_lp {R : Type} (N : Nat) (k1 : Bool → Bool → Bool → Int → List Int → List Int → Option R) (k2 : Bool → Int → List Int → List Int → Option R) : Nat → Int → List Int → List Int → Option R
 | 0, _, _, _ => none
 | n + 1, x1, x2, x3 => f11_0_st N (f11_0_lp N k1 k2 n) k1 k2 x1 x2 x3
def f11_0_F (N : Nat) : (R : Type) → List Leaf → (X → AS → Option R) → Option R := fun _ ls K => match ls with
 | [.i x1, .l x2, .l x3] => f11_0_lp N (fun y1 y2 y3 y4 y5 y6 => K (.ret) (fill f11_0_ex1 [.b y1, .b y2, .b y3, .i y4, .l y5, .l y6])) (fun y1 y2 y3 y4 => K .normal (fill f11_0_ex2 [.b y1, .i y2, .l y3, .l y4])) N x1 x2 x3
 | _ => none
def f11_raw {R : Type} (N : Nat) (xs ys : List Int) (k : List DV → Option R) : Option R :=
 bif nI (rowLen 32 xs) != nI (rowLen 32 ys) then k [.v (.one (.bool false))] else f11_0_lp N (fun w0_1 w0_2 w0_3 w0_4 w0_5 w0_6 => k [.v (.one (.bool w0_1))]) (fun w1_1 w1_2 w1_3 w1_4 => k [.v (.one (.bool true))]) N 0 xs ys
def E11 (N : Nat) : Env := { Θ := Th, Γ := [], K := K11, ν := N11, fuel := 0, lp := [(0, mkL N11_0 f11_0_sh (f11_0_F N))] }
theorem f11_0_st_eq {R : Type} (N : Nat) (K : X → AS → Option R) (n : Nat) (x1 : Int) (x2 x3 : List Int) : roundsOf (E11 N) N11_0 0 B11_0 K (n + 1) (fill f11_0_sh [.i x1, .l x2, .l x3]) = f11_0_st N (fun x1 x2 x3 => roundsOf (E11 N) N11_0 0 B11_0 K n (fill f11_0_sh [.i x1, .l x2, .l x3])) (fun y1 y2 y3 y4 y5 y6 => K (.ret) (fill f11_0_ex1 [.b y1, .b y2, .b y3, .i y4, .l y5, .l y6])) (fun y1 y2 y3 y4 => K .normal (fill f11_0_ex2 [.b y1, .i y2, .l y3, .l y4])) x1 x2 x3 := by kernel_rfl
theorem f11_0_lp_eq {R : Type} (N : Nat) (K : X → AS → Option R) : ∀ (n : Nat) (x1 : Int) (x2 x3 : List Int), roundsOf (E11 N) N11_0 0 B11_0 K n (fill f11_0_sh [.i x1, .l x2, .l x3]) = f11_0_lp N (fun y1 y2 y3 y4 y5 y6 => K (.ret) (fill f11_0_ex1 [.b y1, .b y2, .b y3, .i y4, .l y5, .l y6])) (fun y1 y2 y3 y4 => K .normal (fill f11_0_ex2 [.b y1, .i y2, .l y3, .l y4])) n x1 x2 x3
 | 0, _, _, _ => rfl
 | n + 1, x1, x2, x3 => by
  rw [f11_0_st_eq, f11_0_lp, show (fun x1 x2 x3 => roundsOf (E11 N) N11_0 0 B11_0 K n (fill f11_0_sh [.i x1, .l x2, .l x3])) = f11_0_lp N (fun y1 y2 y3 y4 y5 y6 => K (.ret) (fill f11_0_ex1 [.b y1, .b y2, .b y3, .i y4, .l y5, .l y6])) (fun y1 y2 y3 y4 => K .normal (fill f11_0_ex2 [.b y1, .i y2, .l y3, .l y4])) n from by funext x1 x2 x3; exact f11_0_lp_eq N K n x1 x2 x3]
theorem f11_0_ok (N : Nat) (hlp : LoopsOk Tryz.prog (E11 N).lp B11_0) (hΓ : CtxOk Tryz.prog (E11 N).Γ) : LoopOk Tryz.prog (mkL N11_0 f11_0_sh (f11_0_F N)) 0 B11_0 := by
 refine loopOk_of (E := E11 N) thOk hΓ mixed hlp ?_
 intro R ls K r h
 unfold f11_0_F at h
 split at h
 ·
  exact ⟨N, by rw [f11_0_lp_eq]; exact h⟩
 ·
  cases h
theorem lok11_0 (N : Nat) (hΓ : CtxOk Tryz.prog []) : LoopOk Tryz.prog (mkL N11_0 f11_0_sh (f11_0_F N)) 0 B11_0 := f11_0_ok N (loopsOk_of (l := []) (by kernel_rfl) trivial) hΓ
theorem f11_contract (N : Nat) (hΓ : CtxOk Tryz.prog []) : Contract Tryz.prog 11 { sig := S11, impl := fun _ ds k => call (E11 N) S11 26 B11 R11 ds k } :=
 call_contract (E := E11 N) thOk hΓ mixed ok11.look ok11.body ok11.n ok11.rv ok11.name rfl (by decide) (loopsOk_of (l := [(0, B11_0)]) (by kernel_rfl) (allOk_cons (L := mkL N11_0 f11_0_sh (f11_0_F N)) rfl (lok11_0 N hΓ) trivial))
theorem f11_raw_eq {R : Type} (N : Nat) (xs ys : List Int) (k : List DV → Option R) : call (E11 N) S11 26 B11 R11 [.lst (.one .u8) 32 xs, .lst (.one .u8) 32 ys] k = f11_raw N xs ys k := by kernel_rfl
def f192_raw {R : Type} (N : Nat) (x y : Int) (k : List DV → Option R) : Option R :=
 let v0 := shrI .u64 x 32;
let v1 := shrI .u64 y 32;
let v2 := IntKind.u64.wrap (v0 * v1);
let v3 := andI .u64 y 4294967295;
let v4 := IntKind.u64.wrap (v0 * v3);
let v5 := andI .u64 x 4294967295;
let v6 := IntKind.u64.wrap (v5 * v3);
let v7 := shrI .u64 v6 32;
let v8 := IntKind.u64.wrap (v4 + v7);
let v9 := shrI .u64 v8 32;
let v10 := IntKind.u64.wrap (v2 + v9);
let v11 := andI .u64 v8 4294967295;
let v12 := IntKind.u64.wrap (v5 * v1);
let v13 := IntKind.u64.wrap (v11 + v12);
let v14 := shrI .u64 v13 32;
let v15 := IntKind.u64.wrap (v10 + v14);
let v16 := IntKind.u64.wrap (x * y);
k [.v (.one (.int .u64 v15)), .v (.one (.int .u64 v16))]
def E192 (N : Nat) : Env := { Θ := Th, Γ := [], K := K192, ν := N192, fuel := 0, lp := [] }
theorem f192_contract (N : Nat) (hΓ : CtxOk Tryz.prog []) : Contract Tryz.prog 192 { sig := S192, impl := fun _ ds k => call (E192 N) S192 51 B192 R192 ds k } :=
 call_contract (E := E192 N) thOk hΓ mixed ok192.look ok192.body ok192.n ok192.rv ok192.name rfl (by decide) (loopsOk_of (l := []) (by kernel_rfl) trivial)
theorem f192_raw_eq {R : Type} (N : Nat) (x y : Int) (k : List DV → Option R) : call (E192 N) S192 51 B192 R192 [.v (.one (.int .u64 x)), .v (.one (.int .u64 y))] k = f192_raw N x y k := by kernel_rfl
def f132_raw {R : Type} (N : Nat)  (k : List DV → Option R) : Option R :=
 let v0 : List Int := (List.replicate 4 0).set 0 6346243789798364141;
let v1 := v0.set 1 1503914060200516822;
let v2 := v1.set 2 0;
let v3 := v2.set 3 1152921504606846976;
k [.v (.one (.ints .u64 4 v3))]
def E132 (N : Nat) : Env := { Θ := Th, Γ := [], K := K132, ν := N132, fuel := 0, lp := [] }
theorem f132_contract (N : Nat) (hΓ : CtxOk Tryz.prog []) : Contract Tryz.prog 132 { sig := S132, impl := fun _ ds k => call (E132 N) S132 2 B132 R132 ds k } :=
 call_contract (E := E132 N) thOk hΓ mixed ok132.look ok132.body ok132.n ok132.rv ok132.name rfl (by decide) (loopsOk_of (l := []) (by kernel_rfl) trivial)
theorem f132_raw_eq {R : Type} (N : Nat)  (k : List DV → Option R) : call (E132 N) S132 2 B132 R132 [] k = f132_raw N  k := by kernel_rfl
def f180_raw {R : Type} (N : Nat)  (k : List DV → Option R) : Option R :=
 let v0 : List Int := (List.replicate 4 0).set 0 11819153939886771969;
let v1 := v0.set 1 14991950615390032711;
let v2 := v1.set 2 14910419812499177061;
let v3 := v2.set 3 259310039853996605;
k [.v (.one (.ints .u64 4 v3))]
def E180 (N : Nat) : Env := { Θ := Th, Γ := [], K := K180, ν := N180, fuel := 0, lp := [] }
theorem f180_contract (N : Nat) (hΓ : CtxOk Tryz.prog []) : Contract Tryz.prog 180 { sig := S180, impl := fun _ ds k => call (E180 N) S180 2 B180 R180 ds k } :=
 call_contract (E := E180 N) thOk hΓ mixed ok180.look ok180.body ok180.n ok180.rv ok180.name rfl (by decide) (loopsOk_of (l := []) (by kernel_rfl) trivial)
theorem f180_raw_eq {R : Type} (N : Nat)  (k : List DV → Option R) : call (E180 N) S180 2 B180 R180 [] k = f180_raw N  k := by kernel_rfl
end
end Go.Proofs.YtogcijgklnfjjaaGreat
namespace Go.Eng
noncomputable section
open Go
set_option maxRecDepth 100000
set_option linter.unusedVariables false
def atV : At → Value
 | .int k n => .int k n
 | _ => undef
theorem contract_ext {P : Program} {g : Nat} {fn : Func} {ent : Array Value → Sem Value} {impl : (R : Type) → List DV → (List DV → Option R) → Option R} {np nr : Nat}
  (hf : P.funcs[g]? = some fn) (hname : (fn.name == "runtime.NumGoroutine") = false) (hb : fn.body.isNone = true) (hn : Extern.findNext fn = none) (he : Extern.find fn = some ent)
  (h : ∀ R ds (k : List DV → Option R) r, impl R ds k = some r → ∃ (xs : List At) (os : List At), xs.length = np ∧ os.length = nr ∧ ds = xs.map (fun a => DV.v (.one a)) ∧ k (os.map fun a => DV.v (.one a)) = some r ∧
   (∀ a ∈ xs, ∃ k n, a = .int k n) ∧ (∀ a ∈ os, ∃ k n, a = .int k n) ∧
   ∀ w, (ent (xs.map atV).toArray).run P w = .ok (resVal (os.map atV)) w) :
  Contract P g { sig := { ps := List.replicate np .val, rs := List.replicate nr .val }, impl := impl } := by
 intro R ds k r hk
 obtain ⟨xs, os, l1, l2, rfl, h2, h3, h4, h5⟩ := h R ds k r hk
 refine ⟨_, h2, fun w vs ℓ τ hA => .inr ⟨resVal (os.map atV), ?_, ?_⟩⟩
 ·
  have hv : vs = xs.map atV := by
   apply List.ext_getElem?
   intro i
   have lv := hA.lenV
   simp only [List.length_replicate] at lv
   by_cases hi : i < np
   ·
    have hx : xs[i]? = some (xs[i]'(by omega)) := List.getElem?_eq_getElem (by omega)
    have hvi : vs[i]? = some (vs[i]'(by omega)) := List.getElem?_eq_getElem (by omega)
    have := hA.each i .val _ _ (by simp [hi]) (by rw [List.getElem?_map, hx]; rfl) hvi
    obtain ⟨kk, nn, e⟩ := h3 _ (List.getElem_mem (show i < xs.length by omega))
    rw [hvi, List.getElem?_map, hx]
    simp only [Option.map_some, e] at this ⊢
    obtain ⟨_, hr, _⟩ := this
    simp only [RelSV, RelAt, List.cons.injEq, and_true] at hr
    rw [hr]; rfl
   ·
    rw [List.getElem?_eq_none (by omega), List.getElem?_eq_none (by rw [List.length_map]; omega)]
  rw [run_callFunc_extern hf hname hb hn he, hv, h5]
  rfl
 ·
  have hmut : ∀ (m i : Nat) (ys : List At), MutRel w ℓ i (List.replicate m .val) (ys.map fun a => DV.v (.one a)) [] ∨ ys.length ≠ m := by
   intro m
   induction m with
   | zero =>
    intro i ys
    cases ys with
    | nil => exact .inl rfl
    | cons _ _ => right; simp
   | succ m ih =>
    intro i ys
    cases ys with
    | nil => right; simp
    | cons y ys =>
     rcases ih (i + 1) ys with h | h
     ·
      exact .inl h
     ·
      right; simpa using h
  refine ⟨⟨os.map atV, os.map (fun a => DV.v (.one a)), [], fun _ => none, fun _ => 0, rfl, by simp, by simp [l2], by simp [l2], ?_, ?_, ?_, ?_⟩, Nat.le_refl _, fun _ _ _ => rfl, rfl, rfl⟩
  ·
   intro j rm o x h1 h6 h7
   simp only [List.getElem?_replicate] at h1
   split at h1
   ·
    rename_i hj
    injection h1 with h1; subst h1
    have ho : os[j]? = some (os[j]'(by omega)) := List.getElem?_eq_getElem (by omega)
    obtain ⟨kk, nn, e⟩ := h4 _ (List.getElem_mem (show j < os.length by omega))
    rw [List.getElem?_map, ho, Option.map_some] at h6 h7
    injection h6 with h6; injection h7 with h7; subst h6; subst h7
    rw [e]
    exact ⟨rfl, rfl, rfl⟩
   ·
    cases h1
  ·
   intro j q hq; cases hq
  ·
   intro i j q r _ hq; cases hq
  ·
   rcases hmut np 0 xs with h | h
   ·
    exact h
   ·
    exact absurd l1 h
def addLo (x y c : Int) : Int := (x.toNat + y.toNat + c.toNat : Nat) % 18446744073709551616
def addHi (x y c : Int) : Int := (x.toNat + y.toNat + c.toNat : Nat) / 18446744073709551616
def IAdd64 : (R : Type) → List DV → (List DV → Option R) → Option R := fun _ ds k => match ds with
 | [.v (.one (.int .u64 x)), .v (.one (.int .u64 y)), .v (.one (.int .u64 c))] => cond (decide (c = 0) || decide (c = 1)) (k [.v (.one (.int .u64 (addLo x y c))), .v (.one (.int .u64 (addHi x y c)))]) none
 | _ => none
theorem contract_add64 {P : Program} {g : Nat} {fn : Func} (hf : P.funcs[g]? = some fn) (hname : (fn.name == "runtime.NumGoroutine") = false) (hb : fn.body.isNone = true) (hn : Extern.findNext fn = none) (he : Extern.find fn = some add64Entry) :
  Contract P g { sig := { ps := [.val, .val, .val], rs := [.val, .val] }, impl := IAdd64 } := by
 refine contract_ext (np := 3) (nr := 2) hf hname hb hn he ?_
 intro R ds k r h
 unfold IAdd64 at h
 split at h
 ·
  rename_i x y c
  cases hc : (decide (c = 0) || decide (c = 1)) with
  | false => rw [hc] at h; cases h
  | true =>
   rw [hc] at h
   rw [Bool.or_eq_true, decide_eq_true_eq, decide_eq_true_eq] at hc
   refine ⟨[.int .u64 x, .int .u64 y, .int .u64 c], [.int .u64 (addLo x y c), .int .u64 (addHi x y c)], rfl, rfl, rfl, h, by simp, by simp, fun w => ?_⟩
   rcases hc with rfl | rfl <;> rfl
 ·
  cases h
def sub64Entry : Array Value → Sem Value := fun args => do
 let (x, y, b) ← Extern.MathBitsCarry.three "Sub64" args
 pure (Extern.MathBitsCarry.pair ((x + Extern.MathBitsCarry.m64 - y - b) % Extern.MathBitsCarry.m64) (if x < y + b then 1 else 0))
def subLo (x y c : Int) : Int := ((x.toNat + 18446744073709551616 - y.toNat - c.toNat) % 18446744073709551616 : Nat)
def subHi (x y c : Int) : Int := cond (Nat.blt x.toNat (y.toNat + c.toNat)) 1 0
def ISub64 : (R : Type) → List DV → (List DV → Option R) → Option R := fun _ ds k => match ds with
 | [.v (.one (.int .u64 x)), .v (.one (.int .u64 y)), .v (.one (.int .u64 c))] => cond (decide (c = 0) || decide (c = 1)) (k [.v (.one (.int .u64 (subLo x y c))), .v (.one (.int .u64 (subHi x y c)))]) none
 | _ => none
theorem contract_sub64 {P : Program} {g : Nat} {fn : Func} (hf : P.funcs[g]? = some fn) (hname : (fn.name == "runtime.NumGoroutine") = false) (hb : fn.body.isNone = true) (hn : Extern.findNext fn = none) (he : Extern.find fn = some sub64Entry) :
  Contract P g { sig := { ps := [.val, .val, .val], rs := [.val, .val] }, impl := ISub64 } := by
 refine contract_ext (np := 3) (nr := 2) hf hname hb hn he ?_
 intro R ds k r h
 unfold ISub64 at h
 split at h
 ·
  rename_i x y c
  cases hc : (decide (c = 0) || decide (c = 1)) with
  | false => rw [hc] at h; cases h
  | true =>
   rw [hc] at h
   rw [Bool.or_eq_true, decide_eq_true_eq, decide_eq_true_eq] at hc
   refine ⟨[.int .u64 x, .int .u64 y, .int .u64 c], [.int .u64 (subLo x y c), .int .u64 (subHi x y c)], rfl, rfl, rfl, h, by simp, by simp, fun w => ?_⟩
   have e : ∀ c : Int, (if x.toNat < y.toNat + c.toNat then 1 else 0 : Nat) = (subHi x y c).toNat ∧ 0 ≤ subHi x y c := by
    intro c
    unfold subHi
    by_cases hb : x.toNat < y.toNat + c.toNat
    ·
     rw [if_pos hb, show Nat.blt x.toNat (y.toNat + c.toNat) = true from Nat.ble_eq_true_of_le hb]; exact ⟨rfl, by decide⟩
    ·
     rw [if_neg hb]
     have : Nat.blt x.toNat (y.toNat + c.toNat) = false := by
      cases h : Nat.blt x.toNat (y.toNat + c.toNat)
      ·
       rfl
      ·
       exact absurd (Nat.le_of_ble_eq_true h) hb
     rw [this]; exact ⟨rfl, by decide⟩
   have fin : ∀ c : Int, (sub64Entry #[.int .u64 x, .int .u64 y, .int .u64 c]).run P w = .ok (Extern.MathBitsCarry.pair ((x.toNat + Extern.MathBitsCarry.m64 - y.toNat - c.toNat) % Extern.MathBitsCarry.m64) (if x.toNat < y.toNat + c.toNat then 1 else 0)) w →
     (sub64Entry #[.int .u64 x, .int .u64 y, .int .u64 c]).run P w = .ok (.tuple #[.int .u64 (subLo x y c), .int .u64 (subHi x y c)]) w := by
    intro c h
    rw [h]
    unfold Extern.MathBitsCarry.pair
    obtain ⟨e1, e2⟩ := e c
    rw [e1, show Int.ofNat (subHi x y c).toNat = subHi x y c from Int.toNat_of_nonneg e2]
    rfl
   rcases hc with rfl | rfl
   ·
    exact fin 0 rfl
   ·
    exact fin 1 rfl
 ·
  cases h
end
end Go.Eng
namespace Go.Proofs.YtogcijgklnfjjaaGreat
noncomputable section
open Go Go.Eng
set_option maxRecDepth 100000
set_option linter.unusedVariables false
def ansI (o : Option (List DV)) (i : Nat) : Int := match o with
 | some l => match l[i]? with | some (.v (.one (.int _ n))) => n | _ => 0
 | none => 0
def ansL (o : Option (List DV)) (i : Nat) : List Int := match o with
 | some l => match l[i]? with | some (.v (.one (.ints _ _ n))) => n | _ => []
 | none => []
def mulHi (x y : Int) : Int := ansI (f192_raw 0 x y some) 0
def mulLo (x y : Int) : Int := IntKind.u64.wrap (x * y)
def I192 : (R : Type) → List DV → (List DV → Option R) → Option R := fun _ ds k => match ds with
 | [.v (.one (.int .u64 x)), .v (.one (.int .u64 y))] => k [.v (.one (.int .u64 (mulHi x y))), .v (.one (.int .u64 (mulLo x y)))]
 | _ => none
theorem c192 : Contract Tryz.prog 192 { sig := S192, impl := I192 } := by
 refine Contract.refine fun R ds k r h => ⟨_, f192_contract 0 ctxOk_nil, ?_⟩
 unfold I192 at h
 split at h
 ·
  rw [f192_raw_eq]; exact h
 ·
  cases h
def SV33 : Sig := { ps := [.val, .val, .val], rs := [.val, .val] }
theorem c157 : Contract Tryz.prog 157 { sig := SV33, impl := IAdd64 } :=
 contract_add64 Tryz.func157 (by decide +kernel) (by kernel_rfl) (by kernel_rfl) (by kernel_rfl)
theorem c181 : Contract Tryz.prog 181 { sig := SV33, impl := ISub64 } :=
 contract_sub64 Tryz.func181 (by decide +kernel) (by kernel_rfl) (by kernel_rfl) (by kernel_rfl)
def ordW : List Int := [6346243789798364141, 1503914060200516822, 0, 1152921504606846976]
def radW : List Int := [11819153939886771969, 14991950615390032711, 14910419812499177061, 259310039853996605]
def I132 : (R : Type) → List DV → (List DV → Option R) → Option R := fun _ ds k => match ds with
 | [] => k [.v (.one (.ints .u64 4 ordW))]
 | _ => none
theorem c132 : Contract Tryz.prog 132 { sig := S132, impl := I132 } := by
 refine Contract.refine fun R ds k r h => ⟨_, f132_contract 0 ctxOk_nil, ?_⟩
 unfold I132 at h
 split at h
 ·
  rw [f132_raw_eq]; exact h
 ·
  cases h
def I180 : (R : Type) → List DV → (List DV → Option R) → Option R := fun _ ds k => match ds with
 | [] => k [.v (.one (.ints .u64 4 radW))]
 | _ => none
theorem c180 : Contract Tryz.prog 180 { sig := S180, impl := I180 } := by
 refine Contract.refine fun R ds k r h => ⟨_, f180_contract 0 ctxOk_nil, ?_⟩
 unfold I180 at h
 split at h
 ·
  rw [f180_raw_eq]; exact h
 ·
  cases h
def G102 : Ctx := [(192, { sig := S192, impl := I192 }), (157, { sig := SV33, impl := IAdd64 })]
theorem G102_ok : CtxOk Tryz.prog G102 := ctxOk_cons ok192 rfl c192 (ctxOk_ext rfl c157 ctxOk_nil)
def G56 : Ctx := [(181, { sig := SV33, impl := ISub64 })]
theorem G56_ok : CtxOk Tryz.prog G56 := ctxOk_ext rfl c181 ctxOk_nil
def f190_raw {R : Type} (N : Nat) (x y : Int) (z c : Int) (k : List DV → Option R) : Option R :=
 let v0 := IntKind.u64.wrap (mulHi x y + addHi (mulLo x y) z 0);
let v1 := IntKind.u64.wrap (v0 + addHi (addLo (mulLo x y) z 0) c 0);
k [.v (.one (.int .u64 v1)), .v (.one (.int .u64 (addLo (addLo (mulLo x y) z 0) c 0)))]
def E190 (N : Nat) : Env := { Θ := Th, Γ := G102, K := K190, ν := N190, fuel := 0, lp := [] }
theorem f190_contract (N : Nat) (hΓ : CtxOk Tryz.prog G102) : Contract Tryz.prog 190 { sig := S190, impl := fun _ ds k => call (E190 N) S190 38 B190 R190 ds k } :=
 call_contract (E := E190 N) thOk hΓ mixed ok190.look ok190.body ok190.n ok190.rv ok190.name rfl (by decide) (loopsOk_of (l := []) (by kernel_rfl) trivial)
theorem f190_raw_eq {R : Type} (N : Nat) (x y : Int) (z c : Int) (k : List DV → Option R) : call (E190 N) S190 38 B190 R190 [.v (.one (.int .u64 x)), .v (.one (.int .u64 y)), .v (.one (.int .u64 z)), .v (.one (.int .u64 c))] k = f190_raw N x y z c k := by kernel_rfl
def f131_raw {R : Type} (N : Nat) (x y : List Int) (k : List DV → Option R) : Option R :=
 bif decide (subHi (x.getD (mulE (Int.toNat 0) 1) 0) (y.getD (mulE (Int.toNat 0) 1) 0) 0 = 0) || decide (subHi (x.getD (mulE (Int.toNat 0) 1) 0) (y.getD (mulE (Int.toNat 0) 1) 0) 0 = 1) then
 let v0 := IntKind.i64.wrap (0 + 1);
 bif decide (subHi (x.getD (mulE v0.toNat 1) 0) (y.getD (mulE v0.toNat 1) 0) (subHi (x.getD (mulE (Int.toNat 0) 1) 0) (y.getD (mulE (Int.toNat 0) 1) 0) 0) = 0) || decide (subHi (x.getD (mulE v0.toNat 1) 0) (y.getD (mulE v0.toNat 1) 0) (subHi (x.getD (mulE (Int.toNat 0) 1) 0) (y.getD (mulE (Int.toNat 0) 1) 0) 0) = 1) then
 let v1 := IntKind.i64.wrap (v0 + 1);
 bif decide (subHi (x.getD (mulE v1.toNat 1) 0) (y.getD (mulE v1.toNat 1) 0) (subHi (x.getD (mulE v0.toNat 1) 0) (y.getD (mulE v0.toNat 1) 0) (subHi (x.getD (mulE (Int.toNat 0) 1) 0) (y.getD (mulE (Int.toNat 0) 1) 0) 0)) = 0) || decide (subHi (x.getD (mulE v1.toNat 1) 0) (y.getD (mulE v1.toNat 1) 0) (subHi (x.getD (mulE v0.toNat 1) 0) (y.getD (mulE v0.toNat 1) 0) (subHi (x.getD (mulE (Int.toNat 0) 1) 0) (y.getD (mulE (Int.toNat 0) 1) 0) 0)) = 1) then
 let v2 : List Int := (List.replicate 4 0).set (mulE (Int.toNat 0) 1) (subLo (x.getD (mulE (Int.toNat 0) 1) 0) (y.getD (mulE (Int.toNat 0) 1) 0) 0);
 let v3 := v2.set (mulE v0.toNat 1) (subLo (x.getD (mulE v0.toNat 1) 0) (y.getD (mulE v0.toNat 1) 0) (subHi (x.getD (mulE (Int.toNat 0) 1) 0) (y.getD (mulE (Int.toNat 0) 1) 0) 0));
 let v4 := v3.set (mulE v1.toNat 1) (subLo (x.getD (mulE v1.toNat 1) 0) (y.getD (mulE v1.toNat 1) 0) (subHi (x.getD (mulE v0.toNat 1) 0) (y.getD (mulE v0.toNat 1) 0) (subHi (x.getD (mulE (Int.toNat 0) 1) 0) (y.getD (mulE (Int.toNat 0) 1) 0) 0)));
 let v5 := IntKind.i64.wrap (v1 + 1);
 let v6 := v4.set (mulE v5.toNat 1) (subLo (x.getD (mulE v5.toNat 1) 0) (y.getD (mulE v5.toNat 1) 0) (subHi (x.getD (mulE v1.toNat 1) 0) (y.getD (mulE v1.toNat 1) 0) (subHi (x.getD (mulE v0.toNat 1) 0) (y.getD (mulE v0.toNat 1) 0) (subHi (x.getD (mulE (Int.toNat 0) 1) 0) (y.getD (mulE (Int.toNat 0) 1) 0) 0))));
 k [.v (.one (.ints .u64 4 v6)), .v (.one (.int .u64 (subHi (x.getD (mulE v5.toNat 1) 0) (y.getD (mulE v5.toNat 1) 0) (subHi (x.getD (mulE v1.toNat 1) 0) (y.getD (mulE v1.toNat 1) 0) (subHi (x.getD (mulE v0.toNat 1) 0) (y.getD (mulE v0.toNat 1) 0) (subHi (x.getD (mulE (Int.toNat 0) 1) 0) (y.getD (mulE (Int.toNat 0) 1) 0) 0))))))]
 else none
 else none
else none
def E131 (N : Nat) : Env := { Θ := Th, Γ := G56, K := K131, ν := N131, fuel := 20, lp := [] }
theorem f131_contract (N : Nat) (hΓ : CtxOk Tryz.prog G56) : Contract Tryz.prog 131 { sig := S131, impl := fun _ ds k => call (E131 N) S131 28 B131 R131 ds k } :=
 call_contract (E := E131 N) thOk hΓ mixed ok131.look ok131.body ok131.n ok131.rv ok131.name rfl (by decide) (loopsOk_of (l := [(0, B131_0)]) (by kernel_rfl) (allOk_skip rfl trivial))
theorem f131_raw_eq {R : Type} (N : Nat) (x y : List Int) (k : List DV → Option R) : call (E131 N) S131 28 B131 R131 [.v (.one (.ints .u64 4 x)), .v (.one (.ints .u64 4 y))] k = f131_raw N x y k := by kernel_rfl
end
end Go.Proofs.YtogcijgklnfjjaaGreat
