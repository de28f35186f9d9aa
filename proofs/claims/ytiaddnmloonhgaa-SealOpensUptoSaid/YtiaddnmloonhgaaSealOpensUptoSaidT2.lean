/- A part of the proof: SealOpens, for every case of bulk at most 1,048,576: what the document seals, with one byte turned, opens as the document says; as a box, too. -/
import Derived.Test.YtiaddnmloonhgaaSealOpensUptoSaidT1
import Derived.LoopN
import Derived.Laws.Sem
import Derived.OpenShut
import Derived.Below
import Derived.ChangeSame
import Derived.Carry
import Derived.Test.YtiaddnmloonhgaaProg
import Derived.KernelRfl
set_option linter.unusedVariables false
set_option linter.unusedSimpArgs false

/- The engine, part U: regions that draw, joined; code. -/
namespace Go.Eng
open Go

section
variable {P : Program} {Γ : Ctx} {Θ : Types}

theorem snoc_eq {α : Type} (l : List α) (a : α) : snoc l a = l ++ [a] := by
  induction l with
  | nil => rfl
  | cons b l ih => simp [snoc, ih]

structure LblOk (ops : List Oper) (B : List Nat) (i : Nat) (l : List Oper) (ancs az : List (List Nat)) (logs : List Log) (rem : List Lbl) (j : Nat) (x : Lbl) : Prop where
  idx : x.i = i + j
  op : l[j]? = some x.o
  nd : FreshNd x
  base : ∀ f ∈ x.lg.fresh, f ∉ B
  anc : az[j]? = some (ancOf (ancs ++ az.take j) x.o.after.toList)
  back : edgesBack (i + j) x.o.after.toList = true
  apart : apartAll (ancOf (ancs ++ az.take j) x.o.after.toList) x.lg 0 (logs ++ (rem.take j).map (·.lg)) = true

theorem runDraw_spec {R : Type} (hΓ : CtxOk P Γ) {ops : List Oper} {B : List Nat} : ∀ (l : List Oper) (i : Nat) (ancs : List (List Nat)) (logs : List Log) (s : AS) (k : AS → Option R) (r : R), runDraw Θ Γ ops B l i ancs logs s k = some r →
    ∃ (rem : List Lbl) (az : List (List Nat)) (s' : AS), k s' = some r ∧ (Nodup' s.items → Nodup' s'.items) ∧ LChain P Γ Θ ops rem s s' ∧ rem.length = l.length ∧ az.length = l.length ∧ ∀ j x, rem[j]? = some x → LblOk ops B i l ancs az logs rem j x
  | [], i, ancs, logs, s, k, r, h => by
    simp only [runDraw] at h
    exact ⟨[], [], s, h, id, .nil (.refl s), rfl, rfl, by simp⟩
  | o :: l, i, ancs, logs, s, k, r, h => by
    simp only [runDraw] at h
    obtain ⟨d, h1, h2⟩ := D.run_out hΓ _ _ _ h
    split at h2
    · rename_i hb
      simp only [Bool.and_eq_true, disj_iff] at hb
      obtain ⟨b1, b2, b3, b4⟩ := hb
      obtain ⟨rem, az, s', g1, g2, g3, g4, g5, g6⟩ := runDraw_spec hΓ l _ _ _ _ k r h2
      have hfd : Nodup' d.fresh := nodup'_of (nodupN_iff.1 b2)
      refine ⟨⟨i, o, d, logOf ops o s.T s.I d⟩ :: rem, ancOf ancs o.after.toList :: az, s', g1, fun hn => g2 (AS.apply_nd hn hfd), .cons h1 rfl g3, by simp [g4], by simp [g5], ?_⟩
      intro j x hj
      cases j with
      | zero =>
        simp only [List.getElem?_cons_zero, Option.some.injEq] at hj
        subst hj
        exact ⟨rfl, rfl, hfd, b3, by simp, b1, by simpa using b4⟩
      | succ j =>
        simp only [List.getElem?_cons_succ] at hj
        have := g6 j x hj
        rw [snoc_eq, snoc_eq] at this
        exact ⟨by rw [this.idx]; omega, by simpa using this.op, this.nd, this.base, by simpa using this.anc, by have := this.back; rwa [show i + (j + 1) = i + 1 + j by omega], by simpa using this.apart⟩
    · cases h2

theorem edgesBack_spec {i : Nat} : ∀ {l : List Edge}, edgesBack i l = true → ∀ e ∈ l, Region.binds .any e = true → e.on < i
  | [], _, e, he, _ => by cases he
  | a :: l, h, e, he, hb => by
    simp only [edgesBack, Bool.and_eq_true] at h
    rcases List.mem_cons.1 he with e1 | he
    · subst e1
      rw [hb] at h
      have := ble_iff.1 (show Nat.ble (e.on + 1) i = true from h.1)
      omega
    · exact edgesBack_spec h.2 e he hb

theorem ancOf_on {ancs : List (List Nat)} : ∀ {l : List Edge} {e : Edge}, e ∈ l → Region.binds .any e = true → e.on ∈ ancOf ancs l
  | [], e, he, _ => by cases he
  | a :: l, e, he, hb => by
    rcases List.mem_cons.1 he with e1 | he
    · subst e1
      simp only [ancOf, hb]; exact mem_unionN.2 (.inl (.head _))
    · have := ancOf_on (ancs := ancs) he hb
      simp only [ancOf]
      split
      · exact mem_unionN.2 (.inr this)
      · exact this

theorem ancOf_of {ancs : List (List Nat)} {j : Nat} : ∀ {l : List Edge}, j ∈ ancOf ancs l → ∃ e ∈ l, Region.binds .any e = true ∧ (j = e.on ∨ j ∈ ancs.getD e.on [])
  | [], h => by cases h
  | a :: l, h => by
    simp only [ancOf] at h
    split at h
    · rename_i hb
      rcases mem_unionN.1 h with h | h
      · rcases List.mem_cons.1 h with e | h
        · exact ⟨a, .head _, hb, .inl e⟩
        · exact ⟨a, .head _, hb, .inr h⟩
      · obtain ⟨e, he, h⟩ := ancOf_of h
        exact ⟨e, .tail _ he, h⟩
    · obtain ⟨e, he, h⟩ := ancOf_of h
      exact ⟨e, .tail _ he, h⟩

theorem apartAll_spec {anc : List Nat} {lg : Log} : ∀ {l : List Log} {i : Nat}, apartAll anc lg i l = true → ∀ j lg', l[j]? = some lg' → (∀ f ∈ lg.fresh, f ∉ lg'.says) ∧ (i + j ∈ anc ∨ Apart lg' lg)
  | [], i, _, j, lg', h => by simp at h
  | a :: l, i, h, j, lg', hj => by
    simp only [apartAll, Bool.and_eq_true, disj_iff, Bool.or_eq_true] at h
    cases j with
    | zero =>
      simp only [List.getElem?_cons_zero, Option.some.injEq] at hj
      subst hj
      refine ⟨h.1, ?_⟩
      rcases h.2.1 with h | h
      · exact .inl (memN_iff.1 h)
      · exact .inr (apartL_spec h)
    | succ j =>
      have := apartAll_spec h.2.2 j lg' (by simpa using hj)
      rwa [show i + (j + 1) = i + 1 + j by omega]

theorem namesT_find {t : Nat} {l : List (Nat × AV)} {n : Nat} (h : n ∈ (findT t l).names) : n ∈ namesT l := by
  rcases findT_mem (t := t) (l := l) with e | hm
  · rw [e] at h; simp [AV.names, SV.names, At.names] at h
  · revert hm h
    generalize findT t l = v
    intro h hm
    induction l with
    | nil => cases hm
    | cons x l ih =>
      obtain ⟨u, v'⟩ := x
      simp only [namesT]
      rcases List.mem_cons.1 hm with e | hm
      · injection e with e1 e2; subst e2; exact List.mem_append.2 (.inl h)
      · exact List.mem_append.2 (.inr (ih hm))

theorem draw_reaches (hΘ : TypesOk P Θ) (hΓ : CtxOk P Γ) (hm : P.follows .mixedOrders = true) {R : Type} {id : Nat} {ops : Array Oper} {s : AS} {k : AS → Option R} {r : R} (hok : dstsOk s.n ops.toList = true)
    (h : runDraw Θ Γ ops.toList (namesT s.tmps ++ putSays s.items) ops.toList 0 [] [] s k = some r) : ∃ s', k s' = some r ∧ Reaches P (.region id ops true) s .normal s' := by
  obtain ⟨rem, az, s', g1, g2, g3, g4, g5, g6⟩ := runDraw_spec hΓ _ _ _ _ _ _ _ h
  refine ⟨s', g1, fun w0 Mu ρ a w Q hs hQ => ?_⟩
  refine wp_region_any hm ?_
  have hs2 : Sim w0 Mu ρ s a { w with drawn := w.drawn + 1 } := by
    refine ⟨hs.defers, hs.nd, hs.size, hs.rel, ?_, hs.own, hs.sep, hs.lt, hs.mono, hs.frame, hs.pin, hs.still⟩
    intro n it hi
    exact (hs.hold n it hi).frame ⟨rfl, rfl⟩ (fun m _ => ⟨rfl, rfl, .inl rfl⟩) (fun _ _ => rfl)
  have hsz : ops.size = rem.length := by rw [g4]; simp
  have hget : ∀ x ∈ rem, ∃ j, rem[j]? = some x ∧ LblOk ops.toList (namesT s.tmps ++ putSays s.items) 0 ops.toList [] az [] rem j x := by
    intro x hx
    obtain ⟨j, hj⟩ := List.getElem?_of_mem hx
    exact ⟨j, hj, g6 j x hj⟩
  have hanc : ∀ i o, ops[i]? = some o → az.getD i [] = ancOf (az.take i) o.after.toList ∧ edgesBack i o.after.toList = true := by
    intro i o ho
    have hlt : i < rem.length := by
      rw [← hsz]
      by_cases h : i < ops.size
      · exact h
      · rw [Array.getElem?_eq_none (by omega)] at ho; cases ho
    have hL := g6 i _ (List.getElem?_eq_getElem hlt)
    have h1 := hL.op
    have : rem[i].o = o := by
      rw [Array.getElem?_toList, ho] at h1; injection h1 with h1; exact h1.symm
    have h2 := hL.anc
    have h3 := hL.back
    rw [this] at h2 h3
    simp only [List.nil_append] at h2
    refine ⟨by rw [List.getD_eq_getElem?_getD, h2]; rfl, by simpa using h3⟩
  refine any_ops hΘ hΓ (anc := fun i => az.getD i []) (g2 hs.nd) ops.size rem _ s (by omega) ?_ g3 ?_ ?_ hok hs2 hQ
  · refine ⟨by simp, ?_, ?_, ?_, ?_, ?_, ?_, ?_⟩
    · intro x hx
      obtain ⟨j, hj, hL⟩ := hget x hx
      have := hL.op
      rw [hL.idx, Nat.zero_add]
      simpa using this
    · intro i hi
      rw [Array.getD_eq_getD_getElem?, Array.getElem?_replicate, if_pos hi]
      simp only [Option.getD_some, true_iff]
      have hlt : i < rem.length := by omega
      exact ⟨rem[i], List.getElem_mem hlt, by rw [(g6 i _ (List.getElem?_eq_getElem hlt)).idx]; omega⟩
    · rw [List.pairwise_iff_getElem]
      intro i j hi hj hij
      rw [(g6 i _ (List.getElem?_eq_getElem hi)).idx, (g6 j _ (List.getElem?_eq_getElem hj)).idx]; omega
    · rw [List.pairwise_iff_getElem]
      intro i j hi hj hij
      have hL := g6 j _ (List.getElem?_eq_getElem hj)
      have hg : (([] : List Log) ++ (rem.take j).map (·.lg))[i]? = some rem[i].lg := by
        rw [List.nil_append, List.getElem?_map, List.getElem?_take, if_pos hij, List.getElem?_eq_getElem hi]; rfl
      obtain ⟨p1, p2⟩ := apartAll_spec hL.apart i _ hg
      refine ⟨p1, ?_⟩
      rcases p2 with p2 | p2
      · left
        rw [hL.idx, (g6 i _ (List.getElem?_eq_getElem hi)).idx]
        simp only [Nat.zero_add] at p2 ⊢
        rw [List.getD_eq_getElem?_getD, hL.anc]
        exact p2
      · exact .inr p2
    · intro i hi hne
      have hlt : i < rem.length := by omega
      exact absurd (by rw [(g6 i _ (List.getElem?_eq_getElem hlt)).idx]; omega) (hne rem[i] (List.getElem_mem hlt))
    · intro i o ho e he hb
      obtain ⟨h1, h2⟩ := hanc i o ho
      exact ⟨edgesBack_spec h2 e he hb, by rw [h1]; exact ancOf_on he hb⟩
    · intro i o ho j hj
      obtain ⟨h1, h2⟩ := hanc i o ho
      rw [h1] at hj
      obtain ⟨e, he, hb, h3⟩ := ancOf_of hj
      refine ⟨e, he, hb, ?_⟩
      rcases h3 with h3 | h3
      · exact .inl h3
      · right
        have hlt := edgesBack_spec h2 e he hb
        rw [List.getD_eq_getElem?_getD, List.getElem?_take, if_pos hlt] at h3
        rw [List.getD_eq_getElem?_getD]; exact h3
  · intro x hx
    obtain ⟨j, _, hL⟩ := hget x hx
    exact hL.nd
  · intro x hx f hf
    obtain ⟨j, _, hL⟩ := hget x hx
    have := hL.base f hf
    simp only [List.mem_append, not_or] at this
    exact ⟨fun t hm => this.1 (namesT_find hm), fun n it hi hm => this.2 (Sim.nrm.putSays_mem (findI_mem hi) hm)⟩

end

end Go.Eng

/- The engine, part V: code. -/
namespace Go.Eng
open Go

section
variable {P : Program}

def X.out : X → Exit
  | .normal => .normal
  | .exit i => .exit i
  | .ret => .ret

theorem reaches_iff {c : Code} {s s' : AS} {e : X} : Reaches P c s e s' ↔ ∀ w0 Mu ρ a w (Q : Exit → Act → World → Prop), Sim w0 Mu ρ s a w → (∀ a' w' ρ', Sim w0 Mu ρ' s' a' w' → Q e.out a' w') → c.wp P Q a w := by
  unfold Reaches
  constructor <;> intro h w0 Mu ρ a w Q hs hQ <;> exact h w0 Mu ρ a w Q hs (fun a' w' ρ' hs' => by cases e <;> exact hQ a' w' ρ' hs')

/-- so many rounds -/
inductive Rounds (P : Program) (ν : Nrm) (c : Code) : AS → X → AS → Prop
  | last {s s' : AS} {e : X} (h : Reaches P c s e s') (he : e ≠ .normal) : Rounds P ν c s e s'
  | more {s s1 s2 s' : AS} {e : X} (h : Reaches P c s .normal s1) (hn : nrm ν s1 = some s2) (r : Rounds P ν c s2 e s') : Rounds P ν c s e s'

theorem rounds_wp {ν : Nrm} {c : Code} {s s' : AS} {e : X} (h : Rounds P ν c s e s') : e ≠ .normal ∧ ∃ n, ∀ w0 Mu ρ a w (Q : Exit → Act → World → Prop), Sim w0 Mu ρ s a w → (∀ a' w' ρ', Sim w0 Mu ρ' s' a' w' → Q e.out a' w') → Code.rounds P c Q n a w := by
  induction h with
  | @last s s' e h he =>
    refine ⟨he, 1, fun w0 Mu ρ a w Q hs hQ => ?_⟩
    refine reaches_iff.1 h w0 Mu ρ a w _ hs fun a' w' ρ' hs' => ?_
    cases e with
    | normal => exact absurd rfl he
    | exit i => exact hQ a' w' ρ' hs'
    | ret => exact hQ a' w' ρ' hs'
  | @more s s1 s2 s' e h hn r ih =>
    obtain ⟨he, n, ih⟩ := ih
    refine ⟨he, n + 1, fun w0 Mu ρ a w Q hs hQ => ?_⟩
    refine reaches_iff.1 h w0 Mu ρ a w _ hs fun a' w' ρ' hs' => ?_
    obtain ⟨ρ2, hs2⟩ := hs'.nrm hn
    exact ih w0 Mu ρ2 a' w' Q hs2 hQ

theorem iter_rounds {R : Type} {ν : Nrm} {c : Code} {body : AS → (X → AS → Option R) → Option R} {id : Nat} {k : X → AS → Option R}
    (hb : ∀ (s : AS) (k : X → AS → Option R) (r : R), body s k = some r → ∃ e s', k e s' = some r ∧ Reaches P c s e s') :
    ∀ (n : Nat) (s : AS) (r : R), iter ν body id k n s = some r → ∃ e s', (match e with | .exit i => (match Nat.beq i id with | true => k .normal s' | false => k (.exit i) s') | .ret => k .ret s' | .normal => none) = some r ∧ Rounds P ν c s e s'
  | 0, s, r, h => by simp [iter] at h
  | n + 1, s, r, h => by
    simp only [iter] at h
    obtain ⟨e, s', h1, h2⟩ := hb _ _ _ h
    cases e with
    | normal =>
      simp only at h1
      split at h1
      · rename_i s'' hn
        obtain ⟨e, t, h3, h4⟩ := iter_rounds hb n s'' r h1
        exact ⟨e, t, h3, .more h2 hn h4⟩
      · cases h1
    | exit i => exact ⟨.exit i, s', h1, .last h2 (by simp)⟩
    | ret => exact ⟨.ret, s', h1, .last h2 (by simp)⟩

def Sound1 (P : Program) (E : Env) (R : Type) (c : Code) : Prop := ∀ (s : AS) (k : X → AS → Option R) (r : R), exec E c s k = some r → ∃ e s', k e s' = some r ∧ Reaches P c s e s'

/-- what is known of a loop holds -/
def LoopOk (P : Program) (L : LoopFn) (id : Nat) (body : Code) : Prop := ∀ (R : Type) (s : AS) (k : X → AS → Option R) (r : R), L R s k = some r → ∃ e s', k e s' = some r ∧ Reaches P (.block id (.loop body)) s e s'

def LoopsOk (P : Program) (lp : List (Nat × LoopFn)) (c : Code) : Prop := ∀ p ∈ loopsIn c, ∀ L, findL p.1 lp = some L → LoopOk P L p.1 p.2

theorem exec_sound {E : Env} (hΘ : TypesOk P E.Θ) (hΓ : CtxOk P E.Γ) (hm : P.follows .mixedOrders = true) {R : Type} :
    ∀ (c : Code), LoopsOk P E.lp c → Sound1 P E R c ∧ ∀ b, c = .loop b → Sound1 P E R b := by
  intro c
  induction c with
  | skip =>
    intro _
    refine ⟨?_, fun b hb => by cases hb⟩
    intro s k r h
    simp only [exec] at h
    exact ⟨.normal, s, h, fun w0 Mu ρ a w Q hs hQ => wp_skip (hQ a w ρ hs)⟩
  | exit id =>
    intro _
    refine ⟨?_, fun b hb => by cases hb⟩
    intro s k r h
    simp only [exec] at h
    exact ⟨.exit id, s, h, fun w0 Mu ρ a w Q hs hQ => wp_exit (hQ a w ρ hs)⟩
  | ret =>
    intro _
    refine ⟨?_, fun b hb => by cases hb⟩
    intro s k r h
    simp only [exec] at h
    exact ⟨.ret, s, h, fun w0 Mu ρ a w Q hs hQ => wp_ret (hQ a w ρ hs)⟩
  | region id ops d =>
    intro _
    refine ⟨?_, fun b hb => by cases hb⟩
    intro s k r h
    simp only [exec] at h
    split at h
    · cases h
    · rename_i hok
      cases d with
      | false =>
        simp only at h
        obtain ⟨s', h1, h2⟩ := runOps_chain hΓ _ _ _ _ h
        exact ⟨.normal, _, h1, (region_reaches hΘ hΓ hok h2).prune E.K⟩
      | true =>
        simp only at h
        obtain ⟨s', h1, h2⟩ := draw_reaches hΘ hΓ hm (id := id) hok h
        exact ⟨.normal, _, h1, h2.prune E.K⟩
  | seq x y ihx ihy =>
    intro hlp
    have ihx := ihx fun p hp => hlp p (List.mem_append.2 (.inl hp))
    have ihy := ihy fun p hp => hlp p (List.mem_append.2 (.inr hp))
    refine ⟨?_, fun b hb => by cases hb⟩
    intro s k r h
    simp only [exec] at h
    obtain ⟨e, s1, h1, h2⟩ := ihx.1 _ _ _ h
    cases e with
    | normal =>
      obtain ⟨e, s2, h3, h4⟩ := ihy.1 _ _ _ h1
      refine ⟨e, s2, h3, fun w0 Mu ρ a w Q hs hQ => wp_seq ?_⟩
      exact h2 w0 Mu ρ a w _ hs fun a' w' ρ' hs' => h4 w0 Mu ρ' a' w' Q hs' hQ
    | exit i =>
      exact ⟨.exit i, s1, h1, fun w0 Mu ρ a w Q hs hQ => wp_seq (h2 w0 Mu ρ a w _ hs fun a' w' ρ' hs' => hQ a' w' ρ' hs')⟩
    | ret =>
      exact ⟨.ret, s1, h1, fun w0 Mu ρ a w Q hs hQ => wp_seq (h2 w0 Mu ρ a w _ hs fun a' w' ρ' hs' => hQ a' w' ρ' hs')⟩
  | cond c x y ihx ihy =>
    intro hlp
    have ihx := ihx fun p hp => hlp p (List.mem_append.2 (.inl hp))
    have ihy := ihy fun p hp => hlp p (List.mem_append.2 (.inr hp))
    refine ⟨?_, fun b hb => by cases hb⟩
    intro s k r h
    simp only [exec] at h
    split at h
    · rename_i t ht
      have hc : ∀ {w0 Mu ρ a w}, Sim w0 Mu ρ s a w → a.eval c = .bool t := by
        intro w0 Mu ρ a w hs
        have := relEv hs c
        rw [show evO s.T c = .s (.one (.bool t)) from ht] at this
        simpa [RelV, RelSV, RelAt] using this
      cases t with
      | true =>
        obtain ⟨e, s', h1, h2⟩ := ihx.1 _ _ _ h
        exact ⟨e, s', h1, fun w0 Mu ρ a w Q hs hQ => wp_cond_true (hc hs) (h2 w0 Mu ρ a w Q hs hQ)⟩
      | false =>
        obtain ⟨e, s', h1, h2⟩ := ihy.1 _ _ _ h
        exact ⟨e, s', h1, fun w0 Mu ρ a w Q hs hQ => wp_cond_false (hc hs) (h2 w0 Mu ρ a w Q hs hQ)⟩
    · cases h
  | block id c ih =>
    intro hlp
    have ih := ih (by
      intro p hp
      apply hlp p
      cases c <;> first | exact hp | exact .tail _ hp)
    refine ⟨?_, fun b hb => by cases hb⟩
    intro s k r h
    have key : exec E c s (fun e s' => match e with
      | .normal => k .normal s'
      | .exit i => (match Nat.beq i id with | true => k .normal s' | false => k (.exit i) s')
      | .ret => k .ret s') = some r → ∃ e s', k e s' = some r ∧ Reaches P (.block id c) s e s' := by
      intro h
      obtain ⟨e, s', h1, h2⟩ := ih.1 _ _ _ h
      cases e with
      | normal => exact ⟨.normal, s', h1, fun w0 Mu ρ a w Q hs hQ => wp_block (h2 w0 Mu ρ a w _ hs fun a' w' ρ' hs' => hQ a' w' ρ' hs')⟩
      | ret => exact ⟨.ret, s', h1, fun w0 Mu ρ a w Q hs hQ => wp_block (h2 w0 Mu ρ a w _ hs fun a' w' ρ' hs' => hQ a' w' ρ' hs')⟩
      | exit i =>
        simp only at h1
        split at h1
        · rename_i e
          have e := beqT e; subst e
          refine ⟨.normal, s', h1, fun w0 Mu ρ a w Q hs hQ => wp_block (h2 w0 Mu ρ a w _ hs fun a' w' ρ' hs' => ?_)⟩
          simp only [Exit.inBlock, if_true]; exact hQ a' w' ρ' hs'
        · rename_i e
          have e := beqN e
          refine ⟨.exit i, s', h1, fun w0 Mu ρ a w Q hs hQ => wp_block (h2 w0 Mu ρ a w _ hs fun a' w' ρ' hs' => ?_)⟩
          simp only [Exit.inBlock, if_neg e]; exact hQ a' w' ρ' hs'
    cases c with
    | loop body =>
      simp only [exec] at h
      split at h
      · rename_i L hL
        exact hlp (id, body) (by simp [loopsIn]) L hL R s k r h
      split at h
      · rename_i ν hν
        split at h
        · rename_i s0 hs0
          have hb : ∀ (s : AS) (k : X → AS → Option R) (r : R), exec E body s k = some r → ∃ e s', k e s' = some r ∧ Reaches P body s e s' := ih.2 body rfl
          obtain ⟨e, s', h1, h2⟩ := iter_rounds hb _ _ _ h
          obtain ⟨he, n, hw⟩ := rounds_wp h2
          have hl : ∀ w0 Mu ρ a w (Q : Exit → Act → World → Prop), Sim w0 Mu ρ s a w → (∀ a' w' ρ', Sim w0 Mu ρ' s' a' w' → Exit.inBlock id Q e.out a' w') → (Code.block id (.loop body)).wp P Q a w := by
            intro w0 Mu ρ a w Q hs hQ
            obtain ⟨ρ2, hs2⟩ := hs.nrm hs0
            exact wp_block (wp_loop_rounds n (hw w0 Mu ρ2 a w _ hs2 hQ))
          cases e with
          | normal => exact absurd rfl he
          | ret => exact ⟨.ret, s', h1, fun w0 Mu ρ a w Q hs hQ => hl w0 Mu ρ a w Q hs hQ⟩
          | exit i =>
            simp only at h1
            split at h1
            · rename_i e
              have e := beqT e; subst e
              refine ⟨.normal, s', h1, fun w0 Mu ρ a w Q hs hQ => hl w0 Mu ρ a w Q hs fun a' w' ρ' hs' => ?_⟩
              simp only [X.out, Exit.inBlock, if_true]; exact hQ a' w' ρ' hs'
            · rename_i e
              have e := beqN e
              refine ⟨.exit i, s', h1, fun w0 Mu ρ a w Q hs hQ => hl w0 Mu ρ a w Q hs fun a' w' ρ' hs' => ?_⟩
              simp only [X.out, Exit.inBlock, if_neg e]; exact hQ a' w' ρ' hs'
        · cases h
      · cases h
    | _ => exact key h
  | loop b ih =>
    intro hlp
    refine ⟨fun s k r h => by simp [exec] at h, fun b' hb => ?_⟩
    cases hb; exact (ih hlp).1
  | _ => exact fun _ => ⟨fun s k r h => by simp [exec] at h, fun b hb => by cases hb⟩

end

end Go.Eng

/- The engine, part W: a function. -/
namespace Go.Eng
open Go

section
variable {P : Program}

/-! ### what it is handed -/

def initAV (n : Nat) : PM → DV → Option AV
  | .val, .v v => some (.s v)
  | .view _ _, .lst _ _ _ => some (va (.own n))
  | .own _ _, .lst _ _ _ => some (va (.own n))
  | .mt, .obj l => some (va (.ptr n 0 .z (sizesL l)))
  | .mt, .nilp => some (va .nilp)
  | _, _ => none

def initIt : PM → DV → Option Item
  | .view k es, .lst _ _ xs => some (.view k es xs)
  | .own k es, .lst _ _ xs => some (.row k es xs)
  | .mt, .obj l => some (.obj l)
  | _, _ => none

theorem initIt_owned {p : PM} {d : DV} {it : Item} (h : initIt p d = some it) (ho : it.owned = true) : p.owned = true := by
  cases p with
  | val => cases d <;> cases h
  | view k es =>
    cases d with
    | lst k' es' xs => injection h with h; subst h; cases ho
    | _ => cases h
  | own k es => rfl
  | mt => rfl

theorem initT_spec : ∀ {ps : List PM} {ds : List DV} {i : Nat} {ts : List (Nat × AV)} {is : List (Nat × Item)}, initT i ps ds = some (ts, is) →
    ds.length = ps.length ∧ Nodup' is ∧ (∀ t, (t < i ∨ i + ps.length ≤ t) → findT t ts = .s (.one .dead) ∧ t ∉ putNames is) ∧
    ∀ (j : Nat) p d, ps[j]? = some p → ds[j]? = some d → initAV (i + j) p d = some (findT (i + j) ts) ∧ findI (i + j) is = initIt p d
  | [], [], i, ts, is, h => by
    simp only [initT] at h
    injection h with h; injection h with h1 h2; subst h1; subst h2
    exact ⟨rfl, trivial, fun t _ => ⟨rfl, by simp [putNames]⟩, by simp⟩
  | [], _ :: _, i, ts, is, h => by simp [initT] at h
  | _ :: _, [], i, ts, is, h => by simp [initT] at h
  | p :: ps, d :: ds, i, ts, is, h => by
    simp only [initT] at h
    split at h
    · rename_i ts' is' h'
      obtain ⟨g1, g2, g3, g4⟩ := initT_spec h'
      have main : ∀ (v : AV), ts = (i, v) :: ts' → initAV i p d = some v → ((initIt p d = none ∧ is = is') ∨ ∃ it, initIt p d = some it ∧ is = (i, it) :: is') →
          (d :: ds).length = (p :: ps).length ∧ Nodup' is ∧ (∀ t, (t < i ∨ i + (p :: ps).length ≤ t) → findT t ts = .s (.one .dead) ∧ t ∉ putNames is) ∧
            ∀ (j : Nat) q e, (p :: ps)[j]? = some q → (d :: ds)[j]? = some e → initAV (i + j) q e = some (findT (i + j) ts) ∧ findI (i + j) is = initIt q e := by
        intro v hts hav his
        subst hts
        have hi : i ∉ putNames is' := (g3 i (.inl (by omega))).2
        refine ⟨by simp [g1], ?_, ?_, ?_⟩
        · rcases his with ⟨_, rfl⟩ | ⟨it, _, rfl⟩
          · exact g2
          · exact ⟨hi, g2⟩
        · intro t ht
          simp only [List.length_cons] at ht
          have hne : t ≠ i := by omega
          obtain ⟨k1, k2⟩ := g3 t (by omega)
          refine ⟨by rw [findT_cons, if_neg hne]; exact k1, ?_⟩
          rcases his with ⟨_, rfl⟩ | ⟨it, _, rfl⟩
          · exact k2
          · simp [putNames, hne, k2]
        · intro j q e hq he
          cases j with
          | zero =>
            simp only [List.getElem?_cons_zero, Option.some.injEq] at hq he
            subst hq; subst he
            rw [Nat.add_zero, findT_cons, if_pos rfl]
            refine ⟨hav, ?_⟩
            rcases his with ⟨h1, rfl⟩ | ⟨it, h1, rfl⟩
            · rw [h1, findI_none hi]
            · rw [h1, findI_cons, if_pos rfl]
          | succ j =>
            simp only [List.getElem?_cons_succ] at hq he
            obtain ⟨k1, k2⟩ := g4 j q e hq he
            have hne : i + (j + 1) ≠ i := by omega
            rw [show i + (j + 1) = i + 1 + j by omega] at hne ⊢
            rw [findT_cons, if_neg hne]
            refine ⟨k1, ?_⟩
            rcases his with ⟨_, rfl⟩ | ⟨it, _, rfl⟩
            · exact k2
            · rw [findI_cons, if_neg hne]; exact k2
      split at h
      · split at h
        · injection h with h; injection h with h1 h2; subst h1; subst h2
          exact main _ rfl rfl (.inl ⟨rfl, rfl⟩)
        · cases h
      · split at h
        · injection h with h; injection h with h1 h2; subst h1; subst h2
          exact main _ rfl rfl (.inr ⟨_, rfl, rfl⟩)
        · cases h
      · split at h
        · injection h with h; injection h with h1 h2; subst h1; subst h2
          exact main _ rfl rfl (.inr ⟨_, rfl, rfl⟩)
        · cases h
      · split at h
        · injection h with h; injection h with h1 h2; subst h1; subst h2
          exact main _ rfl rfl (.inr ⟨_, rfl, rfl⟩)
        · cases h
      · injection h with h; injection h with h1 h2; subst h1; subst h2
        exact main _ rfl rfl (.inl ⟨rfl, rfl⟩)
      · cases h
    · cases h

theorem agree0 {ρ : Rho} {S : Sh} {ρ' : Rho} {S' : Sh} {l : List Nat} (h : l = []) : ∀ n ∈ l, Agree ρ ρ' S S' n := by
  subst h; simp

theorem sim_init {sig : Sig} {ds : List DV} {n : Nat} {ts : List (Nat × AV)} {is : List (Nat × Item)} {w : World} {vs : List Value} {ℓ : Nat → Option (Nat × Nat)} {τ : Nat → Nat}
    (hi : initT 0 sig.ps ds = some (ts, is)) (hA : ArgsRel w sig.ps ds vs ℓ τ) (hle : sig.ps.length ≤ n) :
    Sim w { blk := OwnB sig.ps ℓ, loc := ℓ, tot := τ, sh := AS.S { n := n, lo := sig.ps.length, tmps := ts, items := is } } { loc := ℓ, tot := τ } { n := n, lo := sig.ps.length, tmps := ts, items := is }
      { tmps := vs.toArray ++ Array.replicate (n - vs.toArray.size) undef, defers := [] } w := by
  obtain ⟨g1, g2, g3, g4⟩ := initT_spec hi
  simp only [Nat.zero_add] at g3 g4
  have hlen : vs.length = sig.ps.length := hA.lenV
  -- what is found under a name
  have hfind : ∀ m it, findI m is = some it → ∃ p d v, m < sig.ps.length ∧ sig.ps[m]? = some p ∧ ds[m]? = some d ∧ vs[m]? = some v ∧ initIt p d = some it ∧ ArgRel w p d v (ℓ m) (τ m) := by
    intro m it hm
    have hlt : m < sig.ps.length := by
      by_cases h : m < sig.ps.length
      · exact h
      · have := (g3 m (.inr (by omega))).2
        exact absurd (putNames_iff.2 ⟨it, findI_mem hm⟩) this
    have h1 := List.getElem?_eq_getElem hlt
    have h2 := List.getElem?_eq_getElem (l := ds) (i := m) (by rw [g1]; exact hlt)
    have h3 := List.getElem?_eq_getElem (l := vs) (i := m) (by rw [hlen]; exact hlt)
    obtain ⟨_, k2⟩ := g4 m _ _ h1 h2
    exact ⟨_, _, _, hlt, h1, h2, h3, by rw [← k2]; exact hm, hA.each m _ _ _ h1 h2 h3⟩
  have hS : ∀ m, AS.S { n := n, lo := sig.ps.length, tmps := ts, items := is } m = (findI m is).map Item.shape := fun m => rfl
  refine ⟨rfl, g2, ?_, ?_, ?_, ?_, ?_, ?_, Nat.le_refl _, fun _ _ _ => rfl, fun _ _ => ⟨rfl, rfl, .inl rfl⟩, ⟨rfl, rfl⟩⟩
  · simp; omega
  · intro t
    show RelV _ _ (findT t ts) _
    by_cases ht : t < sig.ps.length
    · have h1 := List.getElem?_eq_getElem ht
      have h2 := List.getElem?_eq_getElem (l := ds) (i := t) (by rw [g1]; exact ht)
      have htv : t < vs.length := by rw [hlen]; exact ht
      have h3 := List.getElem?_eq_getElem htv
      have hget : (vs.toArray ++ Array.replicate (n - vs.toArray.size) undef).getD t undef = vs[t] := by
        rw [Array.getD_eq_getD_getElem?, Array.getElem?_append_left (by simpa using htv)]
        simp [htv]
      show RelV _ _ (findT t ts) ((vs.toArray ++ Array.replicate (n - vs.toArray.size) undef).getD t undef)
      rw [hget]
      obtain ⟨k1, k2⟩ := g4 t _ _ h1 h2
      have hrel := hA.each t _ _ _ h1 h2 h3
      revert k1 k2 hrel
      generalize sig.ps[t] = p
      generalize ds[t]'(by rw [g1]; exact ht) = d
      generalize vs[t] = v
      intro k1 k2 hrel
      cases p with
      | val =>
        cases d with
        | v sv =>
          obtain ⟨e1, e2, e3⟩ := hrel
          simp only [initAV, Option.some.injEq] at k1
          rw [← k1]
          exact RelSV.frame (agree0 e1) e2
        | _ => exact hrel.elim
      | view k es =>
        cases d with
        | lst k' es' xs =>
          obtain ⟨rfl, rfl, e0, m, e1, A, c, rfl, e2, e3, e4, e5⟩ := hrel
          simp only [initAV, Option.some.injEq] at k1
          rw [← k1]
          show RelAt _ _ (.own t) [_]
          simp only [RelAt]
          rw [hS, k2]
          simp only [initIt, Option.map_some, Item.shape]
          refine ⟨A, c, ?_, ?_, ?_⟩
          · rw [e1, rl_mul e0]
          · rw [e1, rl_mul e0]; exact e2
          · intro hpos
            refine e3 ?_
            rw [e1] at hpos
            exact Nat.pos_of_ne_zero fun h0 => by rw [h0] at hpos; simp at hpos
        | _ => exact hrel.elim
      | own k es =>
        cases d with
        | lst k' es' xs =>
          obtain ⟨rfl, rfl, e0, m, e1, c, rfl, e2, e3, e4, e5⟩ := hrel
          simp only [initAV, Option.some.injEq] at k1
          rw [← k1]
          show RelAt _ _ (.own t) [_]
          simp only [RelAt]
          rw [hS, k2]
          simp only [initIt, Option.map_some, Item.shape]
          exact ⟨c, by rw [e1, rl_mul e0], by rw [e1, rl_mul e0]; exact e2, e3, e4⟩
        | _ => exact hrel.elim
      | mt =>
        cases d with
        | obj l =>
          obtain ⟨e0, b, T, cs, e1, rfl, e2, e3⟩ := hrel
          simp only [initAV, Option.some.injEq] at k1
          rw [← k1]
          refine ⟨(b, 0), e1, rfl, ?_⟩
          intro sh hsh L hL
          rw [hS, k2] at hsh
          injection hsh with hsh; subst hsh
          simp [Item.shape, Shape.isObj]
        | nilp =>
          obtain ⟨rfl, _⟩ := hrel
          simp only [initAV, Option.some.injEq] at k1
          rw [← k1]
          rfl
        | _ => exact hrel.elim
    · rw [(g3 t (.inr (by omega))).1]; exact relDead _ _ _
  · intro m it hm
    obtain ⟨p, d, v, h0, h1, h2, h3, h4, hrel⟩ := hfind m it hm
    cases p with
    | val => simp [initIt] at h4
    | view k es =>
      cases d with
      | lst k' es' xs =>
        obtain ⟨rfl, rfl, e0, m, e1, A, c, rfl, e2, e3, e4, e5⟩ := hrel
        simp only [initIt, Option.some.injEq] at h4; subst h4
        exact ⟨e0, ⟨m, e1⟩, e4⟩
      | _ => exact hrel.elim
    | own k es =>
      cases d with
      | lst k' es' xs =>
        obtain ⟨rfl, rfl, e0, m, e1, c, rfl, e2, e3, e4, e5⟩ := hrel
        simp only [initIt, Option.some.injEq] at h4; subst h4
        exact ⟨e0, ⟨m, e1⟩, e5⟩
      | _ => exact hrel.elim
    | mt =>
      cases d with
      | obj l =>
        obtain ⟨e0, b, T, cs, e1, rfl, e2, e3⟩ := hrel
        simp only [initIt, Option.some.injEq] at h4; subst h4
        exact ⟨b, T, cs, e1, e2, e3.frame (agree0 e0)⟩
      | nilp => simp [initIt] at h4
      | _ => exact hrel.elim
  · intro m it q hm ho hq
    obtain ⟨p, d, v, h0, h1, h2, h3, h4, hrel⟩ := hfind m it hm
    right
    exact ⟨m, p, q, h1, initIt_owned h4 ho, hq, rfl⟩
  · intro m m' it it' q r hm hm' ho hne hq hr
    obtain ⟨p, d, v, h0, h1, h2, h3, h4, hrel⟩ := hfind m it hm
    exact hA.sep m m' p q r hne h1 (initIt_owned h4 ho) hq hr
  · intro m it q hm hq
    obtain ⟨p, d, v, h0, h1, h2, h3, h4, hrel⟩ := hfind m it hm
    cases p with
    | val => simp [initIt] at h4
    | view k es =>
      cases d with
      | lst k' es' xs =>
        obtain ⟨rfl, rfl, e0, m, e1, A, c, rfl, e2, e3, e4, e5⟩ := hrel
        exact e5 q hq
      | _ => exact hrel.elim
    | own k es =>
      cases d with
      | lst k' es' xs =>
        obtain ⟨rfl, rfl, e0, m, e1, c, rfl, e2, e3, e4, e5⟩ := hrel
        rcases e5 with ⟨e5, _⟩ | ⟨b, T, sp, e5, e6, _⟩
        · rw [show ℓ _ = some q from hq] at e5; cases e5
        · rw [show ℓ _ = some q from hq] at e5; injection e5 with e5; subst e5
          exact (Array.getElem?_eq_some_iff.1 e6).1
      | _ => exact hrel.elim
    | mt =>
      cases d with
      | obj l =>
        obtain ⟨e0, b, T, cs, e1, rfl, e2, e3⟩ := hrel
        rw [show ℓ _ = some q from hq] at e1; injection e1 with e1; subst e1
        exact (Array.getElem?_eq_some_iff.1 e2).1
      | nilp => simp [initIt] at h4
      | _ => exact hrel.elim

end

end Go.Eng

/- The engine, part X: what a function hands back. -/
namespace Go.Eng
open Go

section
variable {P : Program} {w0 : World} {Mu : MuT} {ρ : Rho} {s : AS} {a : Act} {w : World}

/-! ### the results' values -/

def resRun (tmps : Array Value) (r : ResultVar) : Sem Value := match r with
  | .tmp t => pure (tmps.getD t undef)
  | .cell a t => do loadVar t (← asAddr (tmps.getD a undef))

theorem results_eq (fn : Func) (tmps : Array Value) (w : World) {Xs : List Value} (h : (fn.results.toList.mapM (resRun tmps)).run P w = .ok Xs w) :
    (results fn tmps).run P w = .ok (resVal Xs) w := by
  have e : results fn tmps = (do let vs ← fn.results.mapM (resRun tmps); pure (if h : vs.size = 1 then vs[0] else .tuple vs)) := rfl
  rw [e, Array.mapM_eq_mapM_toList]
  simp only [Sem.run_bind, map_eq_pure_bind, h, Result.andThen_ok, Sem.run_pure]
  cases Xs with
  | nil => rfl
  | cons x l => cases l with
    | nil => rfl
    | cons y l => rfl

theorem mapM_run {tmps : Array Value} : ∀ {rv : List ResultVar} {Xs : List Value}, Xs.length = rv.length → (∀ (i : Nat) r X, rv[i]? = some r → Xs[i]? = some X → (resRun tmps r).run P w = .ok X w) → (rv.mapM (resRun tmps)).run P w = .ok Xs w
  | [], [], _, _ => by simp
  | [], _ :: _, h, _ => by simp at h
  | _ :: _, [], h, _ => by simp at h
  | r :: rv, X :: Xs, h, hr => by
    rw [List.mapM_cons]
    have h1 := hr 0 r X rfl rfl
    have h2 := mapM_run (rv := rv) (Xs := Xs) (by simpa using h) (fun i r' X' e1 e2 => hr (i + 1) r' X' (by simpa using e1) (by simpa using e2))
    simp only [Sem.run_bind, h1, Result.andThen_ok, h2, Sem.run_pure]

theorem resSV_spec {Θ : Types} (hΘ : TypesOk P Θ) (hs : Sim w0 Mu ρ s a w) : ∀ {rv : List ResultVar} {vs : List SV}, resSV Θ s rv = some vs →
    ∃ Xs : List Value, Xs.length = rv.length ∧ vs.length = rv.length ∧ (∀ (i : Nat) sv X, vs[i]? = some sv → Xs[i]? = some X → RelSV ρ s.S sv X) ∧ (rv.mapM (resRun a.tmps)).run P w = .ok Xs w := by
  intro rv
  induction rv with
  | nil =>
    intro vs h
    simp only [resSV] at h; injection h with h; subst h
    exact ⟨[], rfl, rfl, by simp, by simp⟩
  | cons r rv ih =>
    intro vs h
    simp only [resSV] at h
    split at h
    · rename_i vs' h'
      obtain ⟨Xs, g1, g2, g3, g4⟩ := ih h'
      have main : ∀ sv X, RelSV ρ s.S sv X → (resRun a.tmps r).run P w = .ok X w → vs = sv :: vs' → ∃ Xs : List Value, Xs.length = (r :: rv).length ∧ vs.length = (r :: rv).length ∧ (∀ (i : Nat) sv X, vs[i]? = some sv → Xs[i]? = some X → RelSV ρ s.S sv X) ∧ ((r :: rv).mapM (resRun a.tmps)).run P w = .ok Xs w := by
        rintro sv X h1 h2 rfl
        refine ⟨X :: Xs, by simp [g1], by simp [g2], ?_, ?_⟩
        · intro i sv' X' e1 e2
          cases i with
          | zero =>
            simp only [List.getElem?_cons_zero, Option.some.injEq] at e1 e2
            subst e1; subst e2; exact h1
          | succ i => exact g3 i sv' X' (by simpa using e1) (by simpa using e2)
        · rw [List.mapM_cons]
          simp only [Sem.run_bind, h2, Result.andThen_ok, g4, Sem.run_pure]
      cases r with
      | tmp t =>
        simp only at h
        split at h
        · rename_i v hv
          injection h with h
          have := hs.rel t
          rw [hv] at this
          exact main v _ this (by simp [resRun]) h.symm
        · cases h
      | cell b t =>
        simp only at h
        split at h
        · rename_i ti n b' o z ht hT
          split at h
          · rename_i it hi
            split at h
            · rename_i hz
              split at h
              · rename_i v hv
                injection h with h
                have := hs.rel b
                rw [hT] at this
                simp only [RelV, RelSV, RelAt, List.cons.injEq, and_true] at this
                obtain ⟨p, e1, e2, e3⟩ := this
                obtain ⟨y, h4, h5⟩ := load_sound (hΘ t ti ht) (hs.hold n it hi) (S_of hi) e1 e3 (ble_iff.1 hz) hv
                refine main v y h5 ?_ h.symm
                simp only [resRun, Sem.run_bind, e2]
                simp [asAddr, h4]
              · cases h
            · cases h
          · cases h
        · cases h
    · cases h

/-! ### one result -/

def locU (ρ : Rho) : List Nat → Option (Nat × Nat)
  | [n] => ρ.loc n
  | _ => none
def totU (ρ : Rho) : List Nat → Nat
  | [n] => ρ.tot n
  | _ => 0

theorem outOf_ok (hs : Sim w0 Mu ρ s a w) {r : RM} (hr : ∀ k es, r = .fresh k es → 0 < es) {v : SV} {X : Value} (hv : RelSV ρ s.S v X) {o : DV} {u : List Nat} (h : outOf s.I r v = some (o, u)) :
    ResRel w r o X (locU ρ u) (totU ρ u) ∧ (u = [] ∨ ∃ n it, u = [n] ∧ s.I n = some it ∧ it.owned = true) := by
  unfold outOf at h
  split at h
  · split at h
    · rename_i hn
      injection h with h; injection h with h1 h2; subst h1; subst h2
      exact ⟨⟨hn, hv.frame (agree0 hn), rfl⟩, .inl rfl⟩
    · cases h
  · rename_i k es a'
    have hpos := hr k es rfl
    split at h
    · injection h with h; injection h with h1 h2; subst h1; subst h2
      simp only [RelSV, RelAt, List.cons.injEq, and_true] at hv
      refine ⟨⟨rfl, rfl, hpos, 0, by simp, 0, by rw [hv]; rfl, Nat.le_refl _, fun _ => rfl, by simp, .inl ⟨rfl, rfl, rfl⟩⟩, .inl rfl⟩
    · rename_i n
      split at h
      · rename_i k' es' xs hi
        split at h
        · rename_i hb
          simp only [Bool.and_eq_true] at hb
          have e1 := kindEq_iff.1 hb.1; have e2 := beqT hb.2
          subst e1; subst e2
          injection h with h; injection h with h1 h2; subst h1; subst h2
          obtain ⟨f1, ⟨m, f2⟩, f3⟩ := hs.hold n _ hi
          simp only [RelSV, RelAt, S_of hi, Item.shape] at hv
          obtain ⟨c, g1, g2, g3, g4⟩ := hv
          rw [f2, rl_mul f1] at g1 g2
          injection g1 with g1
          exact ⟨⟨rfl, rfl, f1, m, f2, c, g1, g2, g3, g4, f3⟩, .inr ⟨n, _, rfl, hi, rfl⟩⟩
        · cases h
      · cases h
    · cases h
  · rename_i a'
    split at h
    · injection h with h; injection h with h1 h2; subst h1; subst h2
      simp only [RelSV, RelAt, List.cons.injEq, and_true] at hv
      exact ⟨⟨hv, rfl⟩, .inl rfl⟩
    · rename_i n b o z
      split at h
      · rename_i l hi
        split at h
        · rename_i hn hz
          injection h with h; injection h with h1 h2; subst h1; subst h2
          simp only [RelSV, RelAt, List.cons.injEq, and_true] at hv
          obtain ⟨p, g1, g2, g3⟩ := hv
          obtain ⟨b, T, cs, f1, f2, f3⟩ := hs.hold n _ hi
          rw [f1] at g1; injection g1 with g1; subst g1
          exact ⟨⟨hn, b, T, cs, f1, g2, f2, f3.frame (agree0 hn)⟩, .inr ⟨n, _, rfl, hi, rfl⟩⟩
        · cases h
      · cases h
    · cases h
  · cases h

theorem outsOf_spec {I : Nat → Option Item} : ∀ {rs : List RM} {vs : List SV} {os : List DV} {us : List Nat}, outsOf I rs vs = some (os, us) →
    os.length = rs.length ∧ vs.length = rs.length ∧ ∃ U : List (List Nat), U.length = rs.length ∧ us = U.flatten ∧ (∀ (j : Nat) r v o u, rs[j]? = some r → vs[j]? = some v → os[j]? = some o → U[j]? = some u → outOf I r v = some (o, u)) ∧
      (∀ (i j : Nat) u u' n, i ≠ j → U[i]? = some u → U[j]? = some u' → n ∈ u → n ∉ u')
  | [], [], os, us, h => by
    simp only [outsOf] at h
    injection h with h; injection h with h1 h2; subst h1; subst h2
    exact ⟨rfl, rfl, [], rfl, rfl, by simp, by simp⟩
  | [], _ :: _, os, us, h => by simp [outsOf] at h
  | _ :: _, [], os, us, h => by simp [outsOf] at h
  | r :: rs, v :: vs, os, us, h => by
    simp only [outsOf] at h
    split at h
    · rename_i d u ds us' h1 h2
      split at h
      · rename_i hd
        injection h with h; injection h with e1 e2; subst e1; subst e2
        obtain ⟨g1, g2, U, g3, g4, g5, g6⟩ := outsOf_spec h2
        refine ⟨by simp [g1], by simp [g2], u :: U, by simp [g3], by simp [g4], ?_, ?_⟩
        · intro j r' v' o' u' a1 a2 a3 a4
          cases j with
          | zero =>
            simp only [List.getElem?_cons_zero, Option.some.injEq] at a1 a2 a3 a4
            subst a1; subst a2; subst a3; subst a4; exact h1
          | succ j => exact g5 j r' v' o' u' (by simpa using a1) (by simpa using a2) (by simpa using a3) (by simpa using a4)
        · have hmem : ∀ (j : Nat) u', U[j]? = some u' → ∀ n ∈ u', n ∈ us' := by
            intro j u' hj n hn
            rw [g4]; exact List.mem_flatten.2 ⟨u', List.mem_of_getElem? hj, hn⟩
          intro i j u1 u2 n hne a1 a2 hn hn'
          cases i with
          | zero =>
            cases j with
            | zero => exact hne rfl
            | succ j =>
              simp only [List.getElem?_cons_zero, Option.some.injEq] at a1
              subst a1
              exact disj_iff.1 hd n hn (hmem j u2 (by simpa using a2) n hn')
          | succ i =>
            cases j with
            | zero =>
              simp only [List.getElem?_cons_zero, Option.some.injEq] at a2
              subst a2
              exact disj_iff.1 hd n hn' (hmem i u1 (by simpa using a1) n hn)
            | succ j => exact g6 i j u1 u2 n (by omega) (by simpa using a1) (by simpa using a2) hn hn'
      · cases h
    · cases h

theorem mutOuts_ok (hs : Sim w0 Mu ρ s a w) {lo : Nat} (hlo : s.lo = lo) : ∀ {ps : List PM} {ds ms : List DV} {i : Nat}, i + ps.length ≤ lo → mutOuts s.I i ps ds = some ms → MutRel w Mu.loc i ps ds ms
  | [], [], ms, i, _, h => by
    simp only [mutOuts] at h
    injection h with h; exact h.symm
  | [], _ :: _, _, _, _, h => by simp [mutOuts] at h
  | _ :: _, [], _, _, _, h => by simp [mutOuts] at h
  | p :: ps, d :: ds, ms, i, hle, h => by
    simp only [mutOuts] at h
    split at h
    · rename_i r h'
      simp only [List.length_cons] at hle
      have ih := mutOuts_ok hs hlo (by omega) h'
      split at h
      · rename_i l0
        split at h
        · rename_i l hi
          split at h
          · rename_i hf hn
            injection h with h; subst h
            obtain ⟨b, T, cs, f1, f2, f3⟩ := hs.hold i _ hi
            refine ⟨l, r, rfl, hn, (formEq_forms hf).symm, ⟨b, T, cs, ?_, f2, f3.frame (agree0 hn)⟩, ih⟩
            rw [← (hs.pin i (.inl (by omega))).1]; exact f1
          · cases h
        · cases h
      · injection h with h; subst h
        exact ⟨r, rfl, ih⟩
      · cases h
      · rename_i hx hy hz
        injection h with h; subst h
        cases p with
        | mt => exact (hx rfl).elim
        | _ => exact ih
    · cases h

theorem mut_named {I : Nat → Option Item} {l0 : List At} : ∀ {ps : List PM} {ds ms : List DV} {i j : Nat}, mutOuts I i ps ds = some ms → ps[j]? = some .mt → ds[j]? = some (.obj l0) →
    ∃ l, I (i + j) = some (.obj l) ∧ i + j ∈ mutNames i ps ds
  | [], _, _, _, _, _, h, _ => by simp at h
  | _ :: _, [], _, _, _, _, _, h => by simp at h
  | p :: ps, d :: ds, ms, i, j, h, h1, h2 => by
    simp only [mutOuts] at h
    split at h
    · rename_i r h'
      cases j with
      | zero =>
        simp only [List.getElem?_cons_zero, Option.some.injEq] at h1 h2
        subst h1; subst h2
        simp only at h
        split at h
        · rename_i l hi
          exact ⟨l, hi, by simp [mutNames]⟩
        · cases h
      | succ j =>
        obtain ⟨l, g1, g2⟩ := mut_named (j := j) h' (by simpa using h1) (by simpa using h2)
        rw [show i + (j + 1) = i + 1 + j by omega]
        refine ⟨l, g1, ?_⟩
        unfold mutNames
        split
        · rename_i e1 e2
          injection e1 with _ e1; injection e2 with _ e2; subst e1; subst e2
          exact .tail _ g2
        · rename_i e1 e2
          injection e1 with _ e1; injection e2 with _ e2; subst e1; subst e2
          exact g2
        · rename_i hne; exact absurd rfl (hne _ _ _ _ rfl)
    · cases h

/-! ### the contract -/

theorem call_contract {E : Env} (hΘ : TypesOk P E.Θ) (hΓ : CtxOk P E.Γ) (hm : P.follows .mixedOrders = true) {g n : Nat} {fn : Func} {sig : Sig} {body : Code} {rv : List ResultVar}
    (hf : P.funcs[g]? = some fn) (hb : fn.body = some body) (hn : fn.ntmps = n) (hrv : fn.results.toList = rv) (hname : fn.name ≠ "runtime.NumGoroutine") (hsig : sigOk sig = true) (hle : sig.ps.length ≤ n) (hlp : LoopsOk P E.lp body) :
    Contract P g { sig := sig, impl := fun _ ds k => call E sig n body rv ds k } := by
  intro R ds k r h
  simp only at h
  unfold call at h
  split at h
  · rename_i ts is hi
    obtain ⟨e, s', h1, h2⟩ := (exec_sound hΘ hΓ hm body hlp).1 _ _ _ h
    have key : ∃ vs os us ms, e ≠ .exit 0 ∧ (∀ i, e ≠ .exit i) ∧ resSV E.Θ s' rv = some vs ∧ outsOf s'.I sig.rs vs = some (os, us) ∧ mutOuts s'.I 0 sig.ps ds = some ms ∧ disj us (mutNames 0 sig.ps ds) = true ∧ k (os ++ ms) = some r ∧ s'.lo = sig.ps.length := by
      unfold retK at h1
      split at h1
      · cases h1
      · rename_i he
        split at h1
        · cases h1
        · rename_i hlo
          split at h1
          · rename_i vs hvs
            split at h1
            · rename_i os us ms ho hmm
              split at h1
              · rename_i hd
                exact ⟨vs, os, us, ms, fun h => he _ h, fun i h => he i h, hvs, ho, hmm, hd, h1, beqT hlo⟩
              · cases h1
            · cases h1
          · cases h1
    obtain ⟨vs, os, us, ms, _, he, hvs, ho, hmo, hd, hk, hlo⟩ := key
    refine ⟨os ++ ms, hk, ?_⟩
    intro w xs ℓ τ hA
    subst hn
    refine .inl ⟨⟨fn, hf, by rw [hb]; rfl, hname⟩, ?_⟩
    refine calls_of_wp hf hb ?_
    have hs0 := sim_init hi hA hle
    refine reaches_iff.1 h2 w _ _ _ _ _ hs0 ?_
    intro a' w' ρ' hs
    obtain ⟨Xs, x1, x2, x3, x4⟩ := resSV_spec hΘ hs hvs
    have hpost : a'.defers = [] ∧ ∃ v, (results fn a'.tmps).run P w' = .ok v w' ∧ ∃ v', Ending.returned v = .returned v' ∧ Post w w' sig ds (os ++ ms) ℓ v' := by
      refine ⟨hs.defers, resVal Xs, results_eq fn _ _ (by rw [hrv]; exact x4), resVal Xs, rfl, ?_⟩
      obtain ⟨o1, o2, U, o3, o4, o5, o6⟩ := outsOf_spec ho
      have hrs : ∀ k es, ∀ r ∈ sig.rs, r = .fresh k es → 0 < es := by
        intro k es r hr e
        simp only [sigOk, Bool.and_eq_true, List.all_eq_true] at hsig
        have := hsig.2.2 r hr
        rw [e] at this
        exact ble_iff.1 this
      have hU : ∀ (j : Nat) u, U[j]? = some u → ∃ r v o X, sig.rs[j]? = some r ∧ vs[j]? = some v ∧ os[j]? = some o ∧ Xs[j]? = some X ∧ j < sig.rs.length ∧ ResRel w' r o X (locU ρ' u) (totU ρ' u) ∧ (u = [] ∨ ∃ n it, u = [n] ∧ s'.I n = some it ∧ it.owned = true) := by
        intro j u hu
        have hj : j < sig.rs.length := by rw [← o3]; exact (List.getElem?_eq_some_iff.1 hu).1
        have e1 := List.getElem?_eq_getElem hj
        have e2 := List.getElem?_eq_getElem (l := vs) (i := j) (by omega)
        have e3 := List.getElem?_eq_getElem (l := os) (i := j) (by omega)
        have e4 := List.getElem?_eq_getElem (l := Xs) (i := j) (by omega)
        have := outOf_ok hs (r := sig.rs[j]) (fun k es e => hrs k es _ (List.getElem_mem hj) e) (x3 j _ _ e2 e4) (o5 j _ _ _ _ e1 e2 e3 hu)
        exact ⟨_, _, _, _, e1, e2, e3, e4, hj, this⟩
      refine ⟨⟨Xs, os, ms, fun j => locU ρ' ((U[j]?).getD []), fun j => totU ρ' ((U[j]?).getD []), rfl, rfl, o1, by omega, ?_, ?_, ?_, ?_⟩, hs.mono, hs.frame, hs.still⟩
      · intro j r' o' X' a1 a2 a3
        have hj : j < U.length := by rw [o3]; exact (List.getElem?_eq_some_iff.1 a1).1
        have hu := List.getElem?_eq_getElem hj
        obtain ⟨r2, v2, o2', X2, b1, b2, b3, b4, _, b5, _⟩ := hU j _ hu
        rw [a1] at b1; injection b1 with b1; subst b1
        rw [a2] at b3; injection b3 with b3; subst b3
        rw [a3] at b4; injection b4 with b4; subst b4
        simp only [hu]; exact b5
      · intro j q hq
        have hq : locU ρ' ((U[j]?).getD []) = some q := hq
        cases hu : U[j]? with
        | none => rw [hu] at hq; cases hq
        | some u =>
          rw [hu] at hq
          obtain ⟨_, _, _, _, _, _, _, _, hj, _, b6⟩ := hU j u hu
          rcases b6 with rfl | ⟨m, it, rfl, b7, b8⟩
          · cases hq
          · have hq : ρ'.loc m = some q := hq
            refine ⟨hj, hs.lt m it q b7 hq, ?_⟩
            rcases hs.own m it q b7 b8 hq with h | ⟨i, p, q', c1, c2, c3, c4⟩
            · exact .inl h
            · right
              cases p with
              | val => cases c2
              | view k es => cases c2
              | own k es => exact ⟨i, k, es, q', c1, c3, c4⟩
              | mt =>
                exfalso
                -- a pointer's own block is no result
                have hil := (List.getElem?_eq_some_iff.1 c1).1
                have hdl := List.getElem?_eq_getElem (l := ds) (i := i) (by rw [hA.lenD]; exact hil)
                have hxl := List.getElem?_eq_getElem (l := xs) (i := i) (by rw [hA.lenV]; exact hil)
                have hrel := hA.each i _ _ _ c1 hdl hxl
                obtain ⟨l0, hd0⟩ : ∃ l0, ds[i]? = some (.obj l0) := by
                  rw [hdl]
                  revert hrel
                  generalize ds[i]'(by rw [hA.lenD]; exact hil) = d0
                  intro hrel
                  cases d0 with
                  | obj l => exact ⟨l, rfl⟩
                  | nilp => rw [hrel.2] at c3; cases c3
                  | _ => exact hrel.elim
                obtain ⟨l, hl, hin⟩ := mut_named hmo c1 hd0
                rw [Nat.zero_add] at hl hin
                have hne : m ≠ i := by
                  intro e; subst e
                  have hmem : m ∈ us := by rw [o4]; exact List.mem_flatten.2 ⟨_, List.mem_of_getElem? hu, .head _⟩
                  exact disj_iff.1 hd m hmem hin
                have hpin : ρ'.loc i = ℓ i := (hs.pin i (.inl (by rw [hlo]; exact hil))).1
                exact hs.sep m i it _ q q' b7 hl b8 hne hq (by rw [hpin]; exact c3) c4.symm
      · intro i j q r' hne hq hr'
        have hq : locU ρ' ((U[i]?).getD []) = some q := hq
        have hr' : locU ρ' ((U[j]?).getD []) = some r' := hr'
        cases hu : U[i]? with
        | none => rw [hu] at hq; cases hq
        | some u =>
          cases hu' : U[j]? with
          | none => rw [hu'] at hr'; cases hr'
          | some u' =>
            rw [hu] at hq; rw [hu'] at hr'
            obtain ⟨_, _, _, _, _, _, _, _, _, _, b6⟩ := hU i u hu
            obtain ⟨_, _, _, _, _, _, _, _, _, _, d6⟩ := hU j u' hu'
            rcases b6 with rfl | ⟨m, it, rfl, b7, b8⟩
            · cases hq
            · rcases d6 with rfl | ⟨m', it', rfl, d7, d8⟩
              · cases hr'
              · have hmm : m ≠ m' := fun e => o6 i j _ _ m hne hu hu' (.head _) (by rw [e]; exact .head _)
                exact hs.sep m m' it it' q r' b7 d7 b8 hmm hq hr'
      · exact mutOuts_ok hs hlo (by omega) hmo
    cases e with
    | normal => exact hpost
    | ret => exact hpost
    | exit i => exact absurd rfl (he i)
  · cases h

end

end Go.Eng

/- The engine, part Y: shapes of states; loops that are known. -/
namespace Go.Eng
open Go

inductive Leaf where
  | i (x : Int)
  | b (x : Bool)
  | l (x : List Int)

inductive Hole where
  | int (k : IntKind)
  | bool
  | ints (k : IntKind) (m : Nat)
  | fix (a : At)

inductive HV where
  | one (h : Hole)
  | agg (l : List Hole)

inductive ISh where
  | obj (l : List Hole)
  | row (k : IntKind) (es : Nat)
  | view (k : IntKind) (es : Nat)
  | tab (l : List Hole)

structure Shp where
  n : Nat
  lo : Nat
  slots : List (Nat × HV)
  items : List (Nat × ISh)

def At.eqb : At → At → Bool
  | .own n, .own m => Nat.beq n m
  | .nils, .nils => true
  | .nilp, .nilp => true
  | .dead, .dead => true
  | .ptr n b .z z, .ptr m c .z y => Nat.beq n m && (Nat.beq b c && Nat.beq z y)
  | _, _ => false

theorem At.eqb_eq {a c : At} (h : a.eqb c = true) : a = c := by
  unfold At.eqb at h
  split at h
  · rw [beqT h]
  · rfl
  · rfl
  · rfl
  · simp only [Bool.and_eq_true] at h
    rw [beqT h.1, beqT h.2.1, beqT h.2.2]
  · cases h

def takeH : Hole → At → Option (List Leaf)
  | .int k, .int k' x => match kindEq k k' with | true => some [.i x] | false => none
  | .bool, .bool x => some [.b x]
  | .ints k m, .ints k' m' xs => match kindEq k k' && Nat.beq m m' with | true => some [.l xs] | false => none
  | .fix a, c => match a.eqb c with | true => some [] | false => none
  | _, _ => none

def fillH : Hole → List Leaf → At × List Leaf
  | .int k, .i x :: r => (.int k x, r)
  | .bool, .b x :: r => (.bool x, r)
  | .ints k m, .l xs :: r => (.ints k m xs, r)
  | .fix a, r => (a, r)
  | _, r => (.dead, r)

theorem takeH_fill {h : Hole} {a : At} {ls : List Leaf} (r : List Leaf) (e : takeH h a = some ls) : fillH h (ls ++ r) = (a, r) := by
  unfold takeH at e
  split at e
  · split at e
    · rename_i hk
      injection e with e; subst e; rw [kindEq_iff.1 hk]; rfl
    · cases e
  · injection e with e; subst e; rfl
  · split at e
    · rename_i hk
      simp only [Bool.and_eq_true] at hk
      injection e with e; subst e; rw [kindEq_iff.1 hk.1, beqT hk.2]; rfl
    · cases e
  · split at e
    · rename_i hk
      injection e with e; subst e; rw [At.eqb_eq hk]; rfl
    · cases e
  · cases e

def takeHs : List Hole → List At → Option (List Leaf)
  | [], [] => some []
  | h :: hs, a :: az => match takeH h a with
    | some l => match takeHs hs az with
      | some m => some (l ++ m)
      | none => none
    | none => none
  | _, _ => none

def fillHs : List Hole → List Leaf → List At × List Leaf
  | [], r => ([], r)
  | h :: hs, r => match fillH h r with
    | (a, r) => match fillHs hs r with
      | (az, r) => (a :: az, r)

theorem takeHs_fill : ∀ {hs : List Hole} {az : List At} {ls : List Leaf} (r : List Leaf), takeHs hs az = some ls → fillHs hs (ls ++ r) = (az, r)
  | [], [], ls, r, e => by simp only [takeHs] at e; injection e with e; subst e; rfl
  | [], _ :: _, _, _, e => by simp [takeHs] at e
  | _ :: _, [], _, _, e => by simp [takeHs] at e
  | h :: hs, a :: az, ls, r, e => by
    simp only [takeHs] at e
    split at e
    · rename_i l h1
      split at e
      · rename_i m h2
        injection e with e; subst e
        simp only [fillHs, List.append_assoc, takeH_fill _ h1, takeHs_fill r h2]
      · cases e
    · cases e

def takeV : HV → AV → Option (List Leaf)
  | .one h, .s (.one a) => takeH h a
  | .agg hs, .s (.agg l) => takeHs hs l
  | _, _ => none

def fillV : HV → List Leaf → AV × List Leaf
  | .one h, r => match fillH h r with | (a, r) => (.s (.one a), r)
  | .agg hs, r => match fillHs hs r with | (l, r) => (.s (.agg l), r)

theorem takeV_fill {h : HV} {v : AV} {ls : List Leaf} (r : List Leaf) (e : takeV h v = some ls) : fillV h (ls ++ r) = (v, r) := by
  unfold takeV at e
  split at e
  · simp only [fillV, takeH_fill r e]
  · simp only [fillV, takeHs_fill r e]
  · cases e

def takeSl : List (Nat × HV) → List (Nat × AV) → Option (List Leaf)
  | [], [] => some []
  | (t, h) :: hs, (u, a) :: az => match Nat.beq t u, takeV h a with
    | true, some l => match takeSl hs az with
      | some m => some (l ++ m)
      | none => none
    | _, _ => none
  | _, _ => none

def fillSl : List (Nat × HV) → List Leaf → List (Nat × AV) × List Leaf
  | [], r => ([], r)
  | (t, h) :: hs, r => match fillV h r with
    | (a, r) => match fillSl hs r with
      | (az, r) => ((t, a) :: az, r)

theorem takeSl_fill : ∀ {hs : List (Nat × HV)} {az : List (Nat × AV)} {ls : List Leaf} (r : List Leaf), takeSl hs az = some ls → fillSl hs (ls ++ r) = (az, r)
  | [], [], ls, r, e => by simp only [takeSl] at e; injection e with e; subst e; rfl
  | [], _ :: _, _, _, e => by simp [takeSl] at e
  | _ :: _, [], _, _, e => by simp [takeSl] at e
  | (t, h) :: hs, (u, a) :: az, ls, r, e => by
    simp only [takeSl] at e
    split at e
    · rename_i l hb h1
      split at e
      · rename_i m h2
        injection e with e; subst e
        have := beqT hb; subst this
        simp only [fillSl, List.append_assoc, takeV_fill _ h1, takeSl_fill r h2]
      · cases e
    · cases e

def takeIS : ISh → Item → Option (List Leaf)
  | .obj hs, .obj l => takeHs hs l
  | .tab hs, .tab l => takeHs hs l
  | .row k es, .row k' es' xs => match kindEq k k' && Nat.beq es es' with | true => some [.l xs] | false => none
  | .view k es, .view k' es' xs => match kindEq k k' && Nat.beq es es' with | true => some [.l xs] | false => none
  | _, _ => none

def fillI : ISh → List Leaf → Item × List Leaf
  | .obj hs, r => match fillHs hs r with | (l, r) => (.obj l, r)
  | .tab hs, r => match fillHs hs r with | (l, r) => (.tab l, r)
  | .row k es, .l xs :: r => (.row k es xs, r)
  | .view k es, .l xs :: r => (.view k es xs, r)
  | _, r => (.obj [], r)

theorem takeI_fill {h : ISh} {v : Item} {ls : List Leaf} (r : List Leaf) (e : takeIS h v = some ls) : fillI h (ls ++ r) = (v, r) := by
  unfold takeIS at e
  split at e
  · simp only [fillI, takeHs_fill r e]
  · simp only [fillI, takeHs_fill r e]
  · split at e
    · rename_i hk
      simp only [Bool.and_eq_true] at hk
      injection e with e; subst e; rw [kindEq_iff.1 hk.1, beqT hk.2]; rfl
    · cases e
  · split at e
    · rename_i hk
      simp only [Bool.and_eq_true] at hk
      injection e with e; subst e; rw [kindEq_iff.1 hk.1, beqT hk.2]; rfl
    · cases e
  · cases e

def takeIs : List (Nat × ISh) → List (Nat × Item) → Option (List Leaf)
  | [], [] => some []
  | (t, h) :: hs, (u, a) :: az => match Nat.beq t u, takeIS h a with
    | true, some l => match takeIs hs az with
      | some m => some (l ++ m)
      | none => none
    | _, _ => none
  | _, _ => none

def fillIs : List (Nat × ISh) → List Leaf → List (Nat × Item) × List Leaf
  | [], r => ([], r)
  | (t, h) :: hs, r => match fillI h r with
    | (a, r) => match fillIs hs r with
      | (az, r) => ((t, a) :: az, r)

theorem takeIs_fill : ∀ {hs : List (Nat × ISh)} {az : List (Nat × Item)} {ls : List Leaf} (r : List Leaf), takeIs hs az = some ls → fillIs hs (ls ++ r) = (az, r)
  | [], [], ls, r, e => by simp only [takeIs] at e; injection e with e; subst e; rfl
  | [], _ :: _, _, _, e => by simp [takeIs] at e
  | _ :: _, [], _, _, e => by simp [takeIs] at e
  | (t, h) :: hs, (u, a) :: az, ls, r, e => by
    simp only [takeIs] at e
    split at e
    · rename_i l hb h1
      split at e
      · rename_i m h2
        injection e with e; subst e
        have := beqT hb; subst this
        simp only [fillIs, List.append_assoc, takeI_fill _ h1, takeIs_fill r h2]
      · cases e
    · cases e

def proj (σ : Shp) (s : AS) : Option (List Leaf) := match Nat.beq σ.n s.n && Nat.beq σ.lo s.lo, takeSl σ.slots s.tmps, takeIs σ.items s.items with
  | true, some a, some b => some (a ++ b)
  | _, _, _ => none

def fill (σ : Shp) (ls : List Leaf) : AS := match fillSl σ.slots ls with
  | (ts, r) => { n := σ.n, lo := σ.lo, tmps := ts, items := (fillIs σ.items r).1 }

theorem proj_fill {σ : Shp} {s : AS} {ls : List Leaf} (h : proj σ s = some ls) : fill σ ls = s := by
  unfold proj at h
  split at h
  · rename_i a b hn ha hb
    injection h with h; subst h
    simp only [Bool.and_eq_true] at hn
    have e1 := beqT hn.1; have e2 := beqT hn.2
    have h3 := takeIs_fill [] hb
    rw [List.append_nil] at h3
    simp only [fill, takeSl_fill b ha, h3, e1, e2]
  · cases h

/-- a loop, from what it makes of the leaves at its head -/
def mkL (ν : Nrm) (σ : Shp) (F : (R : Type) → List Leaf → (X → AS → Option R) → Option R) : LoopFn := fun R s k =>
  match nrm ν s with
  | some s' => match proj σ s' with
    | some ls => F R ls k
    | none => none
  | none => none

/-- so many rounds of a loop's body -/
def roundsOf {R : Type} (E : Env) (ν : Nrm) (id : Nat) (body : Code) (k : X → AS → Option R) (fuel : Nat) (s : AS) : Option R := iter ν (fun s k => exec E body s k) id k fuel s

theorem loopOk_of {P : Program} {E : Env} (hΘ : TypesOk P E.Θ) (hΓ : CtxOk P E.Γ) (hm : P.follows .mixedOrders = true) {ν : Nrm} {σ : Shp} {id : Nat} {body : Code} {F : (R : Type) → List Leaf → (X → AS → Option R) → Option R}
    (hlp : LoopsOk P E.lp body) (h : ∀ R ls k r, F R ls k = some r → ∃ fuel, roundsOf E ν id body k fuel (fill σ ls) = some r) : LoopOk P (mkL ν σ F) id body := by
  intro R s k r hk
  unfold mkL at hk
  split at hk
  · rename_i s' hn
    split at hk
    · rename_i ls hp
      obtain ⟨fuel, hf⟩ := h R ls k r hk
      rw [proj_fill hp] at hf
      have hb : ∀ (s : AS) (k : X → AS → Option R) (r : R), exec E body s k = some r → ∃ e s', k e s' = some r ∧ Reaches P body s e s' := (exec_sound hΘ hΓ hm body hlp).1
      obtain ⟨e, s'', h1, h2⟩ := iter_rounds hb _ _ _ hf
      obtain ⟨he, n, hw⟩ := rounds_wp h2
      have hl : ∀ w0 Mu ρ a w (Q : Exit → Act → World → Prop), Sim w0 Mu ρ s a w → (∀ a' w' ρ', Sim w0 Mu ρ' s'' a' w' → Exit.inBlock id Q e.out a' w') → (Code.block id (.loop body)).wp P Q a w := by
        intro w0 Mu ρ a w Q hs hQ
        obtain ⟨ρ2, hs2⟩ := hs.nrm hn
        exact wp_block (wp_loop_rounds n (hw w0 Mu ρ2 a w _ hs2 hQ))
      cases e with
      | normal => exact absurd rfl he
      | ret => exact ⟨.ret, s'', h1, fun w0 Mu ρ a w Q hs hQ => hl w0 Mu ρ a w Q hs hQ⟩
      | exit i =>
        simp only at h1
        split at h1
        · rename_i e
          have e := beqT e; subst e
          refine ⟨.normal, s'', h1, fun w0 Mu ρ a w Q hs hQ => hl w0 Mu ρ a w Q hs fun a' w' ρ' hs' => ?_⟩
          simp only [X.out, Exit.inBlock, if_true]; exact hQ a' w' ρ' hs'
        · rename_i e
          have e := beqN e
          refine ⟨.exit i, s'', h1, fun w0 Mu ρ a w Q hs hQ => hl w0 Mu ρ a w Q hs fun a' w' ρ' hs' => ?_⟩
          simp only [X.out, Exit.inBlock, if_neg e]; exact hQ a' w' ρ' hs'
    · cases hk
  · cases hk

theorem Contract.refine {P : Program} {g : Nat} {sig : Sig} {impl : (R : Type) → List DV → (List DV → Option R) → Option R}
    (h : ∀ R ds (k : List DV → Option R) r, impl R ds k = some r → ∃ impl', Contract P g { sig := sig, impl := impl' } ∧ impl' R ds k = some r) : Contract P g { sig := sig, impl := impl } := by
  intro R ds k r hk
  obtain ⟨impl', h1, h2⟩ := h R ds k r hk
  exact h1 R ds k r h2

end Go.Eng

/- The engine, part Z: types and programs, looked at by the kernel. -/
namespace Go.Eng
open Go

def takeInts (k : IntKind) : List Int → List Value → Option (List Value)
  | [], cs => some cs
  | x :: xs, c :: cs => match c with
    | .int k' y => match kindEq k k' && decide (x = y) with | true => takeInts k xs cs | false => none
    | _ => none
  | _ :: _, [] => none

theorem takeInts_eq {k : IntKind} : ∀ {xs : List Int} {cs r : List Value}, takeInts k xs cs = some r → cs = xs.map (Value.int k) ++ r
  | [], cs, r, h => by
    have h : some cs = some r := h
    injection h with h
  | x :: xs, [], r, h => by simp [takeInts] at h
  | x :: xs, c :: cs, r, h => by
    simp only [takeInts] at h
    split at h
    · rename_i k' y
      split at h
      · rename_i hb
        simp only [Bool.and_eq_true, decide_eq_true_eq] at hb
        rw [takeInts_eq h, kindEq_iff.1 hb.1, hb.2]; rfl
      · cases h
    · cases h

def relLB : List At → List Value → Bool
  | [], [] => true
  | a :: l, cs => match a with
    | .ints k m xs => match takeInts k xs cs with
      | some r => Nat.beq xs.length m && relLB l r
      | none => false
    | a => match cs with
      | c :: r => (match a, c with
        | .int k x, .int k' y => kindEq k k' && decide (x = y)
        | .bool x, .bool y => (match x, y with | true, true => true | false, false => true | _, _ => false)
        | .nils, .slice none 0 0 => true
        | .nilp, .pointer none => true
        | .dead, v => v.oneCell'
        | _, _ => false) && relLB l r
      | [] => false
  | [], _ :: _ => false

theorem relLB_rel : ∀ {l : List At} {cs : List Value}, relLB l cs = true → RelL rho0 sh0 l cs
  | [], [], _ => rfl
  | [], _ :: _, h => by simp [relLB] at h
  | a :: l, cs, h => by
    simp only [relLB] at h
    split at h
    · rename_i k m xs
      split at h
      · rename_i r hr
        simp only [Bool.and_eq_true] at h
        exact ⟨_, r, takeInts_eq hr, ⟨rfl, beqT h.1⟩, relLB_rel h.2⟩
      · cases h
    · split at h
      · rename_i c r
        simp only [Bool.and_eq_true] at h
        refine ⟨[c], r, rfl, ?_, relLB_rel h.2⟩
        have h1 := h.1
        split at h1
        · simp only [Bool.and_eq_true, decide_eq_true_eq] at h1
          rw [kindEq_iff.1 h1.1, h1.2]; rfl
        · split at h1
          · rfl
          · rfl
          · cases h1
        · rfl
        · rfl
        · exact ⟨_, rfl, h1⟩
        · cases h1
      · cases h

def nilB {α : Type} : List α → Bool
  | [] => true
  | _ => false

theorem nilB_eq {α : Type} {l : List α} (h : nilB l = true) : l = [] := by cases l <;> simp_all [nilB]

def fieldsB : List (Nat × Nat) → List (Nat × Nat) → Bool
  | [], [] => true
  | (a, b) :: l, (c, d) :: m => Nat.beq a c && (Nat.beq b d && fieldsB l m)
  | _, _ => false

theorem fieldsB_eq : ∀ {l m : List (Nat × Nat)}, fieldsB l m = true → l = m
  | [], [], _ => rfl
  | [], _ :: _, h => by simp [fieldsB] at h
  | _ :: _, [], h => by simp [fieldsB] at h
  | (a, b) :: l, (c, d) :: m, h => by
    simp only [fieldsB, Bool.and_eq_true] at h
    rw [beqT h.1, beqT h.2.1, fieldsB_eq h.2.2]

def tdB : TD → TypeDesc → Bool
  | .int k, .int k' => kindEq k' k
  | .bool, .bool => true
  | .slice e, .slice e' => Nat.beq e' e
  | .str, .string => true
  | .array m e, .array m' e' => Nat.beq m' m && Nat.beq e' e
  | .struct fs, .struct fields => fieldsB (fields.toList.map (fun f => (f.type, f.offset))) fs
  | .other, .struct _ => false
  | .other, .array _ _ => false
  | .other, _ => true
  | _, _ => false

theorem tdB_desc {a : TD} {d : TypeDesc} (h : tdB a d = true) : TDesc a d := by
  unfold tdB at h
  split at h
  · exact kindEq_iff.1 h
  · trivial
  · exact beqT h
  · trivial
  · simp only [Bool.and_eq_true] at h; exact ⟨beqT h.1, beqT h.2⟩
  · exact fieldsB_eq h
  · cases h
  · cases h
  · rename_i h1 h2
    cases d <;> first | trivial | (exact (h1 _ rfl).elim) | (exact (h2 _ _ rfl).elim)
  · cases h

def tyB (P : Program) (t : Nat) (ti : TI) : Bool :=
  match P.info? t, P.underlying t with
  | some i, some d => match i.zero with
    | some z => (Nat.beq i.size ti.size && Nat.beq i.bytes ti.bytes) && (nilB (namesL ti.zero) && (relLB ti.zero z.cells.toList && tdB ti.d d))
    | none => false
  | _, _ => false

theorem tyB_ok {P : Program} {t : Nat} {ti : TI} (h : tyB P t ti = true) : TyOk P t ti := by
  unfold tyB at h
  split at h
  · rename_i i d h1 h2
    split at h
    · rename_i z hz
      simp only [Bool.and_eq_true] at h
      obtain ⟨⟨a1, a2⟩, a3, a4, a5⟩ := h
      exact ⟨⟨i, h1, beqT a1, beqT a2, nilB_eq a3, z, hz, relLB_rel a4⟩, d, h2, tdB_desc a5⟩
    · cases h
  · cases h

def tysB (P : Program) : Types → Bool
  | [] => true
  | (t, ti) :: l => tyB P t ti && tysB P l

theorem tysB_ok {P : Program} : ∀ {Θ : Types}, tysB P Θ = true → TypesOk P Θ
  | [], _, t, ti, h => by simp [findTy] at h
  | (u, v) :: l, h, t, ti, hf => by
    simp only [tysB, Bool.and_eq_true] at h
    simp only [findTy] at hf
    split at hf
    · rename_i e; injection hf with hf; subst hf; rw [beqT e]; exact tyB_ok h.1
    · exact tysB_ok h.2 t ti hf

/-- a function, as the program has it -/
structure FnOk (P : Program) (g : Nat) (fn : Func) (n : Nat) (body : Code) (rv : List ResultVar) : Prop where
  look : P.funcs[g]? = some fn
  body : fn.body = some body
  n : fn.ntmps = n
  rv : fn.results.toList = rv
  name : fn.name ≠ "runtime.NumGoroutine"

theorem ctxOk_nil {P : Program} : CtxOk P [] := fun g fi h => by simp [findF] at h

theorem ctxOk_cons {P : Program} {g : Nat} {fi : FI} {Γ : Ctx} {fn : Func} {n : Nat} {body : Code} {rv : List ResultVar} (_hf : FnOk P g fn n body rv) (hs : sigOk fi.sig = true) (hc : Contract P g fi) (h : CtxOk P Γ) : CtxOk P ((g, fi) :: Γ) := by
  intro g' fi' hg
  simp only [findF] at hg
  split at hg
  · rename_i e
    injection hg with hg; subst hg
    have e := beqT e; subst e
    exact ⟨hc, hs⟩
  · exact h g' fi' hg

theorem ctxOk_ext {P : Program} {g : Nat} {fi : FI} {Γ : Ctx} (hs : sigOk fi.sig = true) (hc : Contract P g fi) (h : CtxOk P Γ) : CtxOk P ((g, fi) :: Γ) := by
  intro g' fi' hg
  simp only [findF] at hg
  split at hg
  · rename_i e
    injection hg with hg; subst hg
    have e := beqT e; subst e
    exact ⟨hc, hs⟩
  · exact h g' fi' hg

end Go.Eng

namespace Go.Eng
open Go

/-- a natural number as an integer -/
@[reducible] def nI (n : Nat) : Int := (n : Int)

/-! ### loops, one by one -/

/-- one round -/
def roundsOfStep {R : Type} (E : Env) (ν : Nrm) (id : Nat) (body : Code) (rec : AS → Option R) (k : X → AS → Option R) (s : AS) : Option R :=
  exec E body s fun e s' => match e with
    | .normal => match nrm ν s' with | some s'' => rec s'' | none => none
    | .exit i => match Nat.beq i id with | true => k .normal s' | false => k (.exit i) s'
    | .ret => k .ret s'

def bodyIn (id : Nat) : List (Nat × Code) → Code
  | [] => .skip
  | (u, c) :: l => match Nat.beq id u with | true => c | false => bodyIn id l

def AllOk (P : Program) (lp : List (Nat × LoopFn)) : List (Nat × Code) → Prop
  | [] => True
  | p :: l => (∀ L, findL p.1 lp = some L → LoopOk P L p.1 p.2) ∧ AllOk P lp l

theorem loopsOk_of {P : Program} {lp : List (Nat × LoopFn)} {c : Code} {l : List (Nat × Code)} (h : loopsIn c = l) (ho : AllOk P lp l) : LoopsOk P lp c := by
  intro p hp
  rw [h] at hp
  clear h
  induction l with
  | nil => cases hp
  | cons q l ih =>
    rcases List.mem_cons.1 hp with e | hp
    · subst e; exact ho.1
    · exact ih ho.2 hp

theorem allOk_skip {P : Program} {lp : List (Nat × LoopFn)} {id : Nat} {c : Code} {l : List (Nat × Code)} (hL : findL id lp = none) (ho : AllOk P lp l) : AllOk P lp ((id, c) :: l) := by
  refine ⟨fun L' h' => ?_, ho⟩
  rw [show findL (id, c).1 lp = none from hL] at h'
  cases h'

theorem allOk_cons {P : Program} {lp : List (Nat × LoopFn)} {L : LoopFn} {id : Nat} {c : Code} {l : List (Nat × Code)} (hL : findL id lp = some L) (h : LoopOk P L id c) (ho : AllOk P lp l) : AllOk P lp ((id, c) :: l) := by
  refine ⟨fun L' h' => ?_, ho⟩
  rw [show findL (id, c).1 lp = some L from hL] at h'
  injection h' with h'; subst h'; exact h

end Go.Eng

/- The engine, at a law: what it answers, when its run comes to true. -/
namespace Go.Eng
open Go

theorem law_calls {P : Program} {E : Env} (hΘ : TypesOk P E.Θ) (hΓ : CtxOk P E.Γ) (hm : P.follows .mixedOrders = true) {f : Nat} {fn : Func} {n : Nat} {body : Code} {rv : List ResultVar} (ok : FnOk P f fn n body rv) (hlp : LoopsOk P E.lp body)
    {args : Array Value} {W : World} {s0 : AS} {ρ : Rho} {Mu : MuT} (hMu : ∀ b, ¬ Mu b) (hs : Sim W Mu ρ s0 { tmps := args ++ Array.replicate (n - args.size) undef, defers := [] } W)
    (he : exec E body s0 (retK E.Θ { ps := [], rs := [.val] } [] rv some) = some [.v (.one (.bool true))]) :
    Calls P f args W fun e W' => e = .returned (.bool true) ∧ Still W W' ∧ W.heap.size ≤ W'.heap.size ∧ ∀ b, b < W.heap.size → W'.heap[b]? = W.heap[b]? := by
  obtain ⟨e, s', h1, h2⟩ := (exec_sound hΘ hΓ hm body hlp).1 _ _ _ he
  have key : ∃ vs os us ms, (∀ i, e ≠ .exit i) ∧ resSV E.Θ s' rv = some vs ∧ outsOf s'.I [.val] vs = some (os, us) ∧ mutOuts s'.I 0 [] [] = some ms ∧ some (os ++ ms) = some [.v (.one (.bool true))] := by
    unfold retK at h1
    split at h1
    · cases h1
    · rename_i he
      split at h1
      · cases h1
      · split at h1
        · rename_i vs hvs
          split at h1
          · rename_i os us ms ho hmm
            split at h1
            · exact ⟨vs, os, us, ms, fun i h => he i h, hvs, ho, hmm, h1⟩
            · cases h1
          · cases h1
        · cases h1
  obtain ⟨vs, os, us, ms, hx, hvs, ho, hmo, hk⟩ := key
  have hms : ms = [] := by simp only [mutOuts] at hmo; injection hmo with hmo; exact hmo.symm
  subst hms
  rw [List.append_nil] at hk
  injection hk with hk
  subst hk
  obtain ⟨o1, o2, U, o3, o4, o5, o6⟩ := outsOf_spec ho
  obtain ⟨v, rfl⟩ : ∃ v, vs = [v] := by
    cases vs with
    | nil => simp at o2
    | cons v l => cases l with
      | nil => exact ⟨v, rfl⟩
      | cons _ _ => simp at o2
  obtain ⟨u, rfl⟩ : ∃ u, U = [u] := by
    cases U with
    | nil => simp at o3
    | cons v l => cases l with
      | nil => exact ⟨v, rfl⟩
      | cons _ _ => simp at o3
  have hv := o5 0 _ _ _ _ rfl rfl rfl rfl
  have hv : v = .one (.bool true) := by
    simp only [outOf] at hv
    split at hv
    · injection hv with hv; injection hv with h1 h2; injection h1
    · cases hv
  subst hv
  have hn := ok.n
  subst hn
  refine calls_of_wp ok.look ok.body ?_
  refine reaches_iff.1 h2 W _ _ _ _ _ hs ?_
  intro a' W' ρ' hs'
  obtain ⟨Xs, x1, x2, x3, x4⟩ := resSV_spec hΘ hs' hvs
  have hpost : a'.defers = [] ∧ ∃ v, (results fn a'.tmps).run P W' = .ok v W' ∧ (Ending.returned v = .returned (.bool true) ∧ Still W W' ∧ W.heap.size ≤ W'.heap.size ∧ ∀ b, b < W.heap.size → W'.heap[b]? = W.heap[b]?) := by
    refine ⟨hs'.defers, resVal Xs, results_eq fn _ _ (by rw [ok.rv]; exact x4), ?_, hs'.still, hs'.mono, fun b hb => hs'.frame b hb (hMu b)⟩
    obtain ⟨X, rfl⟩ : ∃ X, Xs = [X] := by
      have : Xs.length = 1 := by rw [x1, ← x2]; rfl
      cases Xs with
      | nil => simp at this
      | cons v l => cases l with
        | nil => exact ⟨v, rfl⟩
        | cons _ _ => simp at this
    have := x3 0 _ X rfl rfl
    simp only [RelSV, RelAt, List.cons.injEq, and_true] at this
    rw [this]; rfl
  cases e with
  | normal => exact hpost
  | ret => exact hpost
  | exit i => exact absurd rfl (hx i)

end Go.Eng

/- The engine, at a row: arguments are opened; what a law leaves is shut. -/
namespace Go.Eng
open Go Go.ChangeShapes Go.WideShapes Go.RowKit

section
variable {H : Type} {enc : TypeId × Value → H} {P : Program}

/-! ### shutting -/

theorem post_of_law {f : Func} {s : ChangeSpec} {apart fresh handsOn again : Bool} {W W' : World} {args : Array Value} {ds gs : List (DataW H)} {before : List MemPlace} {tb : TypeId}
    (hl : laidOutB P = true) (hres : f.resultTypes = #[tb]) (htb : P.underlying tb = some .bool) (hvs : s.vars = [])
    (hts : ∀ t ∈ f.params.toList, P.readableRec t = true ∧ t < P.types.size)
    (hfn : (s.fn H (ds ++ gs)).results = [.lit (.bool true)] ∧ (s.fn H (ds ++ gs)).args = ds ∧ (s.fn H (ds ++ gs)).vars = [])
    (hW : DataW.Whole enc P f.params.toList s.vars apart W args.toList ds gs before)
    (hst : Still W W') (hsz : W.heap.size ≤ W'.heap.size) (hbl : ∀ b, b < W.heap.size → W'.heap[b]? = W.heap[b]?) :
    s.post enc P f apart fresh handsOn again W args (.bool true) W' := by
  obtain ⟨W2, hW2, hB⟩ : ∃ W2 : World, W2.heap = W'.heap ∧ Below W.heap.size W W2 := ⟨{ W' with tape := W.tape }, rfl, ⟨hst.1, rfl, hst.2, hsz, hbl⟩⟩
  have hlt : ∀ p ∈ before, p.block < W.heap.size := fun p hp => hW.lt p hp
  have hW0 := hW
  obtain ⟨p, q, hA, hV, rfl, hz, hn⟩ := hW
  rw [hvs] at hV
  obtain ⟨rfl, rfl⟩ := trodVars_none hV
  rw [List.append_nil] at hlt hz hn
  have hargs2 : ∀ sp : Nat → Bool, (∀ b, b < W.heap.size → sp b = true) → ∀ {ts : List TypeId} {vs : List Value} {ds : List (DataW H)} {p : List MemPlace}, (∀ t ∈ ts, P.readableRec t = true ∧ t < P.types.size) → (∀ x ∈ p, x.block < W.heap.size) →
      DataW.TrodAll enc P W 0 (fun _ => true) true ts vs ds p → DataW.TrodAll enc P W' 0 sp true ts vs ds p := by
    intro sp hsp ts
    induction ts with
    | nil =>
      intro vs ds p _ _ h
      obtain ⟨rfl, rfl, rfl⟩ := trodAll_nil h
      exact trodAll_mk0
    | cons t ts ih =>
      intro vs ds p ht hp h
      obtain ⟨v, vs1, d, ds1, a, b, rfl, rfl, rfl, h1, h2⟩ := trodAll_cons h
      have r1 := WideElems.Trod_stays hl (ht t (.head _)).1 (ht t (.head _)).2 h1 (fun x hx => hB.same (hp x (by simp [hx]))) (sp' := sp) (fun x hx => hsp _ (hp x (by simp [hx])))
      exact ⟨a, b, DataW.Trod.of_heap hW2 r1, ih (fun u hu => ht u (.tail _ hu)) (fun x hx => hp x (by simp [hx])) h2, rfl⟩
  have hres2 : ∀ (b : Nat) (sp : Nat → Bool) (hd : Bool), DataW.TrodAll enc P W' b sp hd f.resultTypes.toList ((Value.bool true).resultList f.resultTypes.size) (s.fn H (ds ++ [])).results [] := by
    intro b sp hd
    rw [hres, hfn.1]
    exact trodAll_mk1 (shut_bool htb true)
  have hvar2 : ∀ sp, DataW.TrodVars enc P W' sp s.vars (s.fn H (ds ++ [])).vars [] := by
    intro sp; rw [hvs, hfn.2.2]; rfl
  refine ⟨ds, [], p ++ [], [], p, [], hW0, hres2 _ _ _, ?_, hvar2 _, ?_, fun _ => ⟨?_, [.lit (.bool true)] ++ ds, [], ([] ++ p) ++ [], ⟨[] ++ p, [], ?_, ?_, rfl, ?_, ?_⟩, ?_⟩⟩
  · rw [hfn.2.1]
    exact hargs2 _ (fun b hb => by simpa using hb) hts hlt hA
  · refine ⟨hst.1, hst.2, fun i hi => ?_⟩
    rw [hbl i hi]
    split <;> simp_all
  · exact ok_one hres rfl (okWide_bool_mk htb true)
  · have h1 := hres2 0 (fun _ => true) true
    rw [hfn.1] at h1
    exact trodAll_append (hargs2 _ (fun _ _ => rfl) hts hlt hA) h1
  · rw [hvs]; rfl
  · intro b off hp
    rw [List.append_nil, List.nil_append] at hp
    have := hB.frozen (p := ⟨b, off, none⟩) (hlt _ hp)
    have e : W'.frozen? ⟨b, off, none⟩ = W2.frozen? ⟨b, off, none⟩ := by unfold World.frozen?; rw [hW2]
    rw [e, this]
    exact hz b off hp
  · intro ha
    rw [List.append_nil, List.nil_append]
    exact hn ha
  · intro x hx _
    simpa using hx

/-! ### opening -/

/-- what a reading's cells are: so many numbers of one kind -/
def IntEl (H : Type) (enc : TypeId × Value → H) (P : Program) (e : Nat) (k : IntKind) (es : Nat) : Prop :=
  P.cellsOf e = es ∧ ∀ (w : World) base sp hd n cs (x : DataW H × List MemPlace), DataW.trod enc P w base sp hd n e cs = some x → ∃ ys : List Int, cs = ys.map (Value.int k) ∧ ys.length = es ∧ ∀ y ∈ ys, (Lit.int k y).wf = true

theorem intEl_int {e : Nat} {k : IntKind} (he : P.underlying e = some (.int k)) (hc : P.cellsOf e = 1) : IntEl H enc P e k 1 := by
  refine ⟨hc, fun w base sp hd n cs x h => ?_⟩
  obtain ⟨m, rfl, _, hw⟩ := DataW.trod_int he h
  exact ⟨[m], rfl, rfl, by simpa using hw⟩

theorem chunks {k : IntKind} {es : Nat} (hpos : 0 < es) : ∀ (n : Nat) (cs : List Value), cs.length = n * es → (∀ i, i < n → ∃ ys : List Int, (cs.drop (i * es)).take es = ys.map (Value.int k) ∧ ys.length = es ∧ ∀ y ∈ ys, (Lit.int k y).wf = true) →
    ∃ ys : List Int, cs = ys.map (Value.int k) ∧ ys.length = n * es ∧ ∀ y ∈ ys, (Lit.int k y).wf = true
  | 0, cs, h, _ => by
    have : cs = [] := List.eq_nil_of_length_eq_zero (by simpa using h)
    exact ⟨[], by simp [this], by simp, by simp⟩
  | n + 1, cs, h, hh => by
    obtain ⟨ys, e1, e2, e3⟩ := hh 0 (by omega)
    obtain ⟨zs, f1, f2, f3⟩ := chunks hpos n (cs.drop es) (by rw [List.length_drop, h, Nat.succ_mul]; omega) (fun i hi => by
      obtain ⟨ys, e1, e2, e3⟩ := hh (i + 1) (by omega)
      refine ⟨ys, ?_, e2, e3⟩
      rw [List.drop_drop, ← e1, Nat.succ_mul, Nat.add_comm])
    refine ⟨ys ++ zs, ?_, by rw [List.length_append, e2, f2, Nat.succ_mul]; omega, ?_⟩
    · rw [List.map_append, ← f1, ← e1]; simp
    · intro y hy
      rcases List.mem_append.1 hy with hy | hy
      · exact e3 y hy
      · exact f3 y hy

theorem intEl_array {t e n : Nat} {k : IntKind} {es : Nat} (ht : P.underlying t = some (.array n e)) (hc : P.cellsOf t = n * es) (hpos : 0 < es) (he : IntEl H enc P e k es) : IntEl H enc P t k (n * es) := by
  refine ⟨hc, fun w base sp hd m cs x h => ?_⟩
  obtain ⟨xs, m', rfl, rfl, hl, hlen, hf⟩ := DataW.trod_array ht h
  rw [hc] at hl
  refine chunks hpos n cs hl fun i hi => ?_
  have h1 := hf i hi
  rw [he.1, List.getElem?_eq_getElem (by omega)] at h1
  exact he.2 _ _ _ _ _ _ _ h1

theorem cells?_get {w : World} {base : Nat} {a : Addr} {n : Nat} {cs : List Value} (h : w.cells? base a n = some cs) : cs.length = n ∧ ∀ i, i < n → w.cell? (a.add i) = cs[i]? := by
  unfold World.cells? at h
  split at h
  · exact ⟨by simpa using mapM_some_length h, fun i hi => mapM_some_get h i i (by simp [hi])⟩
  · cases h

/-- a slice that is read: what it holds, as a view -/
theorem open_view {t e : Nat} {k : IntKind} {es : Nat} (ht : P.underlying t = some (.slice e)) (hpos : 0 < es) (he : IntEl H enc P e k es) {w : World} {base : Nat} {sp : Nat → Bool} {hd : Bool} {fuel : Nat} {cs : List Value} {x : DataW H × List MemPlace}
    (h : DataW.trod enc P w base sp hd fuel t cs = some x) :
    ∃ (xs : List Int) (len c : Nat) (A : Option Addr) (loc : Option (Nat × Nat)), cs = [.slice A len c] ∧ len ≤ c ∧ xs.length = len * es ∧ ViewAt k xs loc w ∧ (0 < xs.length → A = loc.map (adr · 0)) ∧ (∀ p, loc = some p → p.1 < w.heap.size) ∧
      (∀ y ∈ xs, (Lit.int k y).wf = true) ∧ ((x.1 = .nil ∧ len = 0) ∨ ∃ elems spare, x.1 = .slice elems spare ∧ elems.length = len) := by
  rcases DataW.trod_slice ht h with ⟨rfl, rfl⟩ | ⟨a, len, cap, elems, rest, n, rfl, rfl, rfl, hb, hlc, hcm, hel, hget, _, _⟩
  · exact ⟨[], 0, 0, none, none, rfl, Nat.le_refl _, by simp, fun i x hx => by simp at hx, fun h => absurd h (by simp), (fun p hp => by cases hp), by simp, .inl ⟨rfl, rfl⟩⟩
  · rw [he.1] at hget
    have key : ∀ i, i < len → ∃ ys : List Int, ys.length = es ∧ (∀ y ∈ ys, (Lit.int k y).wf = true) ∧ ∀ j, j < es → w.cell? ((a.add (i * es)).add j) = (ys[j]?).map (Value.int k) := by
      intro i hi
      have h1 := hget i hi
      rw [List.getElem?_eq_getElem (by omega), Option.bind_eq_some_iff] at h1
      obtain ⟨cs', h2, h3⟩ := h1
      obtain ⟨ys, e1, e2, e3⟩ := he.2 _ _ _ _ _ _ _ h3
      obtain ⟨_, g2⟩ := cells?_get h2
      refine ⟨ys, e2, e3, fun j hj => ?_⟩
      rw [g2 j hj, e1, List.getElem?_map]
    have build : ∀ m, m ≤ len → ∃ xs : List Int, xs.length = m * es ∧ (∀ y ∈ xs, (Lit.int k y).wf = true) ∧ ∀ i x, xs[i]? = some x → w.cell? (a.add i) = some (.int k x) := by
      intro m
      induction m with
      | zero => intro _; exact ⟨[], by simp, by simp, by simp⟩
      | succ m ih =>
        intro hm
        obtain ⟨xs, h1, h2, h3⟩ := ih (by omega)
        obtain ⟨ys, g1, g2, g3⟩ := key m (by omega)
        have hspot : a.spot = none := by
          by_cases h0 : m = 0
          · subst h0
            have := g3 0 hpos
            rw [List.getElem?_eq_getElem (by omega)] at this
            simpa [Addr.add] using World.cell?_spot this
          · have hx : 0 < xs.length := by rw [h1]; exact Nat.mul_pos (by omega) hpos
            have := h3 0 _ (List.getElem?_eq_getElem hx)
            simpa [Addr.add] using World.cell?_spot this
        obtain ⟨b, off, spot⟩ := a
        simp only at hspot
        subst hspot
        refine ⟨xs ++ ys, by rw [List.length_append, h1, g1, Nat.succ_mul], ?_, ?_⟩
        · intro y hy
          rcases List.mem_append.1 hy with hy | hy
          · exact h2 y hy
          · exact g2 y hy
        · intro i x hx
          rw [List.getElem?_append] at hx
          split at hx
          · exact h3 i x hx
          · have hi : i - xs.length < es := by
              have := (List.getElem?_eq_some_iff.1 hx).1; omega
            have := g3 (i - xs.length) hi
            rw [hx, add_plain, add_plain] at this
            rw [add_plain]
            rw [show off + i = off + m * es + (i - xs.length) by rw [h1]; omega]
            exact this
    obtain ⟨xs, h1, h2, h3⟩ := build len (Nat.le_refl _)
    refine ⟨xs, len, cap, some a, if 0 < xs.length then some (a.block, a.off) else none, rfl, hlc, h1, ?_, ?_, ?_, h2, .inr ⟨elems.map (·.1), rest.map (·.1), rfl, by simpa using hel⟩⟩
    · intro i x hx
      have hp : 0 < xs.length := by have := (List.getElem?_eq_some_iff.1 hx).1; omega
      rw [if_pos hp]
      refine ⟨_, rfl, ?_⟩
      have hs : a.spot = none := by simpa [Addr.add] using World.cell?_spot (h3 0 _ (List.getElem?_eq_getElem hp))
      have := h3 i x hx
      obtain ⟨b, off, spot⟩ := a
      simp only at hs; subst hs
      rw [add_plain] at this
      exact this
    · intro hp
      rw [if_pos hp]
      have hs : a.spot = none := by simpa [Addr.add] using World.cell?_spot (h3 0 _ (List.getElem?_eq_getElem hp))
      obtain ⟨b, off, spot⟩ := a
      simp only at hs; subst hs
      rfl
    · intro p hp
      split at hp
      · rename_i hpos'
        injection hp with hp; subst hp
        have h4 := h3 0 _ (List.getElem?_eq_getElem hpos')
        unfold World.cell? at h4
        have e : (a.add 0).block = a.block := by simp [Addr.add]
        rw [e] at h4
        cases hh : w.heap[a.block]? with
        | none => rw [hh] at h4; cases h4
        | some o => exact (Array.getElem?_eq_some_iff.1 hh).1
      · cases hp

/-! ### the start -/

def RelArgs (ρ : Rho) (S : Sh) : List AV → List Value → Prop
  | [], [] => True
  | a :: l, v :: vs => RelV ρ S a v ∧ RelArgs ρ S l vs
  | _, _ => False

theorem relArgs_find {ρ : Rho} {S : Sh} : ∀ {l : List AV} {vs : List Value} (i t : Nat), RelArgs ρ S l vs → i ≤ t → RelV ρ S (findT t (numT i l)) (vs.getD (t - i) undef)
  | [], [], i, t, _, _ => trivial
  | [], _ :: _, _, _, h, _ => h.elim
  | _ :: _, [], _, _, h, _ => h.elim
  | a :: l, v :: vs, i, t, ⟨h1, h2⟩, hle => by
    show RelV ρ S (findT t ((i, a) :: numT (i + 1) l)) _
    rw [findT_cons]
    by_cases e : t = i
    · subst e
      rw [if_pos rfl, Nat.sub_self]; exact h1
    · rw [if_neg e]
      have := relArgs_find (i + 1) t h2 (by omega)
      rw [show t - i = (t - (i + 1)) + 1 by omega]
      exact this

theorem sim_start {W : World} {s0 : AS} {ρ : Rho} {avs : List AV} {args : Array Value} {n : Nat} (hn : s0.n = n) (hargs : args.size ≤ n) (ht : s0.tmps = numT 0 avs) (nd : Nodup' s0.items)
    (hv : ∀ m it, s0.I m = some it → ∃ k es xs, it = .view k es xs ∧ 0 < es ∧ (∃ q, xs.length = q * es) ∧ ViewAt k xs (ρ.loc m) W) (hlt : ∀ m p, ρ.loc m = some p → p.1 < W.heap.size) (hr : RelArgs ρ s0.S avs args.toList) :
    Sim W ⟨fun _ => False, ρ.loc, ρ.tot, s0.S⟩ ρ s0 { tmps := args ++ Array.replicate (n - args.size) undef, defers := [] } W := by
  refine ⟨rfl, nd, by simp [hn]; omega, ?_, ?_, ?_, ?_, ?_, Nat.le_refl _, fun _ _ _ => rfl, fun m hm => ⟨rfl, rfl, .inl rfl⟩, rfl, rfl⟩
  · intro t
    have h1 := relArgs_find 0 t hr (Nat.zero_le _)
    unfold AS.T
    rw [ht]
    by_cases h : t < args.size
    · have : (args ++ Array.replicate (n - args.size) undef).getD t undef = args.toList.getD (t - 0) undef := by
        simp [Array.getD_eq_getD_getElem?, List.getD_eq_getElem?_getD, Array.getElem?_append, h]
      simp only [this]; exact h1
    · have : (args ++ Array.replicate (n - args.size) undef).getD t undef = args.toList.getD (t - 0) undef := by
        simp [Array.getD_eq_getD_getElem?, List.getD_eq_getElem?_getD, Array.getElem?_append, h, Array.getElem?_replicate]
        split <;> rfl
      simp only [this]; exact h1
  · intro m it hi
    obtain ⟨k, es, xs, rfl, h1, h2, h3⟩ := hv m it hi
    exact ⟨h1, h2, h3⟩
  · intro m it p hi ho
    obtain ⟨k, es, xs, rfl, h1, h2, h3⟩ := hv m it hi
    cases ho
  · intro m m' it it' p q hi hi' ho
    obtain ⟨k, es, xs, rfl, h1, h2, h3⟩ := hv m it hi
    cases ho
  · intro m it p _ hp; exact hlt m p hp

/-- atoms, one behind the other -/
def RelF (ρ : Rho) (S : Sh) : Nat → List (At × Nat) → List Value → Prop
  | off, [], cs => cs.length = off
  | off, (a, z) :: l, cs => off + z ≤ cs.length ∧ RelAt ρ S a ((cs.drop off).take z) ∧ RelF ρ S (off + z) l cs

def fstAll : List (At × Nat) → List At
  | [] => []
  | (a, _) :: l => a :: fstAll l

theorem relL_of {ρ : Rho} {S : Sh} : ∀ {l : List (At × Nat)} {off : Nat} {cs : List Value}, RelF ρ S off l cs → RelL ρ S (fstAll l) (cs.drop off)
  | [], off, cs, h => List.drop_of_length_le (Nat.le_of_eq h)
  | (a, z) :: l, off, cs, ⟨_, h1, h2⟩ => ⟨(cs.drop off).take z, (cs.drop off).drop z, by rw [List.take_append_drop], h1, by rw [List.drop_drop]; exact relL_of h2⟩

/-- an argument that is an array of numbers -/
theorem open_arr {t e n : Nat} {k : IntKind} {r : Reach} {b0 : Nat} {w : World} {base : Nat} {sp : Nat → Bool} {hd : Bool} {v : Value} {d : DataW H} {ps : List MemPlace} (ht : P.underlying t = some (.array n e)) (he : P.underlying e = some (.int k)) (hc : P.cellsOf e = 1) (hct : P.cellsOf t = n)
    (hval : Value.okWide P w r b0 t v) (h : DataW.Trod enc P w base sp hd t v d ps) : ∃ xs : List Int, v = .agg (xs.map (Value.int k)).toArray ∧ xs.length = n ∧ ∀ y ∈ xs, (Lit.int k y).wf = true := by
  unfold Value.okWide at hval
  rw [ht] at hval
  obtain ⟨cs, rfl, hs, _⟩ := hval
  obtain ⟨fuel, h⟩ := h
  have h1 := (intEl_array (H := H) (enc := enc) ht (by rw [hct, Nat.mul_one]) (by omega) (intEl_int he hc)).2 _ _ _ _ _ _ _ h
  obtain ⟨ys, e1, e2, e3⟩ := h1
  refine ⟨ys, ?_, by simpa using e2, e3⟩
  simp only [Value.cells] at e1
  rw [← e1]

theorem rel_own {ρ : Rho} {S : Sh} {m es len c : Nat} {A : Option Addr} {xs : List Int} {loc : Option (Nat × Nat)} {cs : List Value} (hS : S m = some (.view es xs.length)) (h1 : cs = [.slice A len c]) (h2 : len ≤ c) (h3 : xs.length = len * es) (h5 : 0 < xs.length → A = loc.map (adr · 0)) (hpos : 0 < es) (hloc : ρ.loc m = loc := by rfl) :
    RelAt ρ S (.own m) cs := by
  simp only [RelAt, hS]
  rw [h3, rl_mul hpos, hloc]
  exact ⟨A, c, h1, h2, by rw [← h3]; exact h5⟩

def locOf (l : List (Nat × Option (Nat × Nat))) (m : Nat) : Option (Nat × Nat) := match l with
  | [] => none
  | (u, p) :: r => match Nat.beq m u with | true => p | false => locOf r m

end
end Go.Eng

/- What the engine is told of this seat. MADE BY PROGRAM (wip/tools/facts.py). -/
namespace Go.Proofs.Ytiaddnmloonhgaa
open Go Go.Eng

set_option maxRecDepth 100000

def Th : Types := [(3, ⟨.int .i64, 1, 8, [.int .i64 0]⟩),
  (4, ⟨.bool, 1, 1, [.bool false]⟩),
  (5, ⟨.int .u8, 1, 1, [.int .u8 0]⟩),
  (9, ⟨.str, 1, 16, [.dead]⟩),
  (23, ⟨.array 32 5, 32, 32, [.ints .u8 32 (List.replicate 32 0)]⟩),
  (24, ⟨.int .u32, 1, 4, [.int .u32 0]⟩),
  (26, ⟨.array 12 5, 12, 12, [.ints .u8 12 (List.replicate 12 0)]⟩),
  (27, ⟨.slice 5, 1, 24, [.nils]⟩),
  (28, ⟨.slice 27, 1, 24, [.nils]⟩),
  (46, ⟨.int .i64, 1, 8, [.int .i64 0]⟩),
  (51, ⟨.array 64 5, 64, 64, [.ints .u8 64 (List.replicate 64 0)]⟩),
  (58, ⟨.array 16 5, 16, 16, [.ints .u8 16 (List.replicate 16 0)]⟩),
  (66, ⟨.struct [(23, 0), (26, 32), (27, 44), (27, 45), (27, 46), (3, 47), (5, 48)], 49, 136, [.ints .u8 32 (List.replicate 32 0), .ints .u8 12 (List.replicate 12 0), .nils, .nils, .nils, .int .i64 0, .int .u8 0]⟩),
  (70, ⟨.int .u64, 1, 8, [.int .u64 0]⟩),
  (76, ⟨.other, 1, 8, [.nilp]⟩),
  (92, ⟨.struct [(23, 0), (70, 32)], 33, 40, [.ints .u8 32 (List.replicate 32 0), .int .u64 0]⟩),
  (95, ⟨.array 16 24, 16, 64, [.ints .u32 16 (List.replicate 16 0)]⟩),
  (98, ⟨.other, 1, 8, [.nilp]⟩),
  (100, ⟨.slice 24, 1, 24, [.nils]⟩),
  (103, ⟨.int .u64, 1, 8, [.int .u64 0]⟩),
  (105, ⟨.slice 3, 1, 24, [.nils]⟩),
  (131, ⟨.array 17 5, 17, 17, [.ints .u8 17 (List.replicate 17 0)]⟩),
  (133, ⟨.array 5 70, 5, 40, [.ints .u64 5 (List.replicate 5 0)]⟩),
  (138, ⟨.array 5 24, 5, 20, [.ints .u32 5 (List.replicate 5 0)]⟩),
  (142, ⟨.array 4 5, 4, 4, [.ints .u8 4 (List.replicate 4 0)]⟩)]

theorem thOk : TypesOk Try.prog Th := tysB_ok (by kernel_rfl)

theorem mixed : Try.prog.follows .mixedOrders = true := by kernel_rfl

/-- rime/seal.lowest -/
noncomputable def B42 : Code := (Try.f42.body.getD .skip)
def S42 : Sig := { ps := [.view .u8 1], rs := [.val] }
def R42 : List ResultVar := [.tmp 2]
def K42 : List Nat := [0, 2, 3, 4, 5, 6, 7, 8, 9]
def N42_0 : Nrm := { slots := [.tmp 3, .tmp 6, .tmp 7, .tmp 8], items := [0] }
noncomputable def B42_0 : Code := bodyIn 0 (loopsIn B42)
def N42 : Nrms := [(0, N42_0)]
theorem ok42 : FnOk Try.prog 42 Try.f42 22 B42 R42 := ⟨by kernel_rfl, by kernel_rfl, by kernel_rfl, by kernel_rfl, by decide +kernel⟩

/-- rime/seal.bytesOf -/
noncomputable def B44 : Code := (Try.f44.body.getD .skip)
def S44 : Sig := { ps := [.val, .val], rs := [.fresh .u8 1] }
def R44 : List ResultVar := [.tmp 4]
def K44 : List Nat := [0, 1, 4, 5, 6, 7, 8, 9]
def N44_0 : Nrm := { slots := [.tmp 0, .row 5 1000005 .u8 1, .tmp 7, .tmp 8], items := [] }
noncomputable def B44_0 : Code := bodyIn 0 (loopsIn B44)
def N44 : Nrms := [(0, N44_0)]
theorem ok44 : FnOk Try.prog 44 Try.f44 21 B44 R44 := ⟨by kernel_rfl, by kernel_rfl, by kernel_rfl, by kernel_rfl, by decide +kernel⟩

/-- math/bits.RotateLeft32 -/
noncomputable def B92 : Code := (Try.f92.body.getD .skip)
def S92 : Sig := { ps := [.val, .val], rs := [.val] }
def R92 : List ResultVar := [.tmp 4]
def K92 : List Nat := [0, 1, 4, 5]
def N92 : Nrms := []
theorem ok92 : FnOk Try.prog 92 Try.f92 17 B92 R92 := ⟨by kernel_rfl, by kernel_rfl, by kernel_rfl, by kernel_rfl, by decide +kernel⟩

/-- rime/seal.quarter -/
noncomputable def B43 : Code := (Try.f43.body.getD .skip)
def S43 : Sig := { ps := [.mt, .val, .val, .val, .val], rs := [] }
def R43 : List ResultVar := []
def K43 : List Nat := [0, 1, 2, 3, 4]
def N43 : Nrms := []
theorem ok43 : FnOk Try.prog 43 Try.f43 126 B43 R43 := ⟨by kernel_rfl, by kernel_rfl, by kernel_rfl, by kernel_rfl, by decide +kernel⟩

/-- rime/seal.Block -/
noncomputable def B18 : Code := (Try.f18.body.getD .skip)
def S18 : Sig := { ps := [.val, .val, .val], rs := [.val] }
def R18 : List ResultVar := [.cell 6 51]
def K18 : List Nat := [1, 3, 5, 6, 7, 8, 9, 10, 11, 12, 13, 14, 16, 17, 33, 34, 49, 50, 51, 52, 63, 64, 82, 83]
def N18_10 : Nrm := { slots := [.tmp 6, .tmp 7, .tmp 10, .tmp 13, .tmp 82], items := [6, 7, 10, 13] }
def N18_8 : Nrm := { slots := [.tmp 6, .tmp 7, .tmp 10, .tmp 49, .tmp 63], items := [6, 7, 10] }
def N18_6 : Nrm := { slots := [.tmp 6, .tmp 7, .tmp 10, .tmp 49, .tmp 51], items := [6, 7, 10] }
def N18_4 : Nrm := { slots := [.tmp 6, .tmp 7, .tmp 10, .tmp 49], items := [6, 7, 10] }
def N18_2 : Nrm := { slots := [.tmp 5, .tmp 6, .tmp 7, .tmp 33], items := [5, 6, 7] }
def N18_0 : Nrm := { slots := [.tmp 1, .tmp 3, .tmp 5, .tmp 6, .tmp 7, .tmp 16], items := [3, 5, 6, 7] }
noncomputable def B18_10 : Code := bodyIn 10 (loopsIn B18)
noncomputable def B18_8 : Code := bodyIn 8 (loopsIn B18)
noncomputable def B18_6 : Code := bodyIn 6 (loopsIn B18)
noncomputable def B18_4 : Code := bodyIn 4 (loopsIn B18)
noncomputable def B18_2 : Code := bodyIn 2 (loopsIn B18)
noncomputable def B18_0 : Code := bodyIn 0 (loopsIn B18)
def N18 : Nrms := [(10, N18_10), (8, N18_8), (6, N18_6), (4, N18_4), (2, N18_2), (0, N18_0)]
theorem ok18 : FnOk Try.prog 18 Try.f18 100 B18 R18 := ⟨by kernel_rfl, by kernel_rfl, by kernel_rfl, by kernel_rfl, by decide +kernel⟩

/-- rime/seal.Stream -/
noncomputable def B16 : Code := (Try.f16.body.getD .skip)
def S16 : Sig := { ps := [.val, .val, .val, .view .u8 1], rs := [.fresh .u8 1, .val] }
def R16 : List ResultVar := [.tmp 8, .tmp 9]
def K16 : List Nat := [1, 3, 4, 6, 8, 9, 10, 11, 12, 13, 14, 24, 30, 48]
def N16_2 : Nrm := { slots := [.tmp 1, .tmp 4, .tmp 6, .tmp 11, .tmp 12, .tmp 13, .tmp 14], items := [4, 6, 13, 26] }
def N16_0 : Nrm := { slots := [.tmp 1, .tmp 4, .tmp 6, .tmp 11, .tmp 12], items := [4, 6, 26] }
noncomputable def B16_2 : Code := bodyIn 2 (loopsIn B16)
noncomputable def B16_0 : Code := bodyIn 0 (loopsIn B16)
def N16 : Nrms := [(2, N16_2), (0, N16_0)]
theorem ok16 : FnOk Try.prog 16 Try.f16 63 B16 R16 := ⟨by kernel_rfl, by kernel_rfl, by kernel_rfl, by kernel_rfl, by decide +kernel⟩

/-- rime/seal.limbs -/
noncomputable def B61 : Code := (Try.f61.body.getD .skip)
def S61 : Sig := { ps := [.val], rs := [.val] }
def R61 : List ResultVar := [.cell 2 133]
def K61 : List Nat := [1, 2, 3, 4, 5, 6, 20]
def N61_0 : Nrm := { slots := [.tmp 1, .tmp 2, .tmp 3, .tmp 5], items := [1, 2, 3] }
noncomputable def B61_0 : Code := bodyIn 0 (loopsIn B61)
def N61 : Nrms := [(0, N61_0)]
theorem ok61 : FnOk Try.prog 61 Try.f61 32 B61 R61 := ⟨by kernel_rfl, by kernel_rfl, by kernel_rfl, by kernel_rfl, by decide +kernel⟩

/-- (rime/seal.big).times -/
noncomputable def B62 : Code := (Try.f62.body.getD .skip)
def S62 : Sig := { ps := [.val, .val], rs := [.val] }
def R62 : List ResultVar := [.cell 4 133]
def K62 : List Nat := [2, 3, 4, 5, 6, 7, 8, 9, 11, 12, 17]
def N62_2 : Nrm := { slots := [.tmp 2, .tmp 3, .tmp 4, .tmp 5, .tmp 6, .tmp 8, .tmp 11], items := [2, 3, 4, 5] }
def N62_0 : Nrm := { slots := [.tmp 2, .tmp 3, .tmp 4, .tmp 5, .tmp 8], items := [2, 3, 4, 5] }
noncomputable def B62_2 : Code := bodyIn 2 (loopsIn B62)
noncomputable def B62_0 : Code := bodyIn 0 (loopsIn B62)
def N62 : Nrms := [(2, N62_2), (0, N62_0)]
theorem ok62 : FnOk Try.prog 62 Try.f62 53 B62 R62 := ⟨by kernel_rfl, by kernel_rfl, by kernel_rfl, by kernel_rfl, by decide +kernel⟩

/-- (rime/seal.big).carried -/
noncomputable def B94 : Code := (Try.f94.body.getD .skip)
def S94 : Sig := { ps := [.val], rs := [.val] }
def R94 : List ResultVar := [.cell 2 133]
def K94 : List Nat := [1, 2, 3, 4, 5, 6]
def N94_0 : Nrm := { slots := [.tmp 1, .tmp 2, .tmp 3, .tmp 5], items := [1, 2] }
noncomputable def B94_0 : Code := bodyIn 0 (loopsIn B94)
def N94 : Nrms := [(0, N94_0)]
theorem ok94 : FnOk Try.prog 94 Try.f94 31 B94 R94 := ⟨by kernel_rfl, by kernel_rfl, by kernel_rfl, by kernel_rfl, by decide +kernel⟩

/-- (rime/seal.big).whole -/
noncomputable def B63 : Code := (Try.f63.body.getD .skip)
def S63 : Sig := { ps := [.val], rs := [.val] }
def R63 : List ResultVar := [.cell 2 133]
def K63 : List Nat := [1, 2, 3, 4, 5, 14, 15, 34]
def N63_0 : Nrm := { slots := [.tmp 1, .tmp 2, .tmp 3, .tmp 4, .tmp 14], items := [1, 2, 3] }
noncomputable def B63_0 : Code := bodyIn 0 (loopsIn B63)
def N63 : Nrms := [(0, N63_0)]
theorem ok63 : FnOk Try.prog 63 Try.f63 37 B63 R63 := ⟨by kernel_rfl, by kernel_rfl, by kernel_rfl, by kernel_rfl, by decide +kernel⟩

/-- rime/seal.Mac -/
noncomputable def B24 : Code := (Try.f24.body.getD .skip)
def S24 : Sig := { ps := [.val, .view .u8 1], rs := [.val] }
def R24 : List ResultVar := [.cell 4 58]
def K24 : List Nat := [1, 2, 4, 5, 7, 9, 10, 11, 12, 13, 14, 15, 16, 17, 18, 19, 20, 21, 22, 26, 27, 28, 29, 38, 39, 40, 41, 55, 66, 67, 68, 83, 84, 86, 87]
def N24_10 : Nrm := { slots := [.tmp 2, .tmp 4, .tmp 11, .tmp 17, .tmp 18, .tmp 19, .tmp 20, .tmp 83, .tmp 86], items := [2, 4, 11, 17] }
def N24_8 : Nrm := { slots := [.tmp 2, .tmp 4, .tmp 11, .tmp 17, .tmp 18, .tmp 83], items := [2, 4, 11, 17] }
def N24_6 : Nrm := { slots := [.tmp 1, .tmp 2, .tmp 4, .tmp 10, .tmp 11, .tmp 12, .tmp 66, .tmp 67], items := [1, 2, 4, 10, 11] }
def N24_4 : Nrm := { slots := [.tmp 1, .tmp 2, .tmp 4, .tmp 10, .tmp 11, .tmp 12], items := [1, 2, 4, 10, 11] }
def N24_2 : Nrm := { slots := [.tmp 1, .tmp 2, .tmp 4, .tmp 5, .tmp 38, .tmp 39, .tmp 40], items := [1, 2, 4, 5, 38] }
def N24_0 : Nrm := { slots := [.tmp 1, .tmp 2, .tmp 4, .tmp 5, .tmp 26, .tmp 27, .tmp 28], items := [1, 2, 4, 5, 26] }
noncomputable def B24_10 : Code := bodyIn 10 (loopsIn B24)
noncomputable def B24_8 : Code := bodyIn 8 (loopsIn B24)
noncomputable def B24_6 : Code := bodyIn 6 (loopsIn B24)
noncomputable def B24_4 : Code := bodyIn 4 (loopsIn B24)
noncomputable def B24_2 : Code := bodyIn 2 (loopsIn B24)
noncomputable def B24_0 : Code := bodyIn 0 (loopsIn B24)
def N24 : Nrms := [(10, N24_10), (8, N24_8), (6, N24_6), (4, N24_4), (2, N24_2), (0, N24_0)]
theorem ok24 : FnOk Try.prog 24 Try.f24 123 B24 R24 := ⟨by kernel_rfl, by kernel_rfl, by kernel_rfl, by kernel_rfl, by decide +kernel⟩

/-- rime/seal.tag$1 -/
noncomputable def B96 : Code := (Try.f96.body.getD .skip)
def S96 : Sig := { ps := [.view .u8 1], rs := [.fresh .u8 1] }
def R96 : List ResultVar := [.tmp 2]
def K96 : List Nat := [0, 2, 3]
def N96 : Nrms := []
theorem ok96 : FnOk Try.prog 96 Try.f96 13 B96 R96 := ⟨by kernel_rfl, by kernel_rfl, by kernel_rfl, by kernel_rfl, by decide +kernel⟩

/-- rime/seal.tag -/
noncomputable def B67 : Code := (Try.f67.body.getD .skip)
def S67 : Sig := { ps := [.val, .val, .view .u8 1, .view .u8 1], rs := [.val] }
def R67 : List ResultVar := [.cell 8 58]
def K67 : List Nat := [2, 3, 4, 5, 8, 9, 10, 11]
def N67 : Nrms := []
theorem ok67 : FnOk Try.prog 67 Try.f67 39 B67 R67 := ⟨by kernel_rfl, by kernel_rfl, by kernel_rfl, by kernel_rfl, by decide +kernel⟩

/-- rime/seal.Seal -/
noncomputable def B28 : Code := (Try.f28.body.getD .skip)
def S28 : Sig := { ps := [.val, .val, .view .u8 1, .view .u8 1], rs := [.fresh .u8 1] }
def R28 : List ResultVar := [.tmp 8]
def K28 : List Nat := [2, 3, 4, 5, 8, 9, 11]
def N28 : Nrms := []
theorem ok28 : FnOk Try.prog 28 Try.f28 27 B28 R28 := ⟨by kernel_rfl, by kernel_rfl, by kernel_rfl, by kernel_rfl, by decide +kernel⟩

/-- rime/seal.Open -/
noncomputable def B26 : Code := (Try.f26.body.getD .skip)
def S26 : Sig := { ps := [.val, .val, .view .u8 1, .view .u8 1], rs := [.fresh .u8 1, .val] }
def R26 : List ResultVar := [.tmp 8, .tmp 9]
def K26 : List Nat := [2, 3, 4, 5, 8, 9, 10, 15, 28]
def N26 : Nrms := []
theorem ok26 : FnOk Try.prog 26 Try.f26 37 B26 R26 := ⟨by kernel_rfl, by kernel_rfl, by kernel_rfl, by kernel_rfl, by decide +kernel⟩

/-- rime/seal.numbered -/
noncomputable def B69 : Code := (Try.f69.body.getD .skip)
def S69 : Sig := { ps := [.val], rs := [.val] }
def R69 : List ResultVar := [.cell 2 26]
def K69 : List Nat := [0, 2, 3]
def N69 : Nrms := []
theorem ok69 : FnOk Try.prog 69 Try.f69 9 B69 R69 := ⟨by kernel_rfl, by kernel_rfl, by kernel_rfl, by kernel_rfl, by decide +kernel⟩

/-- rime/seal.Unbox -/
noncomputable def B33 : Code := (Try.f33.body.getD .skip)
def S33 : Sig := { ps := [.val, .view .u8 1, .view .u8 1], rs := [.fresh .u8 1, .val, .val] }
def R33 : List ResultVar := [.tmp 6, .tmp 7, .tmp 8]
def K33 : List Nat := [1, 2, 3, 6, 7, 8, 9, 10, 13, 19, 33]
def N33 : Nrms := []
theorem ok33 : FnOk Try.prog 33 Try.f33 39 B33 R33 := ⟨by kernel_rfl, by kernel_rfl, by kernel_rfl, by kernel_rfl, by decide +kernel⟩

/-- rime/seal.New -/
noncomputable def B35 : Code := (Try.f35.body.getD .skip)
def S35 : Sig := { ps := [.val, .val], rs := [.newobj] }
def R35 : List ResultVar := [.tmp 4]
def K35 : List Nat := [1, 2, 4]
def N35 : Nrms := []
theorem ok35 : FnOk Try.prog 35 Try.f35 9 B35 R35 := ⟨by kernel_rfl, by kernel_rfl, by kernel_rfl, by kernel_rfl, by decide +kernel⟩

/-- (*rime/seal.Sealer).Next -/
noncomputable def B36 : Code := (Try.f36.body.getD .skip)
def S36 : Sig := { ps := [.mt], rs := [.val] }
def R36 : List ResultVar := [.tmp 2]
def K36 : List Nat := [0, 2, 4]
def N36 : Nrms := []
theorem ok36 : FnOk Try.prog 36 Try.f36 9 B36 R36 := ⟨by kernel_rfl, by kernel_rfl, by kernel_rfl, by kernel_rfl, by decide +kernel⟩

/-- (*rime/seal.Sealer).Box -/
noncomputable def B37 : Code := (Try.f37.body.getD .skip)
def S37 : Sig := { ps := [.mt, .view .u8 1, .view .u8 1], rs := [.fresh .u8 1, .val] }
def R37 : List ResultVar := [.tmp 6, .tmp 7]
def K37 : List Nat := [0, 1, 2, 6, 7, 8, 10, 15]
def N37 : Nrms := []
theorem ok37 : FnOk Try.prog 37 Try.f37 38 B37 R37 := ⟨by kernel_rfl, by kernel_rfl, by kernel_rfl, by kernel_rfl, by decide +kernel⟩

/-- rime/rimeplain.SameBytes -/
noncomputable def B20 : Code := (Try.f20.body.getD .skip)
def S20 : Sig := { ps := [.view .u8 1, .view .u8 1], rs := [.val] }
def R20 : List ResultVar := [.tmp 4]
def K20 : List Nat := [0, 1, 4, 5, 10, 14, 25]
def N20_0 : Nrm := { slots := [.tmp 0, .tmp 1, .tmp 5], items := [0, 1] }
noncomputable def B20_0 : Code := bodyIn 0 (loopsIn B20)
def N20 : Nrms := [(0, N20_0)]
theorem ok20 : FnOk Try.prog 20 Try.f20 26 B20 R20 := ⟨by kernel_rfl, by kernel_rfl, by kernel_rfl, by kernel_rfl, by decide +kernel⟩

/-- rime/rimeplain.CopyBytes -/
noncomputable def B30 : Code := (Try.f30.body.getD .skip)
def S30 : Sig := { ps := [.view .u8 1], rs := [.fresh .u8 1] }
def R30 : List ResultVar := [.tmp 2]
def K30 : List Nat := [0, 2, 3]
def N30 : Nrms := []
theorem ok30 : FnOk Try.prog 30 Try.f30 8 B30 R30 := ⟨by kernel_rfl, by kernel_rfl, by kernel_rfl, by kernel_rfl, by decide +kernel⟩

/-- rime/rimelaw12.eight -/
noncomputable def B31 : Code := (Try.f31.body.getD .skip)
def S31 : Sig := { ps := [.val], rs := [.fresh .u8 1] }
def R31 : List ResultVar := [.tmp 2]
def K31 : List Nat := [0, 2, 3, 4, 6]
def N31_0 : Nrm := { slots := [.tmp 0, .row 3 1000003 .u8 1, .tmp 4], items := [] }
noncomputable def B31_0 : Code := bodyIn 0 (loopsIn B31)
def N31 : Nrms := [(0, N31_0)]
theorem ok31 : FnOk Try.prog 31 Try.f31 19 B31 R31 := ⟨by kernel_rfl, by kernel_rfl, by kernel_rfl, by kernel_rfl, by decide +kernel⟩

/-- rime/rimelaw12.num -/
noncomputable def B21 : Code := (Try.f21.body.getD .skip)
def S21 : Sig := { ps := [.val], rs := [.val] }
def R21 : List ResultVar := [.tmp 2]
def K21 : List Nat := [0, 2]
def N21 : Nrms := []
theorem ok21 : FnOk Try.prog 21 Try.f21 4 B21 R21 := ⟨by kernel_rfl, by kernel_rfl, by kernel_rfl, by kernel_rfl, by decide +kernel⟩

/-- rime/rimelaw12.works -/
noncomputable def B23 : Code := (Try.f23.body.getD .skip)
def S23 : Sig := { ps := [], rs := [.val] }
def R23 : List ResultVar := [.tmp 0]
def K23 : List Nat := [0, 1, 2, 3, 4, 5, 7]
def N23 : Nrms := []
theorem ok23 : FnOk Try.prog 23 Try.f23 51 B23 R23 := ⟨by kernel_rfl, by kernel_rfl, by kernel_rfl, by kernel_rfl, by decide +kernel⟩

/-- rime/rimelaw12.SealBack -/
noncomputable def B6 : Code := (Try.f6.body.getD .skip)
def S6 : Sig := { ps := [.val], rs := [.val] }
def R6 : List ResultVar := [.tmp 2]
def K6 : List Nat := [1, 2, 3, 4, 5, 6, 7, 8, 9, 10, 11, 12, 13, 14, 26, 55, 65, 73, 92]
def N6 : Nrms := []
theorem ok6 : FnOk Try.prog 6 Try.f6 126 B6 R6 := ⟨by kernel_rfl, by kernel_rfl, by kernel_rfl, by kernel_rfl, by decide +kernel⟩

/-- rime/rimelaw12.SealGoes -/
noncomputable def B7 : Code := (Try.f7.body.getD .skip)
def S7 : Sig := { ps := [.val], rs := [.val] }
def R7 : List ResultVar := [.tmp 2]
def K7 : List Nat := [1, 2, 3, 4, 5, 6, 7, 8, 9, 10, 11, 12, 13, 14, 15, 16, 17, 18, 20, 38]
def N7_0 : Nrm := { slots := [.tmp 3, .tmp 4, .tmp 5, .tmp 6, .tmp 7, .row 8 1000008 .u8 1, .tmp 9], items := [1, 3, 4, 1000001, 1000002, 1000003] }
noncomputable def B7_0 : Code := bodyIn 0 (loopsIn B7)
def N7 : Nrms := [(0, N7_0)]
theorem ok7 : FnOk Try.prog 7 Try.f7 115 B7 R7 := ⟨by kernel_rfl, by kernel_rfl, by kernel_rfl, by kernel_rfl, by decide +kernel⟩

/-- rime/rimelaw12.SealTurned -/
noncomputable def B8 : Code := (Try.f8.body.getD .skip)
def S8 : Sig := { ps := [.val], rs := [.val] }
def R8 : List ResultVar := [.tmp 2]
def K8 : List Nat := [1, 2, 3, 4, 5, 6, 7, 8, 9, 10, 11, 12, 13, 14, 15, 16, 17, 18, 19, 20, 21, 35, 53, 80, 94, 117, 154, 164]
def N8 : Nrms := []
theorem ok8 : FnOk Try.prog 8 Try.f8 228 B8 R8 := ⟨by kernel_rfl, by kernel_rfl, by kernel_rfl, by kernel_rfl, by decide +kernel⟩

/-- rime/rimelaw12.SealPoly -/
noncomputable def B9 : Code := (Try.f9.body.getD .skip)
def S9 : Sig := { ps := [.val, .view .u8 1], rs := [.val] }
def R9 : List ResultVar := [.tmp 4]
def K9 : List Nat := [1, 2, 4, 5, 6, 7, 8, 9, 11, 14, 27, 45, 49]
def N9_0 : Nrm := { slots := [.tmp 1, .tmp 2, .tmp 5, .tmp 6], items := [1, 2, 5] }
noncomputable def B9_0 : Code := bodyIn 0 (loopsIn B9)
def N9 : Nrms := [(0, N9_0)]
theorem ok9 : FnOk Try.prog 9 Try.f9 70 B9 R9 := ⟨by kernel_rfl, by kernel_rfl, by kernel_rfl, by kernel_rfl, by decide +kernel⟩

/-- rime/rimelaw12.SealOpens -/
noncomputable def B10 : Code := (Try.f10.body.getD .skip)
def S10 : Sig := { ps := [.val], rs := [.val] }
def R10 : List ResultVar := [.tmp 2]
def K10 : List Nat := [1, 2, 3, 4, 5, 6, 7, 8, 9, 10, 11, 12, 13, 14, 15, 16, 17, 18, 19, 20, 56]
def N10 : Nrms := []
theorem ok10 : FnOk Try.prog 10 Try.f10 128 B10 R10 := ⟨by kernel_rfl, by kernel_rfl, by kernel_rfl, by kernel_rfl, by decide +kernel⟩

/-- rime/rimelaw12.SealCounts -/
noncomputable def B13 : Code := (Try.f13.body.getD .skip)
def S13 : Sig := { ps := [.val, .val, .view .u8 1, .val], rs := [.val] }
def R13 : List ResultVar := [.tmp 8]
def K13 : List Nat := [1, 2, 3, 4, 8, 9, 10, 11, 12, 13, 14, 15, 16, 18, 23, 27, 43, 56, 91]
def N13_0 : Nrm := { slots := [.tmp 2, .tmp 3, .tmp 4, .tmp 9, .tmp 10], items := [2, 3, 4, 21] }
noncomputable def B13_0 : Code := bodyIn 0 (loopsIn B13)
def N13 : Nrms := [(0, N13_0)]
theorem ok13 : FnOk Try.prog 13 Try.f13 92 B13 R13 := ⟨by kernel_rfl, by kernel_rfl, by kernel_rfl, by kernel_rfl, by decide +kernel⟩

/-- rime/rimelaw12.added -/
noncomputable def B32 : Code := (Try.f32.body.getD .skip)
def S32 : Sig := { ps := [.val, .view .u8 1], rs := [.val] }
def R32 : List ResultVar := [.cell 4 58]
def K32 : List Nat := [1, 2, 4, 5, 6, 8]
def N32_0 : Nrm := { slots := [.tmp 1, .tmp 2, .tmp 4, .tmp 5, .tmp 6], items := [1, 2, 4] }
noncomputable def B32_0 : Code := bodyIn 0 (loopsIn B32)
def N32 : Nrms := [(0, N32_0)]
theorem ok32 : FnOk Try.prog 32 Try.f32 30 B32 R32 := ⟨by kernel_rfl, by kernel_rfl, by kernel_rfl, by kernel_rfl, by decide +kernel⟩

/-- rime/rimeref12.Stream -/
noncomputable def B17 : Code := (Try.f17.body.getD .skip)
def S17 : Sig := { ps := [.val, .val, .val, .view .u8 1], rs := [.fresh .u8 1, .val] }
def R17 : List ResultVar := [.tmp 8, .tmp 9]
def K17 : List Nat := [1, 3, 4, 6, 8, 9, 10, 11, 12, 13, 14, 29, 33, 54]
def N17_2 : Nrm := { slots := [.tmp 1, .tmp 3, .tmp 4, .tmp 6, .row 11 1000011 .u8 1, .tmp 12, .tmp 13, .tmp 14], items := [3, 4, 6, 13] }
def N17_0 : Nrm := { slots := [.tmp 1, .tmp 3, .tmp 4, .tmp 6, .row 11 1000011 .u8 1, .tmp 12], items := [3, 4, 6] }
noncomputable def B17_2 : Code := bodyIn 2 (loopsIn B17)
noncomputable def B17_0 : Code := bodyIn 0 (loopsIn B17)
def N17 : Nrms := [(2, N17_2), (0, N17_0)]
theorem ok17 : FnOk Try.prog 17 Try.f17 71 B17 R17 := ⟨by kernel_rfl, by kernel_rfl, by kernel_rfl, by kernel_rfl, by decide +kernel⟩

/-- rime/rimeref12.Block -/
noncomputable def B19 : Code := (Try.f19.body.getD .skip)
def S19 : Sig := { ps := [.val, .val, .val], rs := [.val] }
def R19 : List ResultVar := [.cell 6 51]
def K19 : List Nat := [1, 3, 5, 6, 7, 8, 9, 10, 11, 12, 13, 16, 31, 46, 66]
def N19_6 : Nrm := { slots := [.tmp 6, .tmp 7, .tmp 10, .tmp 12, .tmp 13], items := [1000007, 6, 12, 14, 25, 29, 40, 41] }
def N19_4 : Nrm := { slots := [.tmp 6, .tmp 7, .tmp 10, .tmp 11], items := [1000007, 6, 14, 25, 29, 40, 41] }
def N19_2 : Nrm := { slots := [.tmp 5, .tmp 6, .row 7 1000007 .u32 1, .tmp 9], items := [5, 6] }
def N19_0 : Nrm := { slots := [.tmp 1, .tmp 3, .tmp 5, .tmp 6, .row 7 1000007 .u32 1, .tmp 8], items := [3, 5, 6] }
noncomputable def B19_6 : Code := bodyIn 6 (loopsIn B19)
noncomputable def B19_4 : Code := bodyIn 4 (loopsIn B19)
noncomputable def B19_2 : Code := bodyIn 2 (loopsIn B19)
noncomputable def B19_0 : Code := bodyIn 0 (loopsIn B19)
def N19 : Nrms := [(6, N19_6), (4, N19_4), (2, N19_2), (0, N19_0)]
theorem ok19 : FnOk Try.prog 19 Try.f19 89 B19 R19 := ⟨by kernel_rfl, by kernel_rfl, by kernel_rfl, by kernel_rfl, by decide +kernel⟩

/-- rime/rimeref12.Mac -/
noncomputable def B25 : Code := (Try.f25.body.getD .skip)
def S25 : Sig := { ps := [.val, .view .u8 1], rs := [.val] }
def R25 : List ResultVar := [.cell 4 58]
def K25 : List Nat := [1, 2, 4, 5, 6, 7, 8, 9, 10, 11, 12, 13, 16, 26, 41, 67]
def N25_6 : Nrm := { slots := [.tmp 4, .tmp 9, .tmp 12, .tmp 13], items := [4, 9, 12] }
def N25_4 : Nrm := { slots := [.tmp 1, .tmp 2, .tmp 4, .tmp 8, .tmp 9, .tmp 10], items := [1, 2, 4, 8, 9] }
def N25_2 : Nrm := { slots := [.tmp 1, .tmp 2, .tmp 4, .tmp 5, .tmp 7], items := [1, 2, 4, 5] }
def N25_0 : Nrm := { slots := [.tmp 1, .tmp 2, .tmp 4, .tmp 5, .tmp 6], items := [1, 2, 4, 5] }
noncomputable def B25_6 : Code := bodyIn 6 (loopsIn B25)
noncomputable def B25_4 : Code := bodyIn 4 (loopsIn B25)
noncomputable def B25_2 : Code := bodyIn 2 (loopsIn B25)
noncomputable def B25_0 : Code := bodyIn 0 (loopsIn B25)
def N25 : Nrms := [(6, N25_6), (4, N25_4), (2, N25_2), (0, N25_0)]
theorem ok25 : FnOk Try.prog 25 Try.f25 83 B25 R25 := ⟨by kernel_rfl, by kernel_rfl, by kernel_rfl, by kernel_rfl, by decide +kernel⟩

/-- rime/rimeref12.Open -/
noncomputable def B27 : Code := (Try.f27.body.getD .skip)
def S27 : Sig := { ps := [.val, .val, .view .u8 1, .view .u8 1], rs := [.fresh .u8 1, .val] }
def R27 : List ResultVar := [.tmp 8, .tmp 9]
def K27 : List Nat := [2, 3, 4, 5, 8, 9, 10, 11, 12, 13, 19, 28, 40]
def N27_0 : Nrm := { slots := [.tmp 3, .tmp 4, .tmp 5, .tmp 10, .tmp 11, .tmp 12], items := [3, 4, 5, 11] }
noncomputable def B27_0 : Code := bodyIn 0 (loopsIn B27)
def N27 : Nrms := [(0, N27_0)]
theorem ok27 : FnOk Try.prog 27 Try.f27 51 B27 R27 := ⟨by kernel_rfl, by kernel_rfl, by kernel_rfl, by kernel_rfl, by decide +kernel⟩

/-- rime/rimeref12.Seal -/
noncomputable def B29 : Code := (Try.f29.body.getD .skip)
def S29 : Sig := { ps := [.val, .val, .view .u8 1, .view .u8 1], rs := [.fresh .u8 1] }
def R29 : List ResultVar := [.tmp 8]
def K29 : List Nat := [2, 3, 4, 5, 8, 9, 11]
def N29 : Nrms := []
theorem ok29 : FnOk Try.prog 29 Try.f29 27 B29 R29 := ⟨by kernel_rfl, by kernel_rfl, by kernel_rfl, by kernel_rfl, by decide +kernel⟩

/-- rime/rimeref12.Unbox -/
noncomputable def B34 : Code := (Try.f34.body.getD .skip)
def S34 : Sig := { ps := [.val, .view .u8 1, .view .u8 1], rs := [.fresh .u8 1, .val, .val] }
def R34 : List ResultVar := [.tmp 6, .tmp 7, .tmp 8]
def K34 : List Nat := [1, 2, 3, 6, 7, 8, 9, 10, 11, 12, 13, 16, 38, 43, 64]
def N34_0 : Nrm := { slots := [.tmp 1, .tmp 2, .tmp 3, .tmp 9, .tmp 10, .tmp 11], items := [1, 2, 3, 9] }
noncomputable def B34_0 : Code := bodyIn 0 (loopsIn B34)
def N34 : Nrms := [(0, N34_0)]
theorem ok34 : FnOk Try.prog 34 Try.f34 68 B34 R34 := ⟨by kernel_rfl, by kernel_rfl, by kernel_rfl, by kernel_rfl, by decide +kernel⟩

/-- rime/rimeref12.Box -/
noncomputable def B38 : Code := (Try.f38.body.getD .skip)
def S38 : Sig := { ps := [.val, .val, .view .u8 1, .view .u8 1], rs := [.fresh .u8 1, .val] }
def R38 : List ResultVar := [.tmp 8, .tmp 9]
def K38 : List Nat := [1, 2, 3, 4, 8, 9, 10, 11, 13]
def N38 : Nrms := []
theorem ok38 : FnOk Try.prog 38 Try.f38 26 B38 R38 := ⟨by kernel_rfl, by kernel_rfl, by kernel_rfl, by kernel_rfl, by decide +kernel⟩

/-- rime/rimeref12.low -/
noncomputable def B45 : Code := (Try.f45.body.getD .skip)
def S45 : Sig := { ps := [.view .u8 1], rs := [.val] }
def R45 : List ResultVar := [.tmp 2]
def K45 : List Nat := [0, 2]
def N45 : Nrms := []
theorem ok45 : FnOk Try.prog 45 Try.f45 25 B45 R45 := ⟨by kernel_rfl, by kernel_rfl, by kernel_rfl, by kernel_rfl, by decide +kernel⟩

/-- rime/rimeref12.quarter -/
noncomputable def B46 : Code := (Try.f46.body.getD .skip)
def S46 : Sig := { ps := [.view .u32 1, .val, .val, .val, .val], rs := [] }
def R46 : List ResultVar := []
def K46 : List Nat := [0, 1, 2, 3, 4]
def N46 : Nrms := []
theorem ok46 : FnOk Try.prog 46 Try.f46 110 B46 R46 := ⟨by kernel_rfl, by kernel_rfl, by kernel_rfl, by kernel_rfl, by decide +kernel⟩

/-- rime/rimeref12.number -/
noncomputable def B64 : Code := (Try.f64.body.getD .skip)
def S64 : Sig := { ps := [.view .u8 1], rs := [.val] }
def R64 : List ResultVar := [.cell 2 138]
def K64 : List Nat := [0, 2, 3, 4, 8]
def N64_0 : Nrm := { slots := [.tmp 0, .tmp 2, .tmp 3, .tmp 4], items := [0, 2, 3] }
noncomputable def B64_0 : Code := bodyIn 0 (loopsIn B64)
def N64 : Nrms := [(0, N64_0)]
theorem ok64 : FnOk Try.prog 64 Try.f64 30 B64 R64 := ⟨by kernel_rfl, by kernel_rfl, by kernel_rfl, by kernel_rfl, by decide +kernel⟩

/-- rime/rimeref12.times -/
noncomputable def B65 : Code := (Try.f65.body.getD .skip)
def S65 : Sig := { ps := [.val, .val], rs := [.val] }
def R65 : List ResultVar := [.cell 4 138]
def K65 : List Nat := [2, 3, 4, 5, 6, 7, 8, 11, 15]
def N65_2 : Nrm := { slots := [.tmp 2, .tmp 3, .tmp 4, .tmp 5, .tmp 6, .tmp 7, .tmp 8], items := [2, 3, 4, 9] }
def N65_0 : Nrm := { slots := [.tmp 2, .tmp 3, .tmp 4, .tmp 5, .tmp 6], items := [2, 3, 4, 9] }
noncomputable def B65_2 : Code := bodyIn 2 (loopsIn B65)
noncomputable def B65_0 : Code := bodyIn 0 (loopsIn B65)
def N65 : Nrms := [(2, N65_2), (0, N65_0)]
theorem ok65 : FnOk Try.prog 65 Try.f65 54 B65 R65 := ⟨by kernel_rfl, by kernel_rfl, by kernel_rfl, by kernel_rfl, by decide +kernel⟩

/-- rime/rimeref12.plus -/
noncomputable def B66 : Code := (Try.f66.body.getD .skip)
def S66 : Sig := { ps := [.val, .val], rs := [.val] }
def R66 : List ResultVar := [.cell 4 138]
def K66 : List Nat := [2, 3, 4, 5, 6, 8]
def N66_0 : Nrm := { slots := [.tmp 2, .tmp 3, .tmp 4, .tmp 5, .tmp 6], items := [2, 3, 4] }
noncomputable def B66_0 : Code := bodyIn 0 (loopsIn B66)
def N66 : Nrms := [(0, N66_0)]
theorem ok66 : FnOk Try.prog 66 Try.f66 29 B66 R66 := ⟨by kernel_rfl, by kernel_rfl, by kernel_rfl, by kernel_rfl, by decide +kernel⟩

/-- rime/rimeref12.tag -/
noncomputable def B68 : Code := (Try.f68.body.getD .skip)
def S68 : Sig := { ps := [.val, .val, .view .u8 1, .view .u8 1], rs := [.val] }
def R68 : List ResultVar := [.cell 8 58]
def K68 : List Nat := [2, 3, 4, 5, 8, 9, 10, 11]
def N68 : Nrms := []
theorem ok68 : FnOk Try.prog 68 Try.f68 39 B68 R68 := ⟨by kernel_rfl, by kernel_rfl, by kernel_rfl, by kernel_rfl, by decide +kernel⟩

/-- rime/rimeref12.Numbered -/
noncomputable def B70 : Code := (Try.f70.body.getD .skip)
def S70 : Sig := { ps := [.val], rs := [.val] }
def R70 : List ResultVar := [.cell 2 26]
def K70 : List Nat := [0, 2, 3, 4, 6]
def N70_0 : Nrm := { slots := [.tmp 0, .tmp 2, .tmp 3, .tmp 4], items := [2, 3] }
noncomputable def B70_0 : Code := bodyIn 0 (loopsIn B70)
def N70 : Nrms := [(0, N70_0)]
theorem ok70 : FnOk Try.prog 70 Try.f70 19 B70 R70 := ⟨by kernel_rfl, by kernel_rfl, by kernel_rfl, by kernel_rfl, by decide +kernel⟩

/-- rime/rimeref12.turned -/
noncomputable def B93 : Code := (Try.f93.body.getD .skip)
def S93 : Sig := { ps := [.val, .val], rs := [.val] }
def R93 : List ResultVar := [.tmp 4]
def K93 : List Nat := [0, 1, 4]
def N93 : Nrms := []
theorem ok93 : FnOk Try.prog 93 Try.f93 13 B93 R93 := ⟨by kernel_rfl, by kernel_rfl, by kernel_rfl, by kernel_rfl, by decide +kernel⟩

/-- rime/rimeref12.mod -/
noncomputable def B95 : Code := (Try.f95.body.getD .skip)
def S95 : Sig := { ps := [.view .u32 1], rs := [.val] }
def R95 : List ResultVar := [.cell 2 138]
def K95 : List Nat := [0, 2, 3, 4, 5, 6, 7, 8, 9, 15, 19, 31, 50]
def N95_4 : Nrm := { slots := [.tmp 0, .tmp 2, .tmp 3, .tmp 4, .tmp 5, .tmp 6, .tmp 7, .tmp 8], items := [0, 2, 3, 4] }
def N95_2 : Nrm := { slots := [.tmp 0, .tmp 2, .tmp 3, .tmp 4, .tmp 5, .tmp 6], items := [0, 2, 3, 4] }
def N95_0 : Nrm := { slots := [.tmp 0, .tmp 2, .tmp 3, .tmp 4, .tmp 5], items := [0, 2, 3, 4] }
noncomputable def B95_4 : Code := bodyIn 4 (loopsIn B95)
noncomputable def B95_2 : Code := bodyIn 2 (loopsIn B95)
noncomputable def B95_0 : Code := bodyIn 0 (loopsIn B95)
def N95 : Nrms := [(4, N95_4), (2, N95_2), (0, N95_0)]
theorem ok95 : FnOk Try.prog 95 Try.f95 55 B95 R95 := ⟨by kernel_rfl, by kernel_rfl, by kernel_rfl, by kernel_rfl, by decide +kernel⟩

/-- rime/rimeref12.filled -/
noncomputable def B97 : Code := (Try.f97.body.getD .skip)
def S97 : Sig := { ps := [.view .u8 1], rs := [.fresh .u8 1] }
def R97 : List ResultVar := [.tmp 2]
def K97 : List Nat := [0, 2, 6]
def N97_0 : Nrm := { slots := [.row 0 1000000 .u8 1], items := [] }
noncomputable def B97_0 : Code := bodyIn 0 (loopsIn B97)
def N97 : Nrms := [(0, N97_0)]
theorem ok97 : FnOk Try.prog 97 Try.f97 11 B97 R97 := ⟨by kernel_rfl, by kernel_rfl, by kernel_rfl, by kernel_rfl, by decide +kernel⟩

/-- rime/rimeref12.eight -/
noncomputable def B98 : Code := (Try.f98.body.getD .skip)
def S98 : Sig := { ps := [.val], rs := [.fresh .u8 1] }
def R98 : List ResultVar := [.tmp 2]
def K98 : List Nat := [0, 2, 3, 4, 6]
def N98_0 : Nrm := { slots := [.tmp 0, .row 3 1000003 .u8 1, .tmp 4], items := [] }
noncomputable def B98_0 : Code := bodyIn 0 (loopsIn B98)
def N98 : Nrms := [(0, N98_0)]
theorem ok98 : FnOk Try.prog 98 Try.f98 20 B98 R98 := ⟨by kernel_rfl, by kernel_rfl, by kernel_rfl, by kernel_rfl, by decide +kernel⟩

/-- rime/rimeref12.prime -/
noncomputable def B119 : Code := (Try.f119.body.getD .skip)
def S119 : Sig := { ps := [], rs := [.val] }
def R119 : List ResultVar := [.cell 0 138]
def K119 : List Nat := [0]
def N119 : Nrms := []
theorem ok119 : FnOk Try.prog 119 Try.f119 2 B119 R119 := ⟨by kernel_rfl, by kernel_rfl, by kernel_rfl, by kernel_rfl, by decide +kernel⟩

/-- rime/rimeref12.below -/
noncomputable def B120 : Code := (Try.f120.body.getD .skip)
def S120 : Sig := { ps := [.val, .val], rs := [.val] }
def R120 : List ResultVar := [.tmp 4]
def K120 : List Nat := [2, 3, 4, 5, 7, 16]
def N120_0 : Nrm := { slots := [.tmp 2, .tmp 3, .tmp 5], items := [2, 3] }
noncomputable def B120_0 : Code := bodyIn 0 (loopsIn B120)
def N120 : Nrms := [(0, N120_0)]
theorem ok120 : FnOk Try.prog 120 Try.f120 24 B120 R120 := ⟨by kernel_rfl, by kernel_rfl, by kernel_rfl, by kernel_rfl, by decide +kernel⟩

/-- rime/rimeref12.minus -/
noncomputable def B121 : Code := (Try.f121.body.getD .skip)
def S121 : Sig := { ps := [.val, .val], rs := [.val] }
def R121 : List ResultVar := [.cell 4 138]
def K121 : List Nat := [2, 3, 4, 5, 6, 7, 9]
def N121_0 : Nrm := { slots := [.tmp 2, .tmp 3, .tmp 4, .tmp 5, .tmp 6], items := [2, 3, 4] }
noncomputable def B121_0 : Code := bodyIn 0 (loopsIn B121)
def N121 : Nrms := [(0, N121_0)]
theorem ok121 : FnOk Try.prog 121 Try.f121 30 B121 R121 := ⟨by kernel_rfl, by kernel_rfl, by kernel_rfl, by kernel_rfl, by decide +kernel⟩

end Go.Proofs.Ytiaddnmloonhgaa

/- What rime/seal.lowest comes to. MADE BY PROGRAM (wip/tools/mkfn.py, EngGen.lean). -/
namespace Go.Proofs.Ytiaddnmloonhgaa
open Go Go.Eng
set_option maxRecDepth 100000
set_option linter.unusedVariables false

def f42_0_sh : Shp := { n := 22, lo := 1, slots := [(3, .one (.int Go.IntKind.u64)), (6, .one (.fix (Go.Eng.At.own 0))), (7, .one (.int Go.IntKind.i64)), (8, .one (.int Go.IntKind.i64))], items := [(0, .view Go.IntKind.u8 1)] }
def f42_0_ex1 : Shp := { n := 22, lo := 1, slots := [(9, .one (.bool)), (3, .one (.int Go.IntKind.u64)), (6, .one (.fix (Go.Eng.At.own 0))), (7, .one (.int Go.IntKind.i64)), (8, .one (.int Go.IntKind.i64))], items := [(0, .view Go.IntKind.u8 1)] }
def f42_0_st {R : Type} (N : Nat) (self : Int → Int → Int → List Int → Option R) (k1 : Bool → Int → Int → Int → List Int → Option R) (x1 : Int) (x2 : Int) (x3 : Int) (x4 : List Int) : Option R :=
  bif Decidable.decide (x3 < x2) then
  bif Decidable.decide (0 ≤ x3) && Decidable.decide (x3 < ↑(Go.Eng.rowLen 1 x4)) then
    let v0 : Int := Go.IntKind.i64.wrap (8 * x3);
    bif Decidable.decide (0 ≤ v0) then
      let v1 : Int := Go.IntKind.u64.wrap (x4.getD (Go.Eng.mulE x3.toNat 1) 0);
      let v2 : Int := Go.Eng.shlI Go.IntKind.u64 v1 v0;
      let v3 : Int := Go.Eng.orI Go.IntKind.u64 x1 v2;
      let v4 : Int := Go.IntKind.i64.wrap (x3 + 1);
      self v3 x2 v4 x4
    else Option.none
  else Option.none
else k1 (Decidable.decide (x3 < x2)) x1 x2 x3 x4
def f42_0_lp {R : Type} (N : Nat) (k1 : Bool → Int → Int → Int → List Int → Option R) : Nat → Int → Int → Int → List Int → Option R
  | 0, _, _, _, _ => none
  | n + 1, x1, x2, x3, x4 => f42_0_st N (f42_0_lp N k1 n) k1 x1 x2 x3 x4
def f42_0_F (N : Nat) : (R : Type) → List Leaf → (X → AS → Option R) → Option R := fun _ ls K => match ls with
  | [.i x1, .i x2, .i x3, .l x4] => f42_0_lp N (fun y1 y2 y3 y4 y5 => K (Go.Eng.X.normal) (fill f42_0_ex1 [.b y1, .i y2, .i y3, .i y4, .l y5])) N x1 x2 x3 x4
  | _ => none
def f42_raw {R : Type} (N : Nat) (xs : List Int) (k : List DV → Option R) : Option R :=
 f42_0_lp N (fun w0_1 w0_2 w0_3 w0_4 w0_5 => k [Go.Eng.DV.v (Go.Eng.SV.one (Go.Eng.At.int Go.IntKind.u64 w0_2))]) N 0 (↑(Go.Eng.rowLen 1 xs)) 0 xs


noncomputable def E42 (N : Nat) : Env := { Θ := Th, Γ := [], K := K42, ν := N42, fuel := 0, lp := [(0, mkL N42_0 f42_0_sh (f42_0_F N))] }

theorem f42_0_st_eq {R : Type} (N : Nat) (K : X → AS → Option R) (n : Nat) (x1 : Int) (x2 : Int) (x3 : Int) (x4 : List Int) : roundsOf (E42 N) N42_0 0 B42_0 K (n + 1) (fill f42_0_sh [.i x1, .i x2, .i x3, .l x4]) = f42_0_st N (fun x1 x2 x3 x4 => roundsOf (E42 N) N42_0 0 B42_0 K n (fill f42_0_sh [.i x1, .i x2, .i x3, .l x4])) (fun y1 y2 y3 y4 y5 => K (Go.Eng.X.normal) (fill f42_0_ex1 [.b y1, .i y2, .i y3, .i y4, .l y5])) x1 x2 x3 x4 := by kernel_rfl
theorem f42_0_lp_eq {R : Type} (N : Nat) (K : X → AS → Option R) : ∀ (n : Nat) (x1 : Int) (x2 : Int) (x3 : Int) (x4 : List Int), roundsOf (E42 N) N42_0 0 B42_0 K n (fill f42_0_sh [.i x1, .i x2, .i x3, .l x4]) = f42_0_lp N (fun y1 y2 y3 y4 y5 => K (Go.Eng.X.normal) (fill f42_0_ex1 [.b y1, .i y2, .i y3, .i y4, .l y5])) n x1 x2 x3 x4
  | 0, _, _, _, _ => rfl
  | n + 1, x1, x2, x3, x4 => by
    rw [f42_0_st_eq, f42_0_lp, show (fun x1 x2 x3 x4 => roundsOf (E42 N) N42_0 0 B42_0 K n (fill f42_0_sh [.i x1, .i x2, .i x3, .l x4])) = f42_0_lp N (fun y1 y2 y3 y4 y5 => K (Go.Eng.X.normal) (fill f42_0_ex1 [.b y1, .i y2, .i y3, .i y4, .l y5])) n from by funext x1 x2 x3 x4; exact f42_0_lp_eq N K n x1 x2 x3 x4]
theorem f42_0_ok (N : Nat) (hlp : LoopsOk Try.prog (E42 N).lp B42_0) (hΓ : CtxOk Try.prog (E42 N).Γ) : LoopOk Try.prog (mkL N42_0 f42_0_sh (f42_0_F N)) 0 B42_0 := by
  refine loopOk_of (E := E42 N) thOk hΓ mixed hlp ?_
  intro R ls K r h
  unfold f42_0_F at h
  split at h
  · exact ⟨N, by rw [f42_0_lp_eq]; exact h⟩
  · cases h

theorem lok42_0 (N : Nat) (hΓ : CtxOk Try.prog []) : LoopOk Try.prog (mkL N42_0 f42_0_sh (f42_0_F N)) 0 B42_0 := f42_0_ok N (loopsOk_of (l := []) (by kernel_rfl) trivial) hΓ
theorem f42_contract (N : Nat) (hΓ : CtxOk Try.prog []) : Contract Try.prog 42 { sig := S42, impl := fun _ ds k => call (E42 N) S42 22 B42 R42 ds k } :=
  call_contract (E := E42 N) thOk hΓ mixed ok42.look ok42.body ok42.n ok42.rv ok42.name rfl (by decide) (loopsOk_of (l := [(0, B42_0)]) (by kernel_rfl) (allOk_cons (L := mkL N42_0 f42_0_sh (f42_0_F N)) rfl (lok42_0 N hΓ) trivial))
theorem f42_raw_eq {R : Type} (N : Nat) (xs : List Int) (k : List DV → Option R) : call (E42 N) S42 22 B42 R42 [.lst .u8 1 xs] k = f42_raw N xs k := by kernel_rfl
end Go.Proofs.Ytiaddnmloonhgaa

/- What rime/seal.bytesOf comes to. MADE BY PROGRAM (wip/tools/mkfn.py, EngGen.lean). -/
namespace Go.Proofs.Ytiaddnmloonhgaa
open Go Go.Eng
set_option maxRecDepth 100000
set_option linter.unusedVariables false

def f44_0_sh : Shp := { n := 21, lo := 2, slots := [(0, .one (.int Go.IntKind.u64)), (5, .one (.fix (Go.Eng.At.own 1000005))), (7, .one (.int Go.IntKind.i64)), (8, .one (.int Go.IntKind.i64))], items := [(1000005, .row Go.IntKind.u8 1)] }
def f44_0_ex1 : Shp := { n := 21, lo := 2, slots := [(9, .one (.bool)), (0, .one (.int Go.IntKind.u64)), (5, .one (.fix (Go.Eng.At.own 1000005))), (7, .one (.int Go.IntKind.i64)), (8, .one (.int Go.IntKind.i64))], items := [(1000005, .row Go.IntKind.u8 1)] }
def f44_0_st {R : Type} (N : Nat) (self : Int → Int → Int → List Int → Option R) (k1 : Bool → Int → Int → Int → List Int → Option R) (x1 : Int) (x2 : Int) (x3 : Int) (x4 : List Int) : Option R :=
  bif Decidable.decide (x3 < x2) then
  let v0 : Int := Go.IntKind.i64.wrap (8 * x3);
  bif Decidable.decide (0 ≤ v0) then
    let v1 : Int := Go.Eng.shrI Go.IntKind.u64 x1 v0;
    let v2 : Int := Go.IntKind.u8.wrap v1;
    let v3 : List Int := (Go.Eng.zerosOf (1 * 1)).set 0 v2;
    bif ((2 * (Go.Eng.rowLen 1 x4 + Go.Eng.rowLen 1 v3) + 192) * 1).ble Go.Eng.big48 && (Go.Eng.rowLen 1 x4 + Go.Eng.rowLen 1 v3).ble Go.Eng.big48 then
      let v4 : Int := Go.IntKind.i64.wrap (x3 + 1);
      let v5 : List Int := x4 ++ v3;
      self x1 x2 v4 v5
    else Option.none
  else Option.none
else k1 (Decidable.decide (x3 < x2)) x1 x2 x3 x4
def f44_0_lp {R : Type} (N : Nat) (k1 : Bool → Int → Int → Int → List Int → Option R) : Nat → Int → Int → Int → List Int → Option R
  | 0, _, _, _, _ => none
  | n + 1, x1, x2, x3, x4 => f44_0_st N (f44_0_lp N k1 n) k1 x1 x2 x3 x4
def f44_0_F (N : Nat) : (R : Type) → List Leaf → (X → AS → Option R) → Option R := fun _ ls K => match ls with
  | [.i x1, .i x2, .i x3, .l x4] => f44_0_lp N (fun y1 y2 y3 y4 y5 => K (Go.Eng.X.normal) (fill f44_0_ex1 [.b y1, .i y2, .i y3, .i y4, .l y5])) N x1 x2 x3 x4
  | _ => none
def f44_raw {R : Type} (N : Nat) (n : Int) (size : Int) (k : List DV → Option R) : Option R :=
 f44_0_lp N (fun w0_1 w0_2 w0_3 w0_4 w0_5 => k [Go.Eng.DV.lst Go.IntKind.u8 1 w0_5]) N n size 0 []


noncomputable def E44 (N : Nat) : Env := { Θ := Th, Γ := [], K := K44, ν := N44, fuel := 0, lp := [(0, mkL N44_0 f44_0_sh (f44_0_F N))] }

theorem f44_0_st_eq {R : Type} (N : Nat) (K : X → AS → Option R) (n : Nat) (x1 : Int) (x2 : Int) (x3 : Int) (x4 : List Int) : roundsOf (E44 N) N44_0 0 B44_0 K (n + 1) (fill f44_0_sh [.i x1, .i x2, .i x3, .l x4]) = f44_0_st N (fun x1 x2 x3 x4 => roundsOf (E44 N) N44_0 0 B44_0 K n (fill f44_0_sh [.i x1, .i x2, .i x3, .l x4])) (fun y1 y2 y3 y4 y5 => K (Go.Eng.X.normal) (fill f44_0_ex1 [.b y1, .i y2, .i y3, .i y4, .l y5])) x1 x2 x3 x4 := by kernel_rfl
theorem f44_0_lp_eq {R : Type} (N : Nat) (K : X → AS → Option R) : ∀ (n : Nat) (x1 : Int) (x2 : Int) (x3 : Int) (x4 : List Int), roundsOf (E44 N) N44_0 0 B44_0 K n (fill f44_0_sh [.i x1, .i x2, .i x3, .l x4]) = f44_0_lp N (fun y1 y2 y3 y4 y5 => K (Go.Eng.X.normal) (fill f44_0_ex1 [.b y1, .i y2, .i y3, .i y4, .l y5])) n x1 x2 x3 x4
  | 0, _, _, _, _ => rfl
  | n + 1, x1, x2, x3, x4 => by
    rw [f44_0_st_eq, f44_0_lp, show (fun x1 x2 x3 x4 => roundsOf (E44 N) N44_0 0 B44_0 K n (fill f44_0_sh [.i x1, .i x2, .i x3, .l x4])) = f44_0_lp N (fun y1 y2 y3 y4 y5 => K (Go.Eng.X.normal) (fill f44_0_ex1 [.b y1, .i y2, .i y3, .i y4, .l y5])) n from by funext x1 x2 x3 x4; exact f44_0_lp_eq N K n x1 x2 x3 x4]
theorem f44_0_ok (N : Nat) (hlp : LoopsOk Try.prog (E44 N).lp B44_0) (hΓ : CtxOk Try.prog (E44 N).Γ) : LoopOk Try.prog (mkL N44_0 f44_0_sh (f44_0_F N)) 0 B44_0 := by
  refine loopOk_of (E := E44 N) thOk hΓ mixed hlp ?_
  intro R ls K r h
  unfold f44_0_F at h
  split at h
  · exact ⟨N, by rw [f44_0_lp_eq]; exact h⟩
  · cases h

theorem lok44_0 (N : Nat) (hΓ : CtxOk Try.prog []) : LoopOk Try.prog (mkL N44_0 f44_0_sh (f44_0_F N)) 0 B44_0 := f44_0_ok N (loopsOk_of (l := []) (by kernel_rfl) trivial) hΓ
theorem f44_contract (N : Nat) (hΓ : CtxOk Try.prog []) : Contract Try.prog 44 { sig := S44, impl := fun _ ds k => call (E44 N) S44 21 B44 R44 ds k } :=
  call_contract (E := E44 N) thOk hΓ mixed ok44.look ok44.body ok44.n ok44.rv ok44.name rfl (by decide) (loopsOk_of (l := [(0, B44_0)]) (by kernel_rfl) (allOk_cons (L := mkL N44_0 f44_0_sh (f44_0_F N)) rfl (lok44_0 N hΓ) trivial))
theorem f44_raw_eq {R : Type} (N : Nat) (n : Int) (size : Int) (k : List DV → Option R) : call (E44 N) S44 21 B44 R44 [.v (.one (.int .u64 n)), .v (.one (.int .i64 size))] k = f44_raw N n size k := by kernel_rfl
end Go.Proofs.Ytiaddnmloonhgaa

/- What math/bits.RotateLeft32 comes to. MADE BY PROGRAM (wip/tools/mkfn.py, EngGen.lean). -/
namespace Go.Proofs.Ytiaddnmloonhgaa
open Go Go.Eng
set_option maxRecDepth 100000
set_option linter.unusedVariables false

def f92_raw {R : Type} (N : Nat) (x : Int) (s : Int) (k : List DV → Option R) : Option R :=
 let v0 : Int := Go.IntKind.u64.wrap s;
let v1 : Int := Go.Eng.andI Go.IntKind.u64 v0 31;
let v2 : Int := Go.IntKind.u64.wrap (32 - v1);
bif Decidable.decide (0 ≤ v2) then
 let v3 : Int := Go.Eng.shlI Go.IntKind.u32 x v1;
 let v4 : Int := Go.Eng.shrI Go.IntKind.u32 x v2;
 let v5 : Int := Go.Eng.orI Go.IntKind.u32 v3 v4;
 k [Go.Eng.DV.v (Go.Eng.SV.one (Go.Eng.At.int Go.IntKind.u32 v5))]
else Option.none


noncomputable def E92 (N : Nat) : Env := { Θ := Th, Γ := [], K := K92, ν := N92, fuel := 0, lp := [] }


theorem f92_contract (N : Nat) (hΓ : CtxOk Try.prog []) : Contract Try.prog 92 { sig := S92, impl := fun _ ds k => call (E92 N) S92 17 B92 R92 ds k } :=
  call_contract (E := E92 N) thOk hΓ mixed ok92.look ok92.body ok92.n ok92.rv ok92.name rfl (by decide) (loopsOk_of (l := []) (by kernel_rfl) trivial)
theorem f92_raw_eq {R : Type} (N : Nat) (x : Int) (s : Int) (k : List DV → Option R) : call (E92 N) S92 17 B92 R92 [.v (.one (.int .u32 x)), .v (.one (.int .i64 s))] k = f92_raw N x s k := by kernel_rfl
end Go.Proofs.Ytiaddnmloonhgaa

/- What small functions come to, as the callers read it. -/
namespace Go.Proofs.Ytiaddnmloonhgaa
open Go Go.Eng
set_option maxRecDepth 100000

/-! ### RotateLeft32 -/

def rotl (x s : Int) : Int := orI .u32 (shlI .u32 x s) (shrI .u32 x (32 - s))

def I92 : (R : Type) → List DV → (List DV → Option R) → Option R := fun _ ds k => match ds with
  | [.v (.one (.int .u32 x)), .v (.one (.int .i64 s))] => cond (decide (0 ≤ s) && decide (s < 32)) (k [.v (.one (.int .u32 (rotl x s)))]) none
  | _ => none

theorem and31 : ∀ n : Fin 32, andI .u64 (IntKind.u64.wrap (n.val : Int)) 31 = (n.val : Int) ∧ IntKind.u64.wrap (32 - (n.val : Int)) = 32 - (n.val : Int) := by decide +kernel

theorem f92_spec {R : Type} (x s : Int) (k : List DV → Option R) (h : (decide (0 ≤ s) && decide (s < 32)) = true) : f92_raw 0 x s k = k [.v (.one (.int .u32 (rotl x s)))] := by
  simp only [Bool.and_eq_true, decide_eq_true_eq] at h
  obtain ⟨n, rfl⟩ : ∃ n : Nat, s = n := ⟨s.toNat, by omega⟩
  obtain ⟨h1, h2⟩ := and31 ⟨n, by omega⟩
  unfold f92_raw
  simp only [h1, h2]
  rw [show decide (0 ≤ 32 - (n : Int)) = true by simp; omega]
  rfl

theorem c92 : Contract Try.prog 92 { sig := S92, impl := I92 } := by
  refine Contract.refine fun R ds k r h => ⟨_, f92_contract 0 ctxOk_nil, ?_⟩
  unfold I92 at h
  split at h
  · rename_i x s
    rw [show call (E92 0) S92 17 B92 R92 _ k = _ from f92_raw_eq 0 x s k]
    cases hb : (decide (0 ≤ s) && decide (s < 32)) with
    | true => rw [hb] at h; rw [f92_spec x s k hb]; exact h
    | false => rw [hb] at h; cases h
  · cases h

def G43 : Ctx := [(92, { sig := S92, impl := I92 })]
theorem G43_ok : CtxOk Try.prog G43 := ctxOk_cons ok92 rfl c92 ctxOk_nil

end Go.Proofs.Ytiaddnmloonhgaa

/- What rime/seal.quarter comes to. MADE BY PROGRAM (wip/tools/mkfn.py, EngGen.lean). -/
namespace Go.Proofs.Ytiaddnmloonhgaa
open Go Go.Eng
set_option maxRecDepth 100000
set_option linter.unusedVariables false

def f43_raw {R : Type} (N : Nat) (xs : List Int) (a : Int) (b : Int) (c : Int) (d : Int) (k : List DV → Option R) : Option R :=
 bif Decidable.decide (0 ≤ a) && Decidable.decide (a < ↑16) then
 bif Decidable.decide (0 ≤ b) && Decidable.decide (b < ↑16) then
 bif Decidable.decide (0 ≤ a) && Decidable.decide (a < ↑16) then
 bif Decidable.decide (0 ≤ d) && Decidable.decide (d < ↑16) then
 bif Decidable.decide (0 ≤ a) && Decidable.decide (a < ↑16) then
 bif Decidable.decide (0 ≤ d) && Decidable.decide (d < ↑16) then
 bif Decidable.decide (0 ≤ c) && Decidable.decide (c < ↑16) then
 bif Decidable.decide (0 ≤ d) && Decidable.decide (d < ↑16) then
 bif Decidable.decide (0 ≤ c) && Decidable.decide (c < ↑16) then
 bif Decidable.decide (0 ≤ b) && Decidable.decide (b < ↑16) then
 bif Decidable.decide (0 ≤ c) && Decidable.decide (c < ↑16) then
 bif Decidable.decide (0 ≤ b) && Decidable.decide (b < ↑16) then
 bif Decidable.decide (0 ≤ a) && Decidable.decide (a < ↑16) then
 bif Decidable.decide (0 ≤ b) && Decidable.decide (b < ↑16) then
 bif Decidable.decide (0 ≤ a) && Decidable.decide (a < ↑16) then
 bif Decidable.decide (0 ≤ d) && Decidable.decide (d < ↑16) then
 bif Decidable.decide (0 ≤ a) && Decidable.decide (a < ↑16) then
 bif Decidable.decide (0 ≤ d) && Decidable.decide (d < ↑16) then
 bif Decidable.decide (0 ≤ c) && Decidable.decide (c < ↑16) then
 bif Decidable.decide (0 ≤ d) && Decidable.decide (d < ↑16) then
 bif Decidable.decide (0 ≤ c) && Decidable.decide (c < ↑16) then
 bif Decidable.decide (0 ≤ b) && Decidable.decide (b < ↑16) then
 bif Decidable.decide (0 ≤ c) && Decidable.decide (c < ↑16) then
 bif Decidable.decide (0 ≤ b) && Decidable.decide (b < ↑16) then
 let v0 : Int := Go.IntKind.u32.wrap (xs.getD (Go.Eng.mulE a.toNat 1) 0 + xs.getD (Go.Eng.mulE b.toNat 1) 0);
 let v1 : List Int := xs.set (Go.Eng.mulE a.toNat 1) v0;
 let v2 : Int := Go.Eng.xorI Go.IntKind.u32 (v1.getD (Go.Eng.mulE d.toNat 1) 0) (v1.getD (Go.Eng.mulE a.toNat 1) 0);
 let v3 : List Int := v1.set (Go.Eng.mulE d.toNat 1) (Go.Proofs.Ytiaddnmloonhgaa.rotl v2 16);
 let v4 : Int := Go.IntKind.u32.wrap (v3.getD (Go.Eng.mulE c.toNat 1) 0 + v3.getD (Go.Eng.mulE d.toNat 1) 0);
 let v5 : List Int := v3.set (Go.Eng.mulE c.toNat 1) v4;
 let v6 : Int := Go.Eng.xorI Go.IntKind.u32 (v5.getD (Go.Eng.mulE b.toNat 1) 0) (v5.getD (Go.Eng.mulE c.toNat 1) 0);
 let v7 : List Int := v5.set (Go.Eng.mulE b.toNat 1) (Go.Proofs.Ytiaddnmloonhgaa.rotl v6 12);
 let v8 : Int := Go.IntKind.u32.wrap (v7.getD (Go.Eng.mulE a.toNat 1) 0 + v7.getD (Go.Eng.mulE b.toNat 1) 0);
 let v9 : List Int := v7.set (Go.Eng.mulE a.toNat 1) v8;
 let v10 : Int := Go.Eng.xorI Go.IntKind.u32 (v9.getD (Go.Eng.mulE d.toNat 1) 0) (v9.getD (Go.Eng.mulE a.toNat 1) 0);
 let v11 : List Int := v9.set (Go.Eng.mulE d.toNat 1) (Go.Proofs.Ytiaddnmloonhgaa.rotl v10 8);
 let v12 : Int := Go.IntKind.u32.wrap (v11.getD (Go.Eng.mulE c.toNat 1) 0 + v11.getD (Go.Eng.mulE d.toNat 1) 0);
 let v13 : List Int := v11.set (Go.Eng.mulE c.toNat 1) v12;
 let v14 : Int := Go.Eng.xorI Go.IntKind.u32 (v13.getD (Go.Eng.mulE b.toNat 1) 0) (v13.getD (Go.Eng.mulE c.toNat 1) 0);
 let v15 : List Int := v13.set (Go.Eng.mulE b.toNat 1) (Go.Proofs.Ytiaddnmloonhgaa.rotl v14 7);
 k [Go.Eng.DV.obj [Go.Eng.At.ints Go.IntKind.u32 16 v15]]
 else Option.none
 else Option.none
 else Option.none
 else Option.none
 else Option.none
 else Option.none
 else Option.none
 else Option.none
 else Option.none
 else Option.none
 else Option.none
 else Option.none
 else Option.none
 else Option.none
 else Option.none
 else Option.none
 else Option.none
 else Option.none
 else Option.none
 else Option.none
 else Option.none
 else Option.none
 else Option.none
else Option.none


noncomputable def E43 (N : Nat) : Env := { Θ := Th, Γ := G43, K := K43, ν := N43, fuel := 0, lp := [] }


theorem f43_contract (N : Nat) (hΓ : CtxOk Try.prog G43) : Contract Try.prog 43 { sig := S43, impl := fun _ ds k => call (E43 N) S43 126 B43 R43 ds k } :=
  call_contract (E := E43 N) thOk hΓ mixed ok43.look ok43.body ok43.n ok43.rv ok43.name rfl (by decide) (loopsOk_of (l := []) (by kernel_rfl) trivial)
theorem f43_raw_eq {R : Type} (N : Nat) (xs : List Int) (a : Int) (b : Int) (c : Int) (d : Int) (k : List DV → Option R) : call (E43 N) S43 126 B43 R43 [.obj [.ints .u32 16 xs], .v (.one (.int .i64 a)), .v (.one (.int .i64 b)), .v (.one (.int .i64 c)), .v (.one (.int .i64 d))] k = f43_raw N xs a b c d k := by kernel_rfl
end Go.Proofs.Ytiaddnmloonhgaa

/- The functions beneath the block, as it reads them. -/
namespace Go.Proofs.Ytiaddnmloonhgaa
open Go Go.Eng
set_option maxRecDepth 100000

/-! ### lowest -/

def lowGo : List Int → Nat → Int → Int
  | [], _, n => n
  | x :: r, i, n => lowGo r (i + 1) (orI .u64 n (shlI .u64 (IntKind.u64.wrap x) (8 * i)))

def lowL (xs : List Int) : Int := lowGo xs 0 0

def I42 : (R : Type) → List DV → (List DV → Option R) → Option R := fun _ ds k => match ds with
  | [.lst .u8 1 xs] => cond (Nat.ble xs.length 1048576) (k [.v (.one (.int .u64 (lowL xs)))]) none
  | _ => none

theorem wrap64_small {n : Int} (h0 : 0 ≤ n) (h : n < 2 ^ 62) : IntKind.i64.wrap n = n := by
  unfold IntKind.wrap
  simp only [IntKind.bits, IntKind.signed]
  have : n % 2 ^ 64 = n := Int.emod_eq_of_lt h0 (by omega)
  simp only [this]
  rw [if_neg]
  simp; omega

theorem wrap64_nat {n : Nat} (h : n < 2 ^ 62) : IntKind.i64.wrap (n : Int) = n := wrap64_small (by omega) (by omega)

theorem drop_getD {xs : List Int} {i : Nat} (h : i < xs.length) : xs.drop i = xs.getD i 0 :: xs.drop (i + 1) := by
  rw [List.drop_eq_getElem_cons h, List.getD_eq_getElem?_getD, List.getElem?_eq_getElem h]; rfl

theorem mulE_one (n : Nat) : mulE n 1 = n := rfl
theorem rowLen_one (xs : List Int) : rowLen 1 xs = xs.length := rfl

theorem f42_loop {R : Type} {N : Nat} (k1 : Bool → Int → Int → Int → List Int → Option R) (xs : List Int) (hl : xs.length ≤ 1048576) :
    ∀ (m i : Nat) (acc : Int), i + m = xs.length → ∀ fuel, m < fuel → f42_0_lp N k1 fuel acc (xs.length : Int) (i : Int) xs = k1 false (lowGo (xs.drop i) i acc) (xs.length : Int) (xs.length : Int) xs := by
  intro m
  induction m with
  | zero =>
    intro i acc h fuel hf
    obtain ⟨f, rfl⟩ : ∃ f, fuel = f + 1 := ⟨fuel - 1, by omega⟩
    have : i = xs.length := by omega
    subst this
    show f42_0_st N (f42_0_lp N k1 f) k1 acc _ _ xs = _
    unfold f42_0_st
    have h1 : decide ((xs.length : Int) < (xs.length : Int)) = false := by simp
    simp only [h1, cond_false, List.drop_length, lowGo]
  | succ m ih =>
    intro i acc h fuel hf
    obtain ⟨f, rfl⟩ : ∃ f, fuel = f + 1 := ⟨fuel - 1, by omega⟩
    show f42_0_st N (f42_0_lp N k1 f) k1 acc _ _ xs = _
    unfold f42_0_st
    have h1 : decide ((i : Int) < (xs.length : Int)) = true := by simp; omega
    have h2 : decide ((0 : Int) ≤ (i : Int)) = true := by simp
    have h3 : IntKind.i64.wrap (8 * (i : Int)) = ((8 * i : Nat) : Int) := by rw [show 8 * (i : Int) = ((8 * i : Nat) : Int) by omega]; exact wrap64_nat (by omega)
    have h4 : IntKind.i64.wrap ((i : Int) + 1) = ((i + 1 : Nat) : Int) := by rw [show (i : Int) + 1 = ((i + 1 : Nat) : Int) by omega]; exact wrap64_nat (by omega)
    have h5 : decide ((0 : Int) ≤ ((8 * i : Nat) : Int)) = true := by simp; omega
    have h6 : (decide ((0 : Int) ≤ (i : Int)) && decide ((i : Int) < ((rowLen 1 xs : Nat) : Int))) = true := by rw [h2]; exact h1
    rw [h1, h6, h3, h4]
    simp only [h5, cond_true, mulE_one, Int.toNat_natCast]
    rw [ih (i + 1) _ (by omega) f (by omega), drop_getD (show i < xs.length by omega)]
    simp only [lowGo]
    rfl

theorem c42 : Contract Try.prog 42 { sig := S42, impl := I42 } := by
  refine Contract.refine fun R ds k r h => ?_
  unfold I42 at h
  split at h
  · rename_i xs
    refine ⟨_, f42_contract (xs.length + 1) ctxOk_nil, ?_⟩
    rw [f42_raw_eq]
    cases hb : Nat.ble xs.length 1048576 with
    | true =>
      rw [hb] at h
      unfold f42_raw
      have := f42_loop (N := xs.length + 1) (fun w0_1 w0_2 w0_3 w0_4 w0_5 => k [DV.v (SV.one (At.int IntKind.u64 w0_2))]) xs (Nat.le_of_ble_eq_true hb) xs.length 0 0 (by omega) (xs.length + 1) (by omega)
      exact this.trans h
    | false => rw [hb] at h; cases h
  · exact (Option.some_ne_none _ h.symm).elim

/-! ### bytesOf -/

def bytesGo (n : Int) : Nat → Nat → List Int
  | 0, _ => []
  | m + 1, i => IntKind.u8.wrap (shrI .u64 n (8 * i : Nat)) :: bytesGo n m (i + 1)

def bytesL (n : Int) (m : Nat) : List Int := bytesGo n m 0

def I44 : (R : Type) → List DV → (List DV → Option R) → Option R := fun _ ds k => match ds with
  | [.v (.one (.int .u64 n)), .v (.one (.int .i64 m))] => cond (decide (0 ≤ m) && decide (m ≤ 1048576)) (k [.lst .u8 1 (bytesL n m.toNat)]) none
  | _ => none

theorem f44_loop {R : Type} {N : Nat} (k1 : Bool → Int → Int → Int → List Int → Option R) (n : Int) (size : Nat) (hl : size ≤ 1048576) :
    ∀ (m i : Nat) (acc : List Int), i + m = size → acc.length = i → ∀ fuel, m < fuel → f44_0_lp N k1 fuel n (size : Int) (i : Int) acc = k1 false n (size : Int) (size : Int) (acc ++ bytesGo n m i) := by
  intro m
  induction m with
  | zero =>
    intro i acc h ha fuel hf
    obtain ⟨f, rfl⟩ : ∃ f, fuel = f + 1 := ⟨fuel - 1, by omega⟩
    have : i = size := by omega
    subst this
    show f44_0_st N (f44_0_lp N k1 f) k1 n _ _ acc = _
    unfold f44_0_st
    have h1 : decide ((i : Int) < (i : Int)) = false := by simp
    simp only [h1, cond_false, bytesGo, List.append_nil]
  | succ m ih =>
    intro i acc h ha fuel hf
    obtain ⟨f, rfl⟩ : ∃ f, fuel = f + 1 := ⟨fuel - 1, by omega⟩
    show f44_0_st N (f44_0_lp N k1 f) k1 n _ _ acc = _
    unfold f44_0_st
    have h1 : decide ((i : Int) < (size : Int)) = true := by simp; omega
    have h3 : IntKind.i64.wrap (8 * (i : Int)) = ((8 * i : Nat) : Int) := by rw [show 8 * (i : Int) = ((8 * i : Nat) : Int) by omega]; exact wrap64_nat (by omega)
    have h4 : IntKind.i64.wrap ((i : Int) + 1) = ((i + 1 : Nat) : Int) := by rw [show (i : Int) + 1 = ((i + 1 : Nat) : Int) by omega]; exact wrap64_nat (by omega)
    have h5 : decide ((0 : Int) ≤ ((8 * i : Nat) : Int)) = true := by simp; omega
    have h6 : ∀ y : Int, (zerosOf (1 * 1)).set 0 y = [y] := fun y => rfl
    have h7 : ∀ y : Int, (((2 * (rowLen 1 acc + rowLen 1 [y]) + 192) * 1).ble big48 && (rowLen 1 acc + rowLen 1 [y]).ble big48) = true := by
      intro y
      simp only [rowLen_one, List.length_singleton, ha, big48, Bool.and_eq_true, Nat.ble_eq]
      omega
    simp only [h1, h3, h4, h5, h6, h7, cond_true]
    rw [ih (i + 1) _ (by omega) (by simp [ha]) f (by omega)]
    simp [bytesGo]

theorem c44 : Contract Try.prog 44 { sig := S44, impl := I44 } := by
  refine Contract.refine fun R ds k r h => ?_
  unfold I44 at h
  split at h
  · rename_i n m
    refine ⟨_, f44_contract (m.toNat + 1) ctxOk_nil, ?_⟩
    rw [f44_raw_eq]
    cases hb : (decide (0 ≤ m) && decide (m ≤ 1048576)) with
    | true =>
      rw [hb] at h
      simp only [Bool.and_eq_true, decide_eq_true_eq] at hb
      obtain ⟨s, rfl⟩ : ∃ s : Nat, m = s := ⟨m.toNat, by omega⟩
      unfold f44_raw
      rw [Int.toNat_natCast]
      have := f44_loop (N := s + 1) (fun w0_1 w0_2 w0_3 w0_4 w0_5 => k [DV.lst IntKind.u8 1 w0_5]) n s (by omega) s 0 [] (by omega) rfl (s + 1) (by omega)
      exact this.trans h
    | false => rw [hb] at h; cases h
  · cases h

/-! ### quarter -/

def quarterL (xs : List Int) (a b c d : Nat) : List Int :=
  let v1 := xs.set a (IntKind.u32.wrap (xs.getD a 0 + xs.getD b 0))
  let v3 := v1.set d (rotl (xorI .u32 (v1.getD d 0) (v1.getD a 0)) 16)
  let v5 := v3.set c (IntKind.u32.wrap (v3.getD c 0 + v3.getD d 0))
  let v7 := v5.set b (rotl (xorI .u32 (v5.getD b 0) (v5.getD c 0)) 12)
  let v9 := v7.set a (IntKind.u32.wrap (v7.getD a 0 + v7.getD b 0))
  let v11 := v9.set d (rotl (xorI .u32 (v9.getD d 0) (v9.getD a 0)) 8)
  let v13 := v11.set c (IntKind.u32.wrap (v11.getD c 0 + v11.getD d 0))
  v13.set b (rotl (xorI .u32 (v13.getD b 0) (v13.getD c 0)) 7)

def in16 (a : Int) : Bool := decide (0 ≤ a) && decide (a < 16)

def I43 : (R : Type) → List DV → (List DV → Option R) → Option R := fun _ ds k => match ds with
  | [.obj [.ints .u32 16 xs], .v (.one (.int .i64 a)), .v (.one (.int .i64 b)), .v (.one (.int .i64 c)), .v (.one (.int .i64 d))] =>
    cond (in16 a && (in16 b && (in16 c && in16 d))) (k [.obj [.ints .u32 16 (quarterL xs a.toNat b.toNat c.toNat d.toNat)]]) none
  | _ => none

theorem c43 : Contract Try.prog 43 { sig := S43, impl := I43 } := by
  refine Contract.refine fun R ds k r h => ⟨_, f43_contract 0 G43_ok, ?_⟩
  unfold I43 at h
  split at h
  · rename_i xs a b c d
    rw [f43_raw_eq]
    cases hb : (in16 a && (in16 b && (in16 c && in16 d))) with
    | true =>
      rw [hb] at h
      simp only [Bool.and_eq_true] at hb
      obtain ⟨ha, hb, hc, hd⟩ := hb
      have ha : (decide (0 ≤ a) && decide (a < 16)) = true := ha
      have hb : (decide (0 ≤ b) && decide (b < 16)) = true := hb
      have hc : (decide (0 ≤ c) && decide (c < 16)) = true := hc
      have hd : (decide (0 ≤ d) && decide (d < 16)) = true := hd
      unfold f43_raw
      rw [ha, hb, hc, hd]
      exact h
    | false => rw [hb] at h; cases h
  · cases h

end Go.Proofs.Ytiaddnmloonhgaa
namespace Go.Proofs.Ytiaddnmloonhgaa
open Go Go.Eng

def G18 : Ctx := [(42, { sig := S42, impl := I42 }), (43, { sig := S43, impl := I43 }), (44, { sig := S44, impl := I44 })]
theorem G18_ok : CtxOk Try.prog G18 := ctxOk_cons ok42 rfl c42 (ctxOk_cons ok43 rfl c43 (ctxOk_cons ok44 rfl c44 ctxOk_nil))

end Go.Proofs.Ytiaddnmloonhgaa

/- What (rime/seal.big).carried comes to. MADE BY PROGRAM (wip/tools/mkfn.py, EngGen.lean). -/
namespace Go.Proofs.Ytiaddnmloonhgaa
open Go Go.Eng
set_option maxRecDepth 100000
set_option linter.unusedVariables false

def f94_0_sh : Shp := { n := 31, lo := 1, slots := [(1, .one (.fix (Go.Eng.At.ptr 1 0 Go.Eng.Off.z 5))), (2, .one (.fix (Go.Eng.At.ptr 2 0 Go.Eng.Off.z 5))), (3, .one (.int Go.IntKind.u64)), (5, .one (.int Go.IntKind.i64))], items := [(1, .obj [.ints Go.IntKind.u64 5]), (2, .obj [.ints Go.IntKind.u64 5])] }
def f94_0_ex1 : Shp := { n := 31, lo := 1, slots := [(6, .one (.bool)), (1, .one (.fix (Go.Eng.At.ptr 1 0 Go.Eng.Off.z 5))), (2, .one (.fix (Go.Eng.At.ptr 2 0 Go.Eng.Off.z 5))), (3, .one (.int Go.IntKind.u64)), (5, .one (.int Go.IntKind.i64))], items := [(1, .obj [.ints Go.IntKind.u64 5]), (2, .obj [.ints Go.IntKind.u64 5])] }
def f94_0_st {R : Type} (N : Nat) (self : Int → Int → List Int → List Int → Option R) (k1 : Bool → Int → Int → List Int → List Int → Option R) (x1 : Int) (x2 : Int) (x3 : List Int) (x4 : List Int) : Option R :=
  bif Decidable.decide (x2 < 5) then
  bif Decidable.decide (0 ≤ x2) && Decidable.decide (x2 < ↑5) then
    bif Decidable.decide (0 ≤ x2) && Decidable.decide (x2 < ↑5) then
      bif Decidable.decide (0 ≤ x2) && Decidable.decide (x2 < ↑5) then
        bif Decidable.decide (0 ≤ x2) && Decidable.decide (x2 < ↑5) then
          bif Decidable.decide (0 ≤ x2) && Decidable.decide (x2 < ↑5) then
            let v0 : Int := Go.IntKind.u64.wrap (x3.getD (Go.Eng.mulE x2.toNat 1) 0 + x1);
            let v1 : List Int := x3.set (Go.Eng.mulE x2.toNat 1) v0;
            let v2 : Int := Go.Eng.shrI Go.IntKind.u64 (v1.getD (Go.Eng.mulE x2.toNat 1) 0) 26;
            let v3 : Int := Go.IntKind.i64.wrap (x2 + 1);
            let v4 : Int := Go.Eng.andI Go.IntKind.u64 (v1.getD (Go.Eng.mulE x2.toNat 1) 0) 67108863;
            let v5 : List Int := v1.set (Go.Eng.mulE x2.toNat 1) v4;
            self v2 v3 v5 x4
          else Option.none
        else Option.none
      else Option.none
    else Option.none
  else Option.none
else k1 (Decidable.decide (x2 < 5)) x1 x2 x3 x4
def f94_0_lp {R : Type} (N : Nat) (k1 : Bool → Int → Int → List Int → List Int → Option R) : Nat → Int → Int → List Int → List Int → Option R
  | 0, _, _, _, _ => none
  | n + 1, x1, x2, x3, x4 => f94_0_st N (f94_0_lp N k1 n) k1 x1 x2 x3 x4
def f94_0_F (N : Nat) : (R : Type) → List Leaf → (X → AS → Option R) → Option R := fun _ ls K => match ls with
  | [.i x1, .i x2, .l x3, .l x4] => f94_0_lp N (fun y1 y2 y3 y4 y5 => K (Go.Eng.X.normal) (fill f94_0_ex1 [.b y1, .i y2, .i y3, .l y4, .l y5])) N x1 x2 x3 x4
  | _ => none
def f94_raw {R : Type} (N : Nat) (a : List Int) (k : List DV → Option R) : Option R :=
 f94_0_lp N
 (fun w0_1 w0_2 w0_3 w0_4 w0_5 =>
 let v1 : Int := Go.IntKind.u64.wrap (5 * w0_2);
 let v2 : Int := Go.IntKind.u64.wrap (w0_4.getD (Go.Eng.mulE (Int.toNat 0) 1) 0 + v1);
 let v3 : List Int := w0_4.set (Go.Eng.mulE (Int.toNat 0) 1) v2;
 k [Go.Eng.DV.v (Go.Eng.SV.one (Go.Eng.At.ints Go.IntKind.u64 5 v3))])
 N 0 0 a (List.replicate 5 0)


noncomputable def E94 (N : Nat) : Env := { Θ := Th, Γ := [], K := K94, ν := N94, fuel := 0, lp := [(0, mkL N94_0 f94_0_sh (f94_0_F N))] }

theorem f94_0_st_eq {R : Type} (N : Nat) (K : X → AS → Option R) (n : Nat) (x1 : Int) (x2 : Int) (x3 : List Int) (x4 : List Int) : roundsOf (E94 N) N94_0 0 B94_0 K (n + 1) (fill f94_0_sh [.i x1, .i x2, .l x3, .l x4]) = f94_0_st N (fun x1 x2 x3 x4 => roundsOf (E94 N) N94_0 0 B94_0 K n (fill f94_0_sh [.i x1, .i x2, .l x3, .l x4])) (fun y1 y2 y3 y4 y5 => K (Go.Eng.X.normal) (fill f94_0_ex1 [.b y1, .i y2, .i y3, .l y4, .l y5])) x1 x2 x3 x4 := by kernel_rfl
theorem f94_0_lp_eq {R : Type} (N : Nat) (K : X → AS → Option R) : ∀ (n : Nat) (x1 : Int) (x2 : Int) (x3 : List Int) (x4 : List Int), roundsOf (E94 N) N94_0 0 B94_0 K n (fill f94_0_sh [.i x1, .i x2, .l x3, .l x4]) = f94_0_lp N (fun y1 y2 y3 y4 y5 => K (Go.Eng.X.normal) (fill f94_0_ex1 [.b y1, .i y2, .i y3, .l y4, .l y5])) n x1 x2 x3 x4
  | 0, _, _, _, _ => rfl
  | n + 1, x1, x2, x3, x4 => by
    rw [f94_0_st_eq, f94_0_lp, show (fun x1 x2 x3 x4 => roundsOf (E94 N) N94_0 0 B94_0 K n (fill f94_0_sh [.i x1, .i x2, .l x3, .l x4])) = f94_0_lp N (fun y1 y2 y3 y4 y5 => K (Go.Eng.X.normal) (fill f94_0_ex1 [.b y1, .i y2, .i y3, .l y4, .l y5])) n from by funext x1 x2 x3 x4; exact f94_0_lp_eq N K n x1 x2 x3 x4]
theorem f94_0_ok (N : Nat) (hlp : LoopsOk Try.prog (E94 N).lp B94_0) (hΓ : CtxOk Try.prog (E94 N).Γ) : LoopOk Try.prog (mkL N94_0 f94_0_sh (f94_0_F N)) 0 B94_0 := by
  refine loopOk_of (E := E94 N) thOk hΓ mixed hlp ?_
  intro R ls K r h
  unfold f94_0_F at h
  split at h
  · exact ⟨N, by rw [f94_0_lp_eq]; exact h⟩
  · cases h

theorem lok94_0 (N : Nat) (hΓ : CtxOk Try.prog []) : LoopOk Try.prog (mkL N94_0 f94_0_sh (f94_0_F N)) 0 B94_0 := f94_0_ok N (loopsOk_of (l := []) (by kernel_rfl) trivial) hΓ
theorem f94_contract (N : Nat) (hΓ : CtxOk Try.prog []) : Contract Try.prog 94 { sig := S94, impl := fun _ ds k => call (E94 N) S94 31 B94 R94 ds k } :=
  call_contract (E := E94 N) thOk hΓ mixed ok94.look ok94.body ok94.n ok94.rv ok94.name rfl (by decide) (loopsOk_of (l := [(0, B94_0)]) (by kernel_rfl) (allOk_cons (L := mkL N94_0 f94_0_sh (f94_0_F N)) rfl (lok94_0 N hΓ) trivial))
theorem f94_raw_eq {R : Type} (N : Nat) (a : List Int) (k : List DV → Option R) : call (E94 N) S94 31 B94 R94 [.v (.one (.ints .u64 5 a))] k = f94_raw N a k := by kernel_rfl
end Go.Proofs.Ytiaddnmloonhgaa

/- What rime/seal.limbs comes to. MADE BY PROGRAM (wip/tools/mkfn.py, EngGen.lean). -/
namespace Go.Proofs.Ytiaddnmloonhgaa
open Go Go.Eng
set_option maxRecDepth 100000
set_option linter.unusedVariables false

def f61_0_sh : Shp := { n := 32, lo := 1, slots := [(1, .one (.fix (At.ptr 1 0 Off.z 17))), (2, .one (.fix (At.ptr 2 0 Off.z 5))), (3, .one (.fix (At.ptr 3 0 Off.z 5))), (5, .one (.int IntKind.i64))], items := [(1, .obj [.ints IntKind.u8 17]), (2, .obj [.ints IntKind.u64 5]), (3, .obj [.ints IntKind.u64 5])] }
def f61_0_ex1 : Shp := { n := 32, lo := 1, slots := [(6, .one (.bool)), (1, .one (.fix (At.ptr 1 0 Off.z 17))), (2, .one (.fix (At.ptr 2 0 Off.z 5))), (3, .one (.fix (At.ptr 3 0 Off.z 5))), (5, .one (.int IntKind.i64))], items := [(1, .obj [.ints IntKind.u8 17]), (2, .obj [.ints IntKind.u64 5]), (3, .obj [.ints IntKind.u64 5])] }
def f61_0_st {R : Type} (N : Nat) (self : Int → List Int → List Int → List Int → Option R) (k1 : Bool → Int → List Int → List Int → List Int → Option R) (x1 : Int) (x2 : List Int) (x3 : List Int) (x4 : List Int) : Option R :=
 bif Decidable.decide (x1 < 136) then
 bif Decidable.decide (x1 < 130) then
 let v0 : Int := IntKind.i64.wrap (x1.tdiv 8);
 bif Decidable.decide (0 ≤ v0) && Decidable.decide (v0 < 17) then
 bif Decidable.decide (0 ≤ x1.tmod 8) then
 let v1 : Int := shrI IntKind.u8 (x2.getD (mulE v0.toNat 1) 0) (x1.tmod 8);
 let v2 : Int := andI IntKind.u8 v1 1;
 let v3 : Bool := bif Bool.true then v2 == 1 else Bool.false;
 bif v3 then
 let v4 : Int := IntKind.i64.wrap (x1.tdiv 26);
 bif Decidable.decide (0 ≤ v4) && Decidable.decide (v4 < 5) then
 bif Decidable.decide (0 ≤ x1.tmod 26) then
 bif Decidable.decide (0 ≤ v4) && Decidable.decide (v4 < 5) then
 let v5 : Int := IntKind.i64.wrap (x1 + 1);
 let v6 : Int := shlI IntKind.u64 1 (x1.tmod 26);
 let v7 : Int := orI IntKind.u64 (x4.getD (mulE v4.toNat 1) 0) v6;
 let v8 : List Int := x4.set (mulE v4.toNat 1) v7;
 self v5 x2 x3 v8
 else Option.none
 else Option.none
 else Option.none
 else
 let v9 : Int := IntKind.i64.wrap (x1 + 1);
 self v9 x2 x3 x4
 else Option.none
 else Option.none
 else
 let v10 : Int := IntKind.i64.wrap (x1 + 1);
 self v10 x2 x3 x4
else k1 (Decidable.decide (x1 < 136)) x1 x2 x3 x4
def f61_0_lp {R : Type} (N : Nat) (k1 : Bool → Int → List Int → List Int → List Int → Option R) : Nat → Int → List Int → List Int → List Int → Option R
 | 0, _, _, _, _ => none
 | n + 1, x1, x2, x3, x4 => f61_0_st N (f61_0_lp N k1 n) k1 x1 x2 x3 x4
def f61_0_F (N : Nat) : (R : Type) → List Leaf → (X → AS → Option R) → Option R := fun _ ls K => match ls with
 | [.i x1, .l x2, .l x3, .l x4] => f61_0_lp N (fun y1 y2 y3 y4 y5 => K (X.normal) (fill f61_0_ex1 [.b y1, .i y2, .l y3, .l y4, .l y5])) N x1 x2 x3 x4
 | _ => none
def f61_raw {R : Type} (N : Nat) (b : List Int) (k : List DV → Option R) : Option R :=
 f61_0_lp N (fun w0_1 w0_2 w0_3 w0_4 w0_5 => k [DV.v (SV.one (At.ints IntKind.u64 5 w0_5))]) N 0 b (List.replicate 5 0) (List.replicate 5 0)


noncomputable def E61 (N : Nat) : Env := { Θ := Th, Γ := [], K := K61, ν := N61, fuel := 0, lp := [(0, mkL N61_0 f61_0_sh (f61_0_F N))] }

theorem f61_0_st_eq {R : Type} (N : Nat) (K : X → AS → Option R) (n : Nat) (x1 : Int) (x2 : List Int) (x3 : List Int) (x4 : List Int) : roundsOf (E61 N) N61_0 0 B61_0 K (n + 1) (fill f61_0_sh [.i x1, .l x2, .l x3, .l x4]) = f61_0_st N (fun x1 x2 x3 x4 => roundsOf (E61 N) N61_0 0 B61_0 K n (fill f61_0_sh [.i x1, .l x2, .l x3, .l x4])) (fun y1 y2 y3 y4 y5 => K (X.normal) (fill f61_0_ex1 [.b y1, .i y2, .l y3, .l y4, .l y5])) x1 x2 x3 x4 := by kernel_rfl
theorem f61_0_lp_eq {R : Type} (N : Nat) (K : X → AS → Option R) : ∀ (n : Nat) (x1 : Int) (x2 : List Int) (x3 : List Int) (x4 : List Int), roundsOf (E61 N) N61_0 0 B61_0 K n (fill f61_0_sh [.i x1, .l x2, .l x3, .l x4]) = f61_0_lp N (fun y1 y2 y3 y4 y5 => K (X.normal) (fill f61_0_ex1 [.b y1, .i y2, .l y3, .l y4, .l y5])) n x1 x2 x3 x4
  | 0, _, _, _, _ => rfl
  | n + 1, x1, x2, x3, x4 => by
    rw [f61_0_st_eq, f61_0_lp, show (fun x1 x2 x3 x4 => roundsOf (E61 N) N61_0 0 B61_0 K n (fill f61_0_sh [.i x1, .l x2, .l x3, .l x4])) = f61_0_lp N (fun y1 y2 y3 y4 y5 => K (X.normal) (fill f61_0_ex1 [.b y1, .i y2, .l y3, .l y4, .l y5])) n from by funext x1 x2 x3 x4; exact f61_0_lp_eq N K n x1 x2 x3 x4]
theorem f61_0_ok (N : Nat) (hlp : LoopsOk Try.prog (E61 N).lp B61_0) (hΓ : CtxOk Try.prog (E61 N).Γ) : LoopOk Try.prog (mkL N61_0 f61_0_sh (f61_0_F N)) 0 B61_0 := by
  refine loopOk_of (E := E61 N) thOk hΓ mixed hlp ?_
  intro R ls K r h
  unfold f61_0_F at h
  split at h
  · exact ⟨N, by rw [f61_0_lp_eq]; exact h⟩
  · cases h

theorem lok61_0 (N : Nat) (hΓ : CtxOk Try.prog []) : LoopOk Try.prog (mkL N61_0 f61_0_sh (f61_0_F N)) 0 B61_0 := f61_0_ok N (loopsOk_of (l := []) (by kernel_rfl) trivial) hΓ
theorem f61_contract (N : Nat) (hΓ : CtxOk Try.prog []) : Contract Try.prog 61 { sig := S61, impl := fun _ ds k => call (E61 N) S61 32 B61 R61 ds k } :=
  call_contract (E := E61 N) thOk hΓ mixed ok61.look ok61.body ok61.n ok61.rv ok61.name rfl (by decide) (loopsOk_of (l := [(0, B61_0)]) (by kernel_rfl) (allOk_cons (L := mkL N61_0 f61_0_sh (f61_0_F N)) rfl (lok61_0 N hΓ) trivial))
theorem f61_raw_eq {R : Type} (N : Nat) (b : List Int) (k : List DV → Option R) : call (E61 N) S61 32 B61 R61 [.v (.one (.ints .u8 17 b))] k = f61_raw N b k := by kernel_rfl
end Go.Proofs.Ytiaddnmloonhgaa

/- Numbers in limbs, as their callers read them. -/
namespace Go.Proofs.Ytiaddnmloonhgaa
open Go Go.Eng
set_option maxRecDepth 100000

/-- the numbers of an answer that is one array -/
def answer (o : Option (List DV)) : List Int := match o with
  | some [.v (.one (.ints _ _ l))] => l
  | _ => []

/-! ### carried -/

def carriedL (a : List Int) : List Int := answer (f94_raw 6 a some)

theorem f94_spec {R : Type} (a : List Int) (k : List DV → Option R) : f94_raw 6 a k = k [.v (.one (.ints .u64 5 (carriedL a)))] := by kernel_rfl

def I94 : (R : Type) → List DV → (List DV → Option R) → Option R := fun _ ds k => match ds with
  | [.v (.one (.ints .u64 5 a))] => k [.v (.one (.ints .u64 5 (carriedL a)))]
  | _ => none

theorem c94 : Contract Try.prog 94 { sig := S94, impl := I94 } := by
  refine Contract.refine fun R ds k r h => ⟨_, f94_contract 6 ctxOk_nil, ?_⟩
  unfold I94 at h
  split at h
  · rw [f94_raw_eq, f94_spec]; exact h
  · cases h

def G62 : Ctx := [(94, { sig := S94, impl := I94 })]
theorem G62_ok : CtxOk Try.prog G62 := ctxOk_cons ok94 rfl c94 ctxOk_nil

end Go.Proofs.Ytiaddnmloonhgaa

/- What (rime/seal.big).times comes to. MADE BY PROGRAM (wip/tools/mkfn.py, EngGen.lean). -/
namespace Go.Proofs.Ytiaddnmloonhgaa
open Go Go.Eng
set_option maxRecDepth 100000
set_option linter.unusedVariables false

def f62_2_sh : Shp := { n := 53, lo := 2, slots := [(2, .one (.fix (Go.Eng.At.ptr 2 0 Go.Eng.Off.z 5))), (3, .one (.fix (Go.Eng.At.ptr 3 0 Go.Eng.Off.z 5))), (4, .one (.fix (Go.Eng.At.ptr 4 0 Go.Eng.Off.z 5))), (5, .one (.fix (Go.Eng.At.ptr 5 0 Go.Eng.Off.z 5))), (6, .one (.int Go.IntKind.i64)), (8, .one (.int Go.IntKind.i64)), (11, .one (.int Go.IntKind.i64))], items := [(2, .obj [.ints Go.IntKind.u64 5]), (3, .obj [.ints Go.IntKind.u64 5]), (4, .obj [.ints Go.IntKind.u64 5]), (5, .obj [.ints Go.IntKind.u64 5])] }
def f62_2_ex1 : Shp := { n := 53, lo := 2, slots := [(12, .one (.bool)), (2, .one (.fix (Go.Eng.At.ptr 2 0 Go.Eng.Off.z 5))), (3, .one (.fix (Go.Eng.At.ptr 3 0 Go.Eng.Off.z 5))), (4, .one (.fix (Go.Eng.At.ptr 4 0 Go.Eng.Off.z 5))), (5, .one (.fix (Go.Eng.At.ptr 5 0 Go.Eng.Off.z 5))), (6, .one (.int Go.IntKind.i64)), (8, .one (.int Go.IntKind.i64)), (11, .one (.int Go.IntKind.i64))], items := [(2, .obj [.ints Go.IntKind.u64 5]), (3, .obj [.ints Go.IntKind.u64 5]), (4, .obj [.ints Go.IntKind.u64 5]), (5, .obj [.ints Go.IntKind.u64 5])] }
def f62_2_st {R : Type} (N : Nat) (self : Int → Int → Int → List Int → List Int → List Int → List Int → Option R) (k1 : Bool → Int → Int → Int → List Int → List Int → List Int → List Int → Option R) (x1 : Int) (x2 : Int) (x3 : Int) (x4 : List Int) (x5 : List Int) (x6 : List Int) (x7 : List Int) : Option R :=
  bif Decidable.decide (x3 < 5) then
  let v0 : Int := Go.IntKind.i64.wrap (x1 + x3);
  bif Decidable.decide (v0 < 5) then
    bif Decidable.decide (0 ≤ v0) && Decidable.decide (v0 < ↑5) then
      bif Decidable.decide (0 ≤ x1) && Decidable.decide (x1 < ↑5) then
        bif Decidable.decide (0 ≤ x3) && Decidable.decide (x3 < ↑5) then
          bif Decidable.decide (0 ≤ v0) && Decidable.decide (v0 < ↑5) then
            let v1 : Int := Go.IntKind.i64.wrap (x3 + 1);
            let v2 : Int := Go.IntKind.u64.wrap (x4.getD (Go.Eng.mulE x1.toNat 1) 0 * x5.getD (Go.Eng.mulE x3.toNat 1) 0);
            let v3 : Int := Go.IntKind.u64.wrap (x7.getD (Go.Eng.mulE v0.toNat 1) 0 + v2);
            let v4 : List Int := x7.set (Go.Eng.mulE v0.toNat 1) v3;
            self x1 x2 v1 x4 x5 x6 v4
          else Option.none
        else Option.none
      else Option.none
    else Option.none
  else
    let v5 : Int := Go.IntKind.i64.wrap (v0 - 5);
    bif Decidable.decide (0 ≤ v5) && Decidable.decide (v5 < ↑5) then
      bif Decidable.decide (0 ≤ x1) && Decidable.decide (x1 < ↑5) then
        bif Decidable.decide (0 ≤ x3) && Decidable.decide (x3 < ↑5) then
          bif Decidable.decide (0 ≤ v5) && Decidable.decide (v5 < ↑5) then
            let v6 : Int := Go.IntKind.i64.wrap (x3 + 1);
            let v7 : Int := Go.IntKind.u64.wrap (5 * x4.getD (Go.Eng.mulE x1.toNat 1) 0);
            let v8 : Int := Go.IntKind.u64.wrap (v7 * x5.getD (Go.Eng.mulE x3.toNat 1) 0);
            let v9 : Int := Go.IntKind.u64.wrap (x7.getD (Go.Eng.mulE v5.toNat 1) 0 + v8);
            let v10 : List Int := x7.set (Go.Eng.mulE v5.toNat 1) v9;
            self x1 x2 v6 x4 x5 x6 v10
          else Option.none
        else Option.none
      else Option.none
    else Option.none
else k1 (Decidable.decide (x3 < 5)) x1 x2 x3 x4 x5 x6 x7
def f62_2_lp {R : Type} (N : Nat) (k1 : Bool → Int → Int → Int → List Int → List Int → List Int → List Int → Option R) : Nat → Int → Int → Int → List Int → List Int → List Int → List Int → Option R
  | 0, _, _, _, _, _, _, _ => none
  | n + 1, x1, x2, x3, x4, x5, x6, x7 => f62_2_st N (f62_2_lp N k1 n) k1 x1 x2 x3 x4 x5 x6 x7
def f62_2_F (N : Nat) : (R : Type) → List Leaf → (X → AS → Option R) → Option R := fun _ ls K => match ls with
  | [.i x1, .i x2, .i x3, .l x4, .l x5, .l x6, .l x7] => f62_2_lp N (fun y1 y2 y3 y4 y5 y6 y7 y8 => K (Go.Eng.X.normal) (fill f62_2_ex1 [.b y1, .i y2, .i y3, .i y4, .l y5, .l y6, .l y7, .l y8])) N x1 x2 x3 x4 x5 x6 x7
  | _ => none
def f62_0_sh : Shp := { n := 53, lo := 2, slots := [(2, .one (.fix (Go.Eng.At.ptr 2 0 Go.Eng.Off.z 5))), (3, .one (.fix (Go.Eng.At.ptr 3 0 Go.Eng.Off.z 5))), (4, .one (.fix (Go.Eng.At.ptr 4 0 Go.Eng.Off.z 5))), (5, .one (.fix (Go.Eng.At.ptr 5 0 Go.Eng.Off.z 5))), (8, .one (.int Go.IntKind.i64))], items := [(2, .obj [.ints Go.IntKind.u64 5]), (3, .obj [.ints Go.IntKind.u64 5]), (4, .obj [.ints Go.IntKind.u64 5]), (5, .obj [.ints Go.IntKind.u64 5])] }
def f62_0_ex1 : Shp := { n := 53, lo := 2, slots := [(9, .one (.bool)), (2, .one (.fix (Go.Eng.At.ptr 2 0 Go.Eng.Off.z 5))), (3, .one (.fix (Go.Eng.At.ptr 3 0 Go.Eng.Off.z 5))), (4, .one (.fix (Go.Eng.At.ptr 4 0 Go.Eng.Off.z 5))), (5, .one (.fix (Go.Eng.At.ptr 5 0 Go.Eng.Off.z 5))), (8, .one (.int Go.IntKind.i64))], items := [(2, .obj [.ints Go.IntKind.u64 5]), (3, .obj [.ints Go.IntKind.u64 5]), (4, .obj [.ints Go.IntKind.u64 5]), (5, .obj [.ints Go.IntKind.u64 5])] }
def f62_0_st {R : Type} (N : Nat) (self : Int → List Int → List Int → List Int → List Int → Option R) (k1 : Bool → Int → List Int → List Int → List Int → List Int → Option R) (x1 : Int) (x2 : List Int) (x3 : List Int) (x4 : List Int) (x5 : List Int) : Option R :=
  bif Decidable.decide (x1 < 5) then
  f62_2_lp N
    (fun w0_1 w0_2 w0_3 w0_4 w0_5 w0_6 w0_7 w0_8 =>
      let v1 : Int := Go.IntKind.i64.wrap (w0_3 + 1);
      self v1 w0_5 w0_6 w0_7 w0_8)
    N x1 x1 0 x2 x3 x4 x5
else k1 (Decidable.decide (x1 < 5)) x1 x2 x3 x4 x5
def f62_0_lp {R : Type} (N : Nat) (k1 : Bool → Int → List Int → List Int → List Int → List Int → Option R) : Nat → Int → List Int → List Int → List Int → List Int → Option R
  | 0, _, _, _, _, _ => none
  | n + 1, x1, x2, x3, x4, x5 => f62_0_st N (f62_0_lp N k1 n) k1 x1 x2 x3 x4 x5
def f62_0_F (N : Nat) : (R : Type) → List Leaf → (X → AS → Option R) → Option R := fun _ ls K => match ls with
  | [.i x1, .l x2, .l x3, .l x4, .l x5] => f62_0_lp N (fun y1 y2 y3 y4 y5 y6 => K (Go.Eng.X.normal) (fill f62_0_ex1 [.b y1, .i y2, .l y3, .l y4, .l y5, .l y6])) N x1 x2 x3 x4 x5
  | _ => none
def f62_raw {R : Type} (N : Nat) (a : List Int) (b : List Int) (k : List DV → Option R) : Option R :=
 f62_0_lp N (fun w0_1 w0_2 w0_3 w0_4 w0_5 w0_6 => k [Go.Eng.DV.v (Go.Eng.SV.one (Go.Eng.At.ints Go.IntKind.u64 5 (Go.Proofs.Ytiaddnmloonhgaa.carriedL (Go.Proofs.Ytiaddnmloonhgaa.carriedL w0_6))))]) N 0 a b (List.replicate 5 0) (List.replicate 5 0)


noncomputable def E62 (N : Nat) : Env := { Θ := Th, Γ := G62, K := K62, ν := N62, fuel := 0, lp := [(0, mkL N62_0 f62_0_sh (f62_0_F N)), (2, mkL N62_2 f62_2_sh (f62_2_F N))] }

theorem f62_2_st_eq {R : Type} (N : Nat) (K : X → AS → Option R) (n : Nat) (x1 : Int) (x2 : Int) (x3 : Int) (x4 : List Int) (x5 : List Int) (x6 : List Int) (x7 : List Int) : roundsOf (E62 N) N62_2 2 B62_2 K (n + 1) (fill f62_2_sh [.i x1, .i x2, .i x3, .l x4, .l x5, .l x6, .l x7]) = f62_2_st N (fun x1 x2 x3 x4 x5 x6 x7 => roundsOf (E62 N) N62_2 2 B62_2 K n (fill f62_2_sh [.i x1, .i x2, .i x3, .l x4, .l x5, .l x6, .l x7])) (fun y1 y2 y3 y4 y5 y6 y7 y8 => K (Go.Eng.X.normal) (fill f62_2_ex1 [.b y1, .i y2, .i y3, .i y4, .l y5, .l y6, .l y7, .l y8])) x1 x2 x3 x4 x5 x6 x7 := by kernel_rfl
theorem f62_2_lp_eq {R : Type} (N : Nat) (K : X → AS → Option R) : ∀ (n : Nat) (x1 : Int) (x2 : Int) (x3 : Int) (x4 : List Int) (x5 : List Int) (x6 : List Int) (x7 : List Int), roundsOf (E62 N) N62_2 2 B62_2 K n (fill f62_2_sh [.i x1, .i x2, .i x3, .l x4, .l x5, .l x6, .l x7]) = f62_2_lp N (fun y1 y2 y3 y4 y5 y6 y7 y8 => K (Go.Eng.X.normal) (fill f62_2_ex1 [.b y1, .i y2, .i y3, .i y4, .l y5, .l y6, .l y7, .l y8])) n x1 x2 x3 x4 x5 x6 x7
  | 0, _, _, _, _, _, _, _ => rfl
  | n + 1, x1, x2, x3, x4, x5, x6, x7 => by
    rw [f62_2_st_eq, f62_2_lp, show (fun x1 x2 x3 x4 x5 x6 x7 => roundsOf (E62 N) N62_2 2 B62_2 K n (fill f62_2_sh [.i x1, .i x2, .i x3, .l x4, .l x5, .l x6, .l x7])) = f62_2_lp N (fun y1 y2 y3 y4 y5 y6 y7 y8 => K (Go.Eng.X.normal) (fill f62_2_ex1 [.b y1, .i y2, .i y3, .i y4, .l y5, .l y6, .l y7, .l y8])) n from by funext x1 x2 x3 x4 x5 x6 x7; exact f62_2_lp_eq N K n x1 x2 x3 x4 x5 x6 x7]
theorem f62_2_ok (N : Nat) (hlp : LoopsOk Try.prog (E62 N).lp B62_2) (hΓ : CtxOk Try.prog (E62 N).Γ) : LoopOk Try.prog (mkL N62_2 f62_2_sh (f62_2_F N)) 2 B62_2 := by
  refine loopOk_of (E := E62 N) thOk hΓ mixed hlp ?_
  intro R ls K r h
  unfold f62_2_F at h
  split at h
  · exact ⟨N, by rw [f62_2_lp_eq]; exact h⟩
  · cases h
theorem f62_0_st_eq {R : Type} (N : Nat) (K : X → AS → Option R) (n : Nat) (x1 : Int) (x2 : List Int) (x3 : List Int) (x4 : List Int) (x5 : List Int) : roundsOf (E62 N) N62_0 0 B62_0 K (n + 1) (fill f62_0_sh [.i x1, .l x2, .l x3, .l x4, .l x5]) = f62_0_st N (fun x1 x2 x3 x4 x5 => roundsOf (E62 N) N62_0 0 B62_0 K n (fill f62_0_sh [.i x1, .l x2, .l x3, .l x4, .l x5])) (fun y1 y2 y3 y4 y5 y6 => K (Go.Eng.X.normal) (fill f62_0_ex1 [.b y1, .i y2, .l y3, .l y4, .l y5, .l y6])) x1 x2 x3 x4 x5 := by kernel_rfl
theorem f62_0_lp_eq {R : Type} (N : Nat) (K : X → AS → Option R) : ∀ (n : Nat) (x1 : Int) (x2 : List Int) (x3 : List Int) (x4 : List Int) (x5 : List Int), roundsOf (E62 N) N62_0 0 B62_0 K n (fill f62_0_sh [.i x1, .l x2, .l x3, .l x4, .l x5]) = f62_0_lp N (fun y1 y2 y3 y4 y5 y6 => K (Go.Eng.X.normal) (fill f62_0_ex1 [.b y1, .i y2, .l y3, .l y4, .l y5, .l y6])) n x1 x2 x3 x4 x5
  | 0, _, _, _, _, _ => rfl
  | n + 1, x1, x2, x3, x4, x5 => by
    rw [f62_0_st_eq, f62_0_lp, show (fun x1 x2 x3 x4 x5 => roundsOf (E62 N) N62_0 0 B62_0 K n (fill f62_0_sh [.i x1, .l x2, .l x3, .l x4, .l x5])) = f62_0_lp N (fun y1 y2 y3 y4 y5 y6 => K (Go.Eng.X.normal) (fill f62_0_ex1 [.b y1, .i y2, .l y3, .l y4, .l y5, .l y6])) n from by funext x1 x2 x3 x4 x5; exact f62_0_lp_eq N K n x1 x2 x3 x4 x5]
theorem f62_0_ok (N : Nat) (hlp : LoopsOk Try.prog (E62 N).lp B62_0) (hΓ : CtxOk Try.prog (E62 N).Γ) : LoopOk Try.prog (mkL N62_0 f62_0_sh (f62_0_F N)) 0 B62_0 := by
  refine loopOk_of (E := E62 N) thOk hΓ mixed hlp ?_
  intro R ls K r h
  unfold f62_0_F at h
  split at h
  · exact ⟨N, by rw [f62_0_lp_eq]; exact h⟩
  · cases h

theorem lok62_2 (N : Nat) (hΓ : CtxOk Try.prog G62) : LoopOk Try.prog (mkL N62_2 f62_2_sh (f62_2_F N)) 2 B62_2 := f62_2_ok N (loopsOk_of (l := []) (by kernel_rfl) trivial) hΓ
theorem lok62_0 (N : Nat) (hΓ : CtxOk Try.prog G62) : LoopOk Try.prog (mkL N62_0 f62_0_sh (f62_0_F N)) 0 B62_0 := f62_0_ok N (loopsOk_of (l := [(2, B62_2)]) (by kernel_rfl) (allOk_cons (L := mkL N62_2 f62_2_sh (f62_2_F N)) rfl (lok62_2 N hΓ) trivial)) hΓ
theorem f62_contract (N : Nat) (hΓ : CtxOk Try.prog G62) : Contract Try.prog 62 { sig := S62, impl := fun _ ds k => call (E62 N) S62 53 B62 R62 ds k } :=
  call_contract (E := E62 N) thOk hΓ mixed ok62.look ok62.body ok62.n ok62.rv ok62.name rfl (by decide) (loopsOk_of (l := [(0, B62_0), (2, B62_2)]) (by kernel_rfl) (allOk_cons (L := mkL N62_0 f62_0_sh (f62_0_F N)) rfl (lok62_0 N hΓ) (allOk_cons (L := mkL N62_2 f62_2_sh (f62_2_F N)) rfl (lok62_2 N hΓ) trivial)))
theorem f62_raw_eq {R : Type} (N : Nat) (a : List Int) (b : List Int) (k : List DV → Option R) : call (E62 N) S62 53 B62 R62 [.v (.one (.ints .u64 5 a)), .v (.one (.ints .u64 5 b))] k = f62_raw N a b k := by kernel_rfl
end Go.Proofs.Ytiaddnmloonhgaa

/- What (rime/seal.big).whole comes to. MADE BY PROGRAM (wip/tools/mkfn.py, EngGen.lean). -/
namespace Go.Proofs.Ytiaddnmloonhgaa
open Go Go.Eng
set_option maxRecDepth 100000
set_option linter.unusedVariables false

def f63_0_sh : Shp := { n := 37, lo := 1, slots := [(1, .one (.fix (Go.Eng.At.ptr 1 0 Go.Eng.Off.z 5))), (2, .one (.fix (Go.Eng.At.ptr 2 0 Go.Eng.Off.z 5))), (3, .one (.fix (Go.Eng.At.ptr 3 0 Go.Eng.Off.z 5))), (4, .one (.int Go.IntKind.u64)), (14, .one (.int Go.IntKind.i64))], items := [(1, .obj [.ints Go.IntKind.u64 5]), (2, .obj [.ints Go.IntKind.u64 5]), (3, .obj [.ints Go.IntKind.u64 5])] }
def f63_0_ex1 : Shp := { n := 37, lo := 1, slots := [(15, .one (.bool)), (1, .one (.fix (Go.Eng.At.ptr 1 0 Go.Eng.Off.z 5))), (2, .one (.fix (Go.Eng.At.ptr 2 0 Go.Eng.Off.z 5))), (3, .one (.fix (Go.Eng.At.ptr 3 0 Go.Eng.Off.z 5))), (4, .one (.int Go.IntKind.u64)), (14, .one (.int Go.IntKind.i64))], items := [(1, .obj [.ints Go.IntKind.u64 5]), (2, .obj [.ints Go.IntKind.u64 5]), (3, .obj [.ints Go.IntKind.u64 5])] }
def f63_0_st {R : Type} (N : Nat) (self : Int → Int → List Int → List Int → List Int → Option R) (k1 : Bool → Int → Int → List Int → List Int → List Int → Option R) (x1 : Int) (x2 : Int) (x3 : List Int) (x4 : List Int) (x5 : List Int) : Option R :=
  bif Decidable.decide (x2 < 5) then
  bif Decidable.decide (0 ≤ x2) && Decidable.decide (x2 < ↑5) then
    bif Decidable.decide (0 ≤ x2) && Decidable.decide (x2 < ↑5) then
      bif Decidable.decide (0 ≤ x2) && Decidable.decide (x2 < ↑5) then
        bif Decidable.decide (0 ≤ x2) && Decidable.decide (x2 < ↑5) then
          bif Decidable.decide (0 ≤ x2) && Decidable.decide (x2 < ↑5) then
            let v0 : Int := Go.IntKind.u64.wrap (x5.getD (Go.Eng.mulE x2.toNat 1) 0 + x1);
            let v1 : List Int := x5.set (Go.Eng.mulE x2.toNat 1) v0;
            let v2 : Int := Go.Eng.shrI Go.IntKind.u64 (v1.getD (Go.Eng.mulE x2.toNat 1) 0) 26;
            let v3 : Int := Go.IntKind.i64.wrap (x2 + 1);
            let v4 : Int := Go.Eng.andI Go.IntKind.u64 (v1.getD (Go.Eng.mulE x2.toNat 1) 0) 67108863;
            let v5 : List Int := v1.set (Go.Eng.mulE x2.toNat 1) v4;
            self v2 v3 x3 x4 v5
          else Option.none
        else Option.none
      else Option.none
    else Option.none
  else Option.none
else k1 (Decidable.decide (x2 < 5)) x1 x2 x3 x4 x5
def f63_0_lp {R : Type} (N : Nat) (k1 : Bool → Int → Int → List Int → List Int → List Int → Option R) : Nat → Int → Int → List Int → List Int → List Int → Option R
  | 0, _, _, _, _, _ => none
  | n + 1, x1, x2, x3, x4, x5 => f63_0_st N (f63_0_lp N k1 n) k1 x1 x2 x3 x4 x5
def f63_0_F (N : Nat) : (R : Type) → List Leaf → (X → AS → Option R) → Option R := fun _ ls K => match ls with
  | [.i x1, .i x2, .l x3, .l x4, .l x5] => f63_0_lp N (fun y1 y2 y3 y4 y5 y6 => K (Go.Eng.X.normal) (fill f63_0_ex1 [.b y1, .i y2, .i y3, .l y4, .l y5, .l y6])) N x1 x2 x3 x4 x5
  | _ => none
def f63_raw {R : Type} (N : Nat) (a : List Int) (k : List DV → Option R) : Option R :=
 let v0 : Int := Go.IntKind.u64.wrap ((Go.Proofs.Ytiaddnmloonhgaa.carriedL (Go.Proofs.Ytiaddnmloonhgaa.carriedL a)).getD (Go.Eng.mulE (Int.toNat 0) 1) 0 + 5);
let v1 : List Int := (Go.Proofs.Ytiaddnmloonhgaa.carriedL (Go.Proofs.Ytiaddnmloonhgaa.carriedL a)).set (Go.Eng.mulE (Int.toNat 0) 1) v0;
f63_0_lp N (fun w2_1 w2_2 w2_3 w2_4 w2_5 w2_6 => bif Decidable.decide (w2_2 > 0) then k [Go.Eng.DV.v (Go.Eng.SV.one (Go.Eng.At.ints Go.IntKind.u64 5 w2_6))] else k [Go.Eng.DV.v (Go.Eng.SV.one (Go.Eng.At.ints Go.IntKind.u64 5 w2_4))]) N 0 0 (Go.Proofs.Ytiaddnmloonhgaa.carriedL (Go.Proofs.Ytiaddnmloonhgaa.carriedL a)) (List.replicate 5 0) v1


noncomputable def E63 (N : Nat) : Env := { Θ := Th, Γ := G62, K := K63, ν := N63, fuel := 0, lp := [(0, mkL N63_0 f63_0_sh (f63_0_F N))] }

theorem f63_0_st_eq {R : Type} (N : Nat) (K : X → AS → Option R) (n : Nat) (x1 : Int) (x2 : Int) (x3 : List Int) (x4 : List Int) (x5 : List Int) : roundsOf (E63 N) N63_0 0 B63_0 K (n + 1) (fill f63_0_sh [.i x1, .i x2, .l x3, .l x4, .l x5]) = f63_0_st N (fun x1 x2 x3 x4 x5 => roundsOf (E63 N) N63_0 0 B63_0 K n (fill f63_0_sh [.i x1, .i x2, .l x3, .l x4, .l x5])) (fun y1 y2 y3 y4 y5 y6 => K (Go.Eng.X.normal) (fill f63_0_ex1 [.b y1, .i y2, .i y3, .l y4, .l y5, .l y6])) x1 x2 x3 x4 x5 := by kernel_rfl
theorem f63_0_lp_eq {R : Type} (N : Nat) (K : X → AS → Option R) : ∀ (n : Nat) (x1 : Int) (x2 : Int) (x3 : List Int) (x4 : List Int) (x5 : List Int), roundsOf (E63 N) N63_0 0 B63_0 K n (fill f63_0_sh [.i x1, .i x2, .l x3, .l x4, .l x5]) = f63_0_lp N (fun y1 y2 y3 y4 y5 y6 => K (Go.Eng.X.normal) (fill f63_0_ex1 [.b y1, .i y2, .i y3, .l y4, .l y5, .l y6])) n x1 x2 x3 x4 x5
  | 0, _, _, _, _, _ => rfl
  | n + 1, x1, x2, x3, x4, x5 => by
    rw [f63_0_st_eq, f63_0_lp, show (fun x1 x2 x3 x4 x5 => roundsOf (E63 N) N63_0 0 B63_0 K n (fill f63_0_sh [.i x1, .i x2, .l x3, .l x4, .l x5])) = f63_0_lp N (fun y1 y2 y3 y4 y5 y6 => K (Go.Eng.X.normal) (fill f63_0_ex1 [.b y1, .i y2, .i y3, .l y4, .l y5, .l y6])) n from by funext x1 x2 x3 x4 x5; exact f63_0_lp_eq N K n x1 x2 x3 x4 x5]
theorem f63_0_ok (N : Nat) (hlp : LoopsOk Try.prog (E63 N).lp B63_0) (hΓ : CtxOk Try.prog (E63 N).Γ) : LoopOk Try.prog (mkL N63_0 f63_0_sh (f63_0_F N)) 0 B63_0 := by
  refine loopOk_of (E := E63 N) thOk hΓ mixed hlp ?_
  intro R ls K r h
  unfold f63_0_F at h
  split at h
  · exact ⟨N, by rw [f63_0_lp_eq]; exact h⟩
  · cases h

theorem lok63_0 (N : Nat) (hΓ : CtxOk Try.prog G62) : LoopOk Try.prog (mkL N63_0 f63_0_sh (f63_0_F N)) 0 B63_0 := f63_0_ok N (loopsOk_of (l := []) (by kernel_rfl) trivial) hΓ
theorem f63_contract (N : Nat) (hΓ : CtxOk Try.prog G62) : Contract Try.prog 63 { sig := S63, impl := fun _ ds k => call (E63 N) S63 37 B63 R63 ds k } :=
  call_contract (E := E63 N) thOk hΓ mixed ok63.look ok63.body ok63.n ok63.rv ok63.name rfl (by decide) (loopsOk_of (l := [(0, B63_0)]) (by kernel_rfl) (allOk_cons (L := mkL N63_0 f63_0_sh (f63_0_F N)) rfl (lok63_0 N hΓ) trivial))
theorem f63_raw_eq {R : Type} (N : Nat) (a : List Int) (k : List DV → Option R) : call (E63 N) S63 37 B63 R63 [.v (.one (.ints .u64 5 a))] k = f63_raw N a k := by kernel_rfl
end Go.Proofs.Ytiaddnmloonhgaa

/- Numbers in limbs: the product, the whole, the limbs of bytes. -/
namespace Go.Proofs.Ytiaddnmloonhgaa
open Go Go.Eng
set_option maxRecDepth 100000

/-! ### times -/

def timesL (a b : List Int) : List Int := answer (f62_raw 6 a b some)

theorem f62_spec {R : Type} (a b : List Int) (k : List DV → Option R) : f62_raw 6 a b k = k [.v (.one (.ints .u64 5 (timesL a b)))] := by kernel_rfl

def I62 : (R : Type) → List DV → (List DV → Option R) → Option R := fun _ ds k => match ds with
  | [.v (.one (.ints .u64 5 a)), .v (.one (.ints .u64 5 b))] => k [.v (.one (.ints .u64 5 (timesL a b)))]
  | _ => none

theorem c62 : Contract Try.prog 62 { sig := S62, impl := I62 } := by
  refine Contract.refine fun R ds k r h => ⟨_, f62_contract 6 G62_ok, ?_⟩
  unfold I62 at h
  split at h
  · rw [f62_raw_eq, f62_spec]; exact h
  · cases h

/-! ### whole -/

/-- where the loop of 'whole' ends -/
def wholeRun (a : List Int) : Option (Int × List Int × List Int) :=
  f63_0_lp 6 (fun _ y2 _ y4 _ y6 => some (y2, y4, y6)) 6 0 0 (carriedL (carriedL a)) (List.replicate 5 0) ((carriedL (carriedL a)).set 0 (IntKind.u64.wrap ((carriedL (carriedL a)).getD 0 0 + 5)))

theorem whole_some (a : List Int) : (wholeRun a).isSome = true := by kernel_rfl

def wholeL (a : List Int) : List Int := match wholeRun a with
  | some (c, u, g) => cond (decide (c > 0)) g u
  | none => []

theorem f63_match {R : Type} (a : List Int) (k : List DV → Option R) : f63_raw 6 a k = match wholeRun a with
  | some (c, u, g) => cond (decide (c > 0)) (k [.v (.one (.ints .u64 5 g))]) (k [.v (.one (.ints .u64 5 u))])
  | none => none := by kernel_rfl

theorem f63_spec {R : Type} (a : List Int) (k : List DV → Option R) : f63_raw 6 a k = k [.v (.one (.ints .u64 5 (wholeL a)))] := by
  rw [f63_match]
  unfold wholeL
  have := whole_some a
  cases hw : wholeRun a with
  | none => rw [hw] at this; cases this
  | some p =>
    obtain ⟨c, u, g⟩ := p
    simp only
    cases decide (c > 0) <;> rfl

def I63 : (R : Type) → List DV → (List DV → Option R) → Option R := fun _ ds k => match ds with
  | [.v (.one (.ints .u64 5 a))] => k [.v (.one (.ints .u64 5 (wholeL a)))]
  | _ => none

theorem c63 : Contract Try.prog 63 { sig := S63, impl := I63 } := by
  refine Contract.refine fun R ds k r h => ⟨_, f63_contract 6 G62_ok, ?_⟩
  unfold I63 at h
  split at h
  · rw [f63_raw_eq, f63_spec]; exact h
  · cases h

/-! ### limbs -/

def limbBit (b : List Int) (i : Nat) : Bool := andI .u8 (shrI .u8 (b.getD (i / 8) 0) ((i % 8 : Nat) : Int)) 1 == 1

def limbsStep (b : List Int) (i : Nat) (n : List Int) : List Int :=
  cond (decide (i < 130) && limbBit b i) (n.set (i / 26) (orI .u64 (n.getD (i / 26) 0) (shlI .u64 1 ((i % 26 : Nat) : Int)))) n

def limbsGo (b : List Int) : Nat → Nat → List Int → List Int
  | 0, _, n => n
  | m + 1, i, n => limbsGo b m (i + 1) (limbsStep b i n)

def limbsL (b : List Int) : List Int := limbsGo b 136 0 (List.replicate 5 0)

theorem limbs_step {R : Type} (N : Nat) (self : Int → List Int → List Int → List Int → Option R) (k1 : Bool → Int → List Int → List Int → List Int → Option R) (i : Nat) (hi : i < 136) (x2 x3 x4 : List Int) :
    f61_0_st N self k1 (i : Int) x2 x3 x4 = self ((i + 1 : Nat) : Int) x2 x3 (limbsStep x2 i x4) := by
  have h0 : decide ((i : Int) < 136) = true := by simp; omega
  have hd8 : (i : Int).tdiv 8 = ((i / 8 : Nat) : Int) := (Int.ofNat_tdiv i 8).symm
  have hd26 : (i : Int).tdiv 26 = ((i / 26 : Nat) : Int) := (Int.ofNat_tdiv i 26).symm
  have hm8 : (i : Int).tmod 8 = ((i % 8 : Nat) : Int) := (Int.ofNat_tmod i 8).symm
  have hm26 : (i : Int).tmod 26 = ((i % 26 : Nat) : Int) := (Int.ofNat_tmod i 26).symm
  have w8 : IntKind.i64.wrap ((i / 8 : Nat) : Int) = ((i / 8 : Nat) : Int) := wrap64_nat (by omega)
  have w26 : IntKind.i64.wrap ((i / 26 : Nat) : Int) = ((i / 26 : Nat) : Int) := wrap64_nat (by omega)
  have w1 : IntKind.i64.wrap ((i : Int) + 1) = ((i + 1 : Nat) : Int) := by rw [show (i : Int) + 1 = ((i + 1 : Nat) : Int) by omega]; exact wrap64_nat (by omega)
  have g1 : (decide ((0 : Int) ≤ ((i / 8 : Nat) : Int)) && decide (((i / 8 : Nat) : Int) < 17)) = true := by simp; omega
  have g3 : decide ((0 : Int) ≤ ((i % 8 : Nat) : Int)) = true := by simp; omega
  have g4 : decide ((0 : Int) ≤ ((i % 26 : Nat) : Int)) = true := by simp; omega
  unfold f61_0_st limbsStep
  rw [h0]
  by_cases hc : i < 130
  · have hc' : decide ((i : Int) < 130) = true := by simp; omega
    have hcn : decide (i < 130) = true := by simp; omega
    have g2 : (decide ((0 : Int) ≤ ((i / 26 : Nat) : Int)) && decide (((i / 26 : Nat) : Int) < 5)) = true := by simp; omega
    rw [hc', hcn, hd8, hm8, hd26, hm26]
    simp only [w8, w26, w1]
    rw [g1, g2, g3, g4]
    simp only [cond_true, Bool.true_and, mulE_one, Int.toNat_natCast]
    show cond (limbBit x2 i) _ _ = _
    cases limbBit x2 i <;> rfl
  · have hc' : decide ((i : Int) < 130) = false := by simp; omega
    have hcn : decide (i < 130) = false := by simp; omega
    rw [hc', hcn]
    simp only [w1]
    rfl

theorem limbs_loop {R : Type} {N : Nat} (k1 : Bool → Int → List Int → List Int → List Int → Option R) (b y : List Int) :
    ∀ (m i : Nat) (n : List Int), i + m = 136 → ∀ fuel, m < fuel → f61_0_lp N k1 fuel (i : Int) b y n = k1 false 136 b y (limbsGo b m i n) := by
  intro m
  induction m with
  | zero =>
    intro i n h fuel hf
    obtain ⟨f, rfl⟩ : ∃ f, fuel = f + 1 := ⟨fuel - 1, by omega⟩
    have : i = 136 := by omega
    subst this
    rfl
  | succ m ih =>
    intro i n h fuel hf
    obtain ⟨f, rfl⟩ : ∃ f, fuel = f + 1 := ⟨fuel - 1, by omega⟩
    show f61_0_st N (f61_0_lp N k1 f) k1 _ b y n = _
    rw [limbs_step N _ _ i (by omega), ih (i + 1) _ (by omega) f (by omega)]
    rfl

def I61 : (R : Type) → List DV → (List DV → Option R) → Option R := fun _ ds k => match ds with
  | [.v (.one (.ints .u8 17 b))] => k [.v (.one (.ints .u64 5 (limbsL b)))]
  | _ => none

theorem c61 : Contract Try.prog 61 { sig := S61, impl := I61 } := by
  refine Contract.refine fun R ds k r h => ⟨_, f61_contract 137 ctxOk_nil, ?_⟩
  unfold I61 at h
  split at h
  · rename_i b
    rw [f61_raw_eq]
    unfold f61_raw
    exact (limbs_loop (N := 137) (fun w0_1 w0_2 w0_3 w0_4 w0_5 => k [DV.v (SV.one (At.ints IntKind.u64 5 w0_5))]) b (List.replicate 5 0) 136 0 (List.replicate 5 0) (by omega) 137 (by omega)).trans h
  · cases h

def G24 : Ctx := [(61, { sig := S61, impl := I61 }), (62, { sig := S62, impl := I62 }), (63, { sig := S63, impl := I63 })]
theorem G24_ok : CtxOk Try.prog G24 := ctxOk_cons ok61 rfl c61 (ctxOk_cons ok62 rfl c62 (ctxOk_cons ok63 rfl c63 ctxOk_nil))

end Go.Proofs.Ytiaddnmloonhgaa

/- What rime/seal.Mac comes to. MADE BY PROGRAM (wip/tools/mkfn.py, EngGen.lean). -/
namespace Go.Proofs.Ytiaddnmloonhgaa
open Go Go.Eng
set_option maxRecDepth 100000
set_option linter.unusedVariables false

def f24_0_sh : Shp := { n := 123, lo := 2, slots := [(1, .one (.fix (Go.Eng.At.own 1))), (2, .one (.fix (Go.Eng.At.ptr 2 0 Go.Eng.Off.z 32))), (4, .one (.fix (Go.Eng.At.ptr 4 0 Go.Eng.Off.z 16))), (5, .one (.fix (Go.Eng.At.ptr 5 0 Go.Eng.Off.z 17))), (26, .one (.fix (Go.Eng.At.own 26))), (27, .one (.int Go.IntKind.i64)), (28, .one (.int Go.IntKind.i64))], items := [(1, .view Go.IntKind.u8 1), (2, .obj [.ints Go.IntKind.u8 32]), (4, .obj [.ints Go.IntKind.u8 16]), (5, .obj [.ints Go.IntKind.u8 17]), (26, .row Go.IntKind.i64 1)] }
def f24_0_ex1 : Shp := { n := 123, lo := 2, slots := [(29, .one (.bool)), (1, .one (.fix (Go.Eng.At.own 1))), (2, .one (.fix (Go.Eng.At.ptr 2 0 Go.Eng.Off.z 32))), (4, .one (.fix (Go.Eng.At.ptr 4 0 Go.Eng.Off.z 16))), (5, .one (.fix (Go.Eng.At.ptr 5 0 Go.Eng.Off.z 17))), (26, .one (.fix (Go.Eng.At.own 26))), (27, .one (.int Go.IntKind.i64)), (28, .one (.int Go.IntKind.i64))], items := [(1, .view Go.IntKind.u8 1), (2, .obj [.ints Go.IntKind.u8 32]), (4, .obj [.ints Go.IntKind.u8 16]), (5, .obj [.ints Go.IntKind.u8 17]), (26, .row Go.IntKind.i64 1)] }
def f24_0_st {R : Type} (N : Nat) (self : Int → Int → List Int → List Int → List Int → List Int → List Int → Option R) (k1 : Bool → Int → Int → List Int → List Int → List Int → List Int → List Int → Option R) (x1 : Int) (x2 : Int) (x3 : List Int) (x4 : List Int) (x5 : List Int) (x6 : List Int) (x7 : List Int) : Option R :=
  bif Decidable.decide (x2 < x1) then
  bif Decidable.decide (0 ≤ x2) && Decidable.decide (x2 < Go.Eng.nI (Go.Eng.rowLen 1 x7)) then
    bif Decidable.decide (0 ≤ x7.getD (Go.Eng.mulE x2.toNat 1) 0) && Decidable.decide (x7.getD (Go.Eng.mulE x2.toNat 1) 0 < 17) then
      bif Decidable.decide (0 ≤ x7.getD (Go.Eng.mulE x2.toNat 1) 0) && Decidable.decide (x7.getD (Go.Eng.mulE x2.toNat 1) 0 < 17) then
        let v0 : Int := Go.IntKind.i64.wrap (x2 + 1);
        let v1 : Int := Go.Eng.andI Go.IntKind.u8 (x6.getD (Go.Eng.mulE (x7.getD (Go.Eng.mulE x2.toNat 1) 0).toNat 1) 0) 15;
        let v2 : List Int := x6.set (Go.Eng.mulE (x7.getD (Go.Eng.mulE x2.toNat 1) 0).toNat 1) v1;
        self x1 v0 x3 x4 x5 v2 x7
      else Option.none
    else Option.none
  else Option.none
else k1 (Decidable.decide (x2 < x1)) x1 x2 x3 x4 x5 x6 x7
def f24_0_lp {R : Type} (N : Nat) (k1 : Bool → Int → Int → List Int → List Int → List Int → List Int → List Int → Option R) : Nat → Int → Int → List Int → List Int → List Int → List Int → List Int → Option R
  | 0, _, _, _, _, _, _, _ => none
  | n + 1, x1, x2, x3, x4, x5, x6, x7 => f24_0_st N (f24_0_lp N k1 n) k1 x1 x2 x3 x4 x5 x6 x7
def f24_0_F (N : Nat) : (R : Type) → List Leaf → (X → AS → Option R) → Option R := fun _ ls K => match ls with
  | [.i x1, .i x2, .l x3, .l x4, .l x5, .l x6, .l x7] => f24_0_lp N (fun y1 y2 y3 y4 y5 y6 y7 y8 => K (Go.Eng.X.normal) (fill f24_0_ex1 [.b y1, .i y2, .i y3, .l y4, .l y5, .l y6, .l y7, .l y8])) N x1 x2 x3 x4 x5 x6 x7
  | _ => none
def f24_2_sh : Shp := { n := 123, lo := 2, slots := [(1, .one (.fix (Go.Eng.At.own 1))), (2, .one (.fix (Go.Eng.At.ptr 2 0 Go.Eng.Off.z 32))), (4, .one (.fix (Go.Eng.At.ptr 4 0 Go.Eng.Off.z 16))), (5, .one (.fix (Go.Eng.At.ptr 5 0 Go.Eng.Off.z 17))), (38, .one (.fix (Go.Eng.At.own 38))), (39, .one (.int Go.IntKind.i64)), (40, .one (.int Go.IntKind.i64))], items := [(1, .view Go.IntKind.u8 1), (2, .obj [.ints Go.IntKind.u8 32]), (4, .obj [.ints Go.IntKind.u8 16]), (5, .obj [.ints Go.IntKind.u8 17]), (38, .row Go.IntKind.i64 1)] }
def f24_2_ex1 : Shp := { n := 123, lo := 2, slots := [(41, .one (.bool)), (1, .one (.fix (Go.Eng.At.own 1))), (2, .one (.fix (Go.Eng.At.ptr 2 0 Go.Eng.Off.z 32))), (4, .one (.fix (Go.Eng.At.ptr 4 0 Go.Eng.Off.z 16))), (5, .one (.fix (Go.Eng.At.ptr 5 0 Go.Eng.Off.z 17))), (38, .one (.fix (Go.Eng.At.own 38))), (39, .one (.int Go.IntKind.i64)), (40, .one (.int Go.IntKind.i64))], items := [(1, .view Go.IntKind.u8 1), (2, .obj [.ints Go.IntKind.u8 32]), (4, .obj [.ints Go.IntKind.u8 16]), (5, .obj [.ints Go.IntKind.u8 17]), (38, .row Go.IntKind.i64 1)] }
def f24_2_st {R : Type} (N : Nat) (self : Int → Int → List Int → List Int → List Int → List Int → List Int → Option R) (k1 : Bool → Int → Int → List Int → List Int → List Int → List Int → List Int → Option R) (x1 : Int) (x2 : Int) (x3 : List Int) (x4 : List Int) (x5 : List Int) (x6 : List Int) (x7 : List Int) : Option R :=
  bif Decidable.decide (x2 < x1) then
  bif Decidable.decide (0 ≤ x2) && Decidable.decide (x2 < Go.Eng.nI (Go.Eng.rowLen 1 x7)) then
    bif Decidable.decide (0 ≤ x7.getD (Go.Eng.mulE x2.toNat 1) 0) && Decidable.decide (x7.getD (Go.Eng.mulE x2.toNat 1) 0 < 17) then
      bif Decidable.decide (0 ≤ x7.getD (Go.Eng.mulE x2.toNat 1) 0) && Decidable.decide (x7.getD (Go.Eng.mulE x2.toNat 1) 0 < 17) then
        let v0 : Int := Go.IntKind.i64.wrap (x2 + 1);
        let v1 : Int := Go.Eng.andI Go.IntKind.u8 (x6.getD (Go.Eng.mulE (x7.getD (Go.Eng.mulE x2.toNat 1) 0).toNat 1) 0) 252;
        let v2 : List Int := x6.set (Go.Eng.mulE (x7.getD (Go.Eng.mulE x2.toNat 1) 0).toNat 1) v1;
        self x1 v0 x3 x4 x5 v2 x7
      else Option.none
    else Option.none
  else Option.none
else k1 (Decidable.decide (x2 < x1)) x1 x2 x3 x4 x5 x6 x7
def f24_2_lp {R : Type} (N : Nat) (k1 : Bool → Int → Int → List Int → List Int → List Int → List Int → List Int → Option R) : Nat → Int → Int → List Int → List Int → List Int → List Int → List Int → Option R
  | 0, _, _, _, _, _, _, _ => none
  | n + 1, x1, x2, x3, x4, x5, x6, x7 => f24_2_st N (f24_2_lp N k1 n) k1 x1 x2 x3 x4 x5 x6 x7
def f24_2_F (N : Nat) : (R : Type) → List Leaf → (X → AS → Option R) → Option R := fun _ ls K => match ls with
  | [.i x1, .i x2, .l x3, .l x4, .l x5, .l x6, .l x7] => f24_2_lp N (fun y1 y2 y3 y4 y5 y6 y7 y8 => K (Go.Eng.X.normal) (fill f24_2_ex1 [.b y1, .i y2, .i y3, .l y4, .l y5, .l y6, .l y7, .l y8])) N x1 x2 x3 x4 x5 x6 x7
  | _ => none
def f24_6_sh : Shp := { n := 123, lo := 2, slots := [(1, .one (.fix (Go.Eng.At.own 1))), (2, .one (.fix (Go.Eng.At.ptr 2 0 Go.Eng.Off.z 32))), (4, .one (.fix (Go.Eng.At.ptr 4 0 Go.Eng.Off.z 16))), (10, .one (.fix (Go.Eng.At.ptr 10 0 Go.Eng.Off.z 5))), (11, .one (.fix (Go.Eng.At.ptr 11 0 Go.Eng.Off.z 5))), (12, .one (.int Go.IntKind.i64)), (66, .one (.ints Go.IntKind.u64 5)), (67, .one (.int Go.IntKind.i64))], items := [(1, .view Go.IntKind.u8 1), (2, .obj [.ints Go.IntKind.u8 32]), (4, .obj [.ints Go.IntKind.u8 16]), (10, .obj [.ints Go.IntKind.u64 5]), (11, .obj [.ints Go.IntKind.u64 5])] }
def f24_6_ex1 : Shp := { n := 123, lo := 2, slots := [(68, .one (.bool)), (1, .one (.fix (Go.Eng.At.own 1))), (2, .one (.fix (Go.Eng.At.ptr 2 0 Go.Eng.Off.z 32))), (4, .one (.fix (Go.Eng.At.ptr 4 0 Go.Eng.Off.z 16))), (10, .one (.fix (Go.Eng.At.ptr 10 0 Go.Eng.Off.z 5))), (11, .one (.fix (Go.Eng.At.ptr 11 0 Go.Eng.Off.z 5))), (12, .one (.int Go.IntKind.i64)), (66, .one (.ints Go.IntKind.u64 5)), (67, .one (.int Go.IntKind.i64))], items := [(1, .view Go.IntKind.u8 1), (2, .obj [.ints Go.IntKind.u8 32]), (4, .obj [.ints Go.IntKind.u8 16]), (10, .obj [.ints Go.IntKind.u64 5]), (11, .obj [.ints Go.IntKind.u64 5])] }
def f24_6_st {R : Type} (N : Nat) (self : Int → List Int → Int → List Int → List Int → List Int → List Int → List Int → Option R) (k1 : Bool → Int → List Int → Int → List Int → List Int → List Int → List Int → List Int → Option R) (x1 : Int) (x2 : List Int) (x3 : Int) (x4 : List Int) (x5 : List Int) (x6 : List Int) (x7 : List Int) (x8 : List Int) : Option R :=
  bif Decidable.decide (x3 < 5) then
  bif Decidable.decide (0 ≤ x3) && Decidable.decide (x3 < 5) then
    bif Decidable.decide (0 ≤ x3) && Decidable.decide (x3 < 5) then
      bif Decidable.decide (0 ≤ x3) && Decidable.decide (x3 < 5) then
        let v0 : Int := Go.IntKind.i64.wrap (x3 + 1);
        let v1 : Int := Go.IntKind.u64.wrap (x8.getD (Go.Eng.mulE x3.toNat 1) 0 + x2.getD x3.toNat 0);
        let v2 : List Int := x8.set (Go.Eng.mulE x3.toNat 1) v1;
        self x1 x2 v0 x4 x5 x6 x7 v2
      else Option.none
    else Option.none
  else Option.none
else k1 (Decidable.decide (x3 < 5)) x1 x2 x3 x4 x5 x6 x7 x8
def f24_6_lp {R : Type} (N : Nat) (k1 : Bool → Int → List Int → Int → List Int → List Int → List Int → List Int → List Int → Option R) : Nat → Int → List Int → Int → List Int → List Int → List Int → List Int → List Int → Option R
  | 0, _, _, _, _, _, _, _, _ => none
  | n + 1, x1, x2, x3, x4, x5, x6, x7, x8 => f24_6_st N (f24_6_lp N k1 n) k1 x1 x2 x3 x4 x5 x6 x7 x8
def f24_6_F (N : Nat) : (R : Type) → List Leaf → (X → AS → Option R) → Option R := fun _ ls K => match ls with
  | [.i x1, .l x2, .i x3, .l x4, .l x5, .l x6, .l x7, .l x8] => f24_6_lp N (fun y1 y2 y3 y4 y5 y6 y7 y8 y9 => K (Go.Eng.X.normal) (fill f24_6_ex1 [.b y1, .i y2, .l y3, .i y4, .l y5, .l y6, .l y7, .l y8, .l y9])) N x1 x2 x3 x4 x5 x6 x7 x8
  | _ => none
def f24_4_sh : Shp := { n := 123, lo := 2, slots := [(1, .one (.fix (Go.Eng.At.own 1))), (2, .one (.fix (Go.Eng.At.ptr 2 0 Go.Eng.Off.z 32))), (4, .one (.fix (Go.Eng.At.ptr 4 0 Go.Eng.Off.z 16))), (10, .one (.fix (Go.Eng.At.ptr 10 0 Go.Eng.Off.z 5))), (11, .one (.fix (Go.Eng.At.ptr 11 0 Go.Eng.Off.z 5))), (12, .one (.int Go.IntKind.i64))], items := [(1, .view Go.IntKind.u8 1), (2, .obj [.ints Go.IntKind.u8 32]), (4, .obj [.ints Go.IntKind.u8 16]), (10, .obj [.ints Go.IntKind.u64 5]), (11, .obj [.ints Go.IntKind.u64 5])] }
def f24_4_ex1 : Shp := { n := 123, lo := 2, slots := [(55, .one (.bool)), (1, .one (.fix (Go.Eng.At.own 1))), (2, .one (.fix (Go.Eng.At.ptr 2 0 Go.Eng.Off.z 32))), (4, .one (.fix (Go.Eng.At.ptr 4 0 Go.Eng.Off.z 16))), (10, .one (.fix (Go.Eng.At.ptr 10 0 Go.Eng.Off.z 5))), (11, .one (.fix (Go.Eng.At.ptr 11 0 Go.Eng.Off.z 5))), (12, .one (.int Go.IntKind.i64))], items := [(1, .view Go.IntKind.u8 1), (2, .obj [.ints Go.IntKind.u8 32]), (4, .obj [.ints Go.IntKind.u8 16]), (10, .obj [.ints Go.IntKind.u64 5]), (11, .obj [.ints Go.IntKind.u64 5])] }
def f24_4_st {R : Type} (N : Nat) (self : Int → List Int → List Int → List Int → List Int → List Int → Option R) (k1 : Bool → Int → List Int → List Int → List Int → List Int → List Int → Option R) (x1 : Int) (x2 : List Int) (x3 : List Int) (x4 : List Int) (x5 : List Int) (x6 : List Int) : Option R :=
  bif Decidable.decide (x1 < Go.Eng.nI (Go.Eng.rowLen 1 x2)) then
  bif Go.Eng.loOk (Option.some x1) (Go.Eng.hiInt Option.none (Go.Eng.rowLen 1 x2)) then
    let v0 : List Int := Go.Eng.sub x2 (Go.Eng.plusO Go.Eng.Off.z 1 (Option.some x1)) (Go.Eng.mulE (Go.Eng.subN (Go.Eng.hiNat Option.none (Go.Eng.rowLen 1 x2)) (Option.some x1)) 1);
    let v1 : Nat := Min.min (Go.Eng.rowLen 1 v0) (Go.Eng.subN (Go.Eng.hiNat (Option.some 16) 17) Option.none);
    bif Decidable.decide (0 ≤ Go.Eng.nI v1) && Decidable.decide (Go.Eng.nI v1 < 17) then
      let v2 : List Int := Go.Eng.splice (List.replicate 17 0) (Go.Eng.plusO Go.Eng.Off.z 1 Option.none) (List.take (Go.Eng.mulE v1 1) v0);
      let v3 : List Int := v2.set (Go.Eng.mulE (Go.Eng.nI v1).toNat 1) 1;
      f24_6_lp N
        (fun w4_1 w4_2 w4_3 w4_4 w4_5 w4_6 w4_7 w4_8 w4_9 =>
          let v5 : Int := Go.IntKind.i64.wrap (w4_2 + 16);
          self v5 w4_5 w4_6 w4_7 w4_8 (Go.Proofs.Ytiaddnmloonhgaa.timesL w4_9 w4_8))
        N x1 (Go.Proofs.Ytiaddnmloonhgaa.limbsL v3) 0 x2 x3 x4 x5 x6
    else Option.none
  else Option.none
else k1 (Decidable.decide (x1 < Go.Eng.nI (Go.Eng.rowLen 1 x2))) x1 x2 x3 x4 x5 x6
def f24_4_lp {R : Type} (N : Nat) (k1 : Bool → Int → List Int → List Int → List Int → List Int → List Int → Option R) : Nat → Int → List Int → List Int → List Int → List Int → List Int → Option R
  | 0, _, _, _, _, _, _ => none
  | n + 1, x1, x2, x3, x4, x5, x6 => f24_4_st N (f24_4_lp N k1 n) k1 x1 x2 x3 x4 x5 x6
def f24_4_F (N : Nat) : (R : Type) → List Leaf → (X → AS → Option R) → Option R := fun _ ls K => match ls with
  | [.i x1, .l x2, .l x3, .l x4, .l x5, .l x6] => f24_4_lp N (fun y1 y2 y3 y4 y5 y6 y7 => K (Go.Eng.X.normal) (fill f24_4_ex1 [.b y1, .i y2, .l y3, .l y4, .l y5, .l y6, .l y7])) N x1 x2 x3 x4 x5 x6
  | _ => none
def f24_10_sh : Shp := { n := 123, lo := 2, slots := [(2, .one (.fix (Go.Eng.At.ptr 2 0 Go.Eng.Off.z 32))), (4, .one (.fix (Go.Eng.At.ptr 4 0 Go.Eng.Off.z 16))), (11, .one (.fix (Go.Eng.At.ptr 11 0 Go.Eng.Off.z 5))), (17, .one (.fix (Go.Eng.At.ptr 17 0 Go.Eng.Off.z 16))), (18, .one (.int Go.IntKind.u64)), (19, .one (.int Go.IntKind.i64)), (20, .one (.int Go.IntKind.u64)), (83, .one (.int Go.IntKind.i64)), (86, .one (.int Go.IntKind.i64))], items := [(2, .obj [.ints Go.IntKind.u8 32]), (4, .obj [.ints Go.IntKind.u8 16]), (11, .obj [.ints Go.IntKind.u64 5]), (17, .obj [.ints Go.IntKind.u8 16])] }
def f24_10_ex1 : Shp := { n := 123, lo := 2, slots := [(87, .one (.bool)), (2, .one (.fix (Go.Eng.At.ptr 2 0 Go.Eng.Off.z 32))), (4, .one (.fix (Go.Eng.At.ptr 4 0 Go.Eng.Off.z 16))), (11, .one (.fix (Go.Eng.At.ptr 11 0 Go.Eng.Off.z 5))), (17, .one (.fix (Go.Eng.At.ptr 17 0 Go.Eng.Off.z 16))), (18, .one (.int Go.IntKind.u64)), (19, .one (.int Go.IntKind.i64)), (20, .one (.int Go.IntKind.u64)), (83, .one (.int Go.IntKind.i64)), (86, .one (.int Go.IntKind.i64))], items := [(2, .obj [.ints Go.IntKind.u8 32]), (4, .obj [.ints Go.IntKind.u8 16]), (11, .obj [.ints Go.IntKind.u64 5]), (17, .obj [.ints Go.IntKind.u8 16])] }
def f24_10_st {R : Type} (N : Nat) (self : Int → Int → Int → Int → Int → List Int → List Int → List Int → List Int → Option R) (k1 : Bool → Int → Int → Int → Int → Int → List Int → List Int → List Int → List Int → Option R) (x1 : Int) (x2 : Int) (x3 : Int) (x4 : Int) (x5 : Int) (x6 : List Int) (x7 : List Int) (x8 : List Int) (x9 : List Int) : Option R :=
  bif Decidable.decide (x5 < 8) then
  let v0 : Int := Go.IntKind.i64.wrap (8 * x2);
  let v1 : Int := Go.IntKind.i64.wrap (v0 + x5);
  let v2 : Int := Go.IntKind.i64.wrap (v1.tdiv 26);
  bif Decidable.decide (0 ≤ v2) && Decidable.decide (v2 < 5) then
    bif Decidable.decide (0 ≤ v1.tmod 26) then
      bif Decidable.decide (0 ≤ x5) then
        let v3 : Int := Go.Eng.shrI Go.IntKind.u64 (x8.getD (Go.Eng.mulE v2.toNat 1) 0) (v1.tmod 26);
        let v4 : Int := Go.Eng.andI Go.IntKind.u64 v3 1;
        let v5 : Int := Go.Eng.shlI Go.IntKind.u64 v4 x5;
        let v6 : Int := Go.Eng.orI Go.IntKind.u64 x3 v5;
        let v7 : Int := Go.IntKind.i64.wrap (x5 + 1);
        self x1 x2 v6 x4 v7 x6 x7 x8 x9
      else Option.none
    else Option.none
  else Option.none
else k1 (Decidable.decide (x5 < 8)) x1 x2 x3 x4 x5 x6 x7 x8 x9
def f24_10_lp {R : Type} (N : Nat) (k1 : Bool → Int → Int → Int → Int → Int → List Int → List Int → List Int → List Int → Option R) : Nat → Int → Int → Int → Int → Int → List Int → List Int → List Int → List Int → Option R
  | 0, _, _, _, _, _, _, _, _, _ => none
  | n + 1, x1, x2, x3, x4, x5, x6, x7, x8, x9 => f24_10_st N (f24_10_lp N k1 n) k1 x1 x2 x3 x4 x5 x6 x7 x8 x9
def f24_10_F (N : Nat) : (R : Type) → List Leaf → (X → AS → Option R) → Option R := fun _ ls K => match ls with
  | [.i x1, .i x2, .i x3, .i x4, .i x5, .l x6, .l x7, .l x8, .l x9] => f24_10_lp N (fun y1 y2 y3 y4 y5 y6 y7 y8 y9 y10 => K (Go.Eng.X.normal) (fill f24_10_ex1 [.b y1, .i y2, .i y3, .i y4, .i y5, .i y6, .l y7, .l y8, .l y9, .l y10])) N x1 x2 x3 x4 x5 x6 x7 x8 x9
  | _ => none
def f24_8_sh : Shp := { n := 123, lo := 2, slots := [(2, .one (.fix (Go.Eng.At.ptr 2 0 Go.Eng.Off.z 32))), (4, .one (.fix (Go.Eng.At.ptr 4 0 Go.Eng.Off.z 16))), (11, .one (.fix (Go.Eng.At.ptr 11 0 Go.Eng.Off.z 5))), (17, .one (.fix (Go.Eng.At.ptr 17 0 Go.Eng.Off.z 16))), (18, .one (.int Go.IntKind.u64)), (83, .one (.int Go.IntKind.i64))], items := [(2, .obj [.ints Go.IntKind.u8 32]), (4, .obj [.ints Go.IntKind.u8 16]), (11, .obj [.ints Go.IntKind.u64 5]), (17, .obj [.ints Go.IntKind.u8 16])] }
def f24_8_ex1 : Shp := { n := 123, lo := 2, slots := [(84, .one (.bool)), (2, .one (.fix (Go.Eng.At.ptr 2 0 Go.Eng.Off.z 32))), (4, .one (.fix (Go.Eng.At.ptr 4 0 Go.Eng.Off.z 16))), (11, .one (.fix (Go.Eng.At.ptr 11 0 Go.Eng.Off.z 5))), (17, .one (.fix (Go.Eng.At.ptr 17 0 Go.Eng.Off.z 16))), (18, .one (.int Go.IntKind.u64)), (83, .one (.int Go.IntKind.i64))], items := [(2, .obj [.ints Go.IntKind.u8 32]), (4, .obj [.ints Go.IntKind.u8 16]), (11, .obj [.ints Go.IntKind.u64 5]), (17, .obj [.ints Go.IntKind.u8 16])] }
def f24_8_st {R : Type} (N : Nat) (self : Int → Int → List Int → List Int → List Int → List Int → Option R) (k1 : Bool → Int → Int → List Int → List Int → List Int → List Int → Option R) (x1 : Int) (x2 : Int) (x3 : List Int) (x4 : List Int) (x5 : List Int) (x6 : List Int) : Option R :=
  bif Decidable.decide (x2 < 16) then
  f24_10_lp N
    (fun w0_1 w0_2 w0_3 w0_4 w0_5 w0_6 w0_7 w0_8 w0_9 w0_10 =>
      let v1 : Int := Go.IntKind.i64.wrap (16 + w0_3);
      bif Decidable.decide (0 ≤ v1) && Decidable.decide (v1 < 32) then
        bif Decidable.decide (0 ≤ w0_3) && Decidable.decide (w0_3 < 16) then
          let v2 : Int := Go.IntKind.u64.wrap (w0_7.getD (Go.Eng.mulE v1.toNat 1) 0);
          let v3 : Int := Go.IntKind.u64.wrap (w0_4 + v2);
          let v4 : Int := Go.IntKind.u64.wrap (w0_2 + v3);
          let v5 : Int := Go.Eng.shrI Go.IntKind.u64 v4 8;
          let v6 : Int := Go.IntKind.i64.wrap (w0_5 + 1);
          let v7 : Int := Go.IntKind.u8.wrap v4;
          let v8 : List Int := w0_10.set (Go.Eng.mulE w0_3.toNat 1) v7;
          self v5 v6 w0_7 w0_8 w0_9 v8
        else Option.none
      else Option.none)
    N x1 x2 0 x2 0 x3 x4 x5 x6
else k1 (Decidable.decide (x2 < 16)) x1 x2 x3 x4 x5 x6
def f24_8_lp {R : Type} (N : Nat) (k1 : Bool → Int → Int → List Int → List Int → List Int → List Int → Option R) : Nat → Int → Int → List Int → List Int → List Int → List Int → Option R
  | 0, _, _, _, _, _, _ => none
  | n + 1, x1, x2, x3, x4, x5, x6 => f24_8_st N (f24_8_lp N k1 n) k1 x1 x2 x3 x4 x5 x6
def f24_8_F (N : Nat) : (R : Type) → List Leaf → (X → AS → Option R) → Option R := fun _ ls K => match ls with
  | [.i x1, .i x2, .l x3, .l x4, .l x5, .l x6] => f24_8_lp N (fun y1 y2 y3 y4 y5 y6 y7 => K (Go.Eng.X.normal) (fill f24_8_ex1 [.b y1, .i y2, .i y3, .l y4, .l y5, .l y6, .l y7])) N x1 x2 x3 x4 x5 x6
  | _ => none
def f24_raw {R : Type} (N : Nat) (key : List Int) (b : List Int) (k : List DV → Option R) : Option R :=
 let v0 : List Int := (Go.Eng.zerosOf (4 * 1)).set 0 3;
let v1 : List Int := v0.set 1 7;
let v2 : List Int := v1.set 2 11;
let v3 : List Int := v2.set 3 15;
let v4 : List Int := Go.Eng.sub key (Go.Eng.plusO Go.Eng.Off.z 1 Option.none) (Go.Eng.mulE (Go.Eng.subN (Go.Eng.hiNat (Option.some 16) 32) Option.none) 1);
let v5 : Nat := Min.min (Go.Eng.rowLen 1 v4) (Go.Eng.subN (Go.Eng.hiNat Option.none 17) Option.none);
let v6 : List Int := Go.Eng.splice (List.replicate 17 0) (Go.Eng.plusO Go.Eng.Off.z 1 Option.none) (List.take (Go.Eng.mulE v5 1) v4);
f24_0_lp N
 (fun w7_1 w7_2 w7_3 w7_4 w7_5 w7_6 w7_7 w7_8 =>
 let v8 : List Int := (Go.Eng.zerosOf (3 * 1)).set 0 4;
 let v9 : List Int := v8.set 1 8;
 let v10 : List Int := v9.set 2 12;
 f24_2_lp N (fun w11_1 w11_2 w11_3 w11_4 w11_5 w11_6 w11_7 w11_8 => f24_4_lp N (fun w12_1 w12_2 w12_3 w12_4 w12_5 w12_6 w12_7 => f24_8_lp N (fun w13_1 w13_2 w13_3 w13_4 w13_5 w13_6 w13_7 => k [Go.Eng.DV.v (Go.Eng.SV.one (Go.Eng.At.ints Go.IntKind.u8 16 w13_7))]) N 0 0 w12_4 w12_5 (Go.Proofs.Ytiaddnmloonhgaa.wholeL w12_7) (List.replicate 16 0)) N 0 w11_4 w11_5 w11_6 (Go.Proofs.Ytiaddnmloonhgaa.limbsL w11_7) (List.replicate 5 0)) N (Go.Eng.nI (Go.Eng.rowLen 1 v10)) 0 w7_4 w7_5 w7_6 w7_7 v10)
 N (Go.Eng.nI (Go.Eng.rowLen 1 v3)) 0 b key (List.replicate 16 0) v6 v3


noncomputable def E24 (N : Nat) : Env := { Θ := Th, Γ := G24, K := K24, ν := N24, fuel := 0, lp := [(0, mkL N24_0 f24_0_sh (f24_0_F N)), (2, mkL N24_2 f24_2_sh (f24_2_F N)), (4, mkL N24_4 f24_4_sh (f24_4_F N)), (6, mkL N24_6 f24_6_sh (f24_6_F N)), (8, mkL N24_8 f24_8_sh (f24_8_F N)), (10, mkL N24_10 f24_10_sh (f24_10_F N))] }

theorem f24_0_st_eq {R : Type} (N : Nat) (K : X → AS → Option R) (n : Nat) (x1 : Int) (x2 : Int) (x3 : List Int) (x4 : List Int) (x5 : List Int) (x6 : List Int) (x7 : List Int) : roundsOf (E24 N) N24_0 0 B24_0 K (n + 1) (fill f24_0_sh [.i x1, .i x2, .l x3, .l x4, .l x5, .l x6, .l x7]) = f24_0_st N (fun x1 x2 x3 x4 x5 x6 x7 => roundsOf (E24 N) N24_0 0 B24_0 K n (fill f24_0_sh [.i x1, .i x2, .l x3, .l x4, .l x5, .l x6, .l x7])) (fun y1 y2 y3 y4 y5 y6 y7 y8 => K (Go.Eng.X.normal) (fill f24_0_ex1 [.b y1, .i y2, .i y3, .l y4, .l y5, .l y6, .l y7, .l y8])) x1 x2 x3 x4 x5 x6 x7 := by kernel_rfl
theorem f24_0_lp_eq {R : Type} (N : Nat) (K : X → AS → Option R) : ∀ (n : Nat) (x1 : Int) (x2 : Int) (x3 : List Int) (x4 : List Int) (x5 : List Int) (x6 : List Int) (x7 : List Int), roundsOf (E24 N) N24_0 0 B24_0 K n (fill f24_0_sh [.i x1, .i x2, .l x3, .l x4, .l x5, .l x6, .l x7]) = f24_0_lp N (fun y1 y2 y3 y4 y5 y6 y7 y8 => K (Go.Eng.X.normal) (fill f24_0_ex1 [.b y1, .i y2, .i y3, .l y4, .l y5, .l y6, .l y7, .l y8])) n x1 x2 x3 x4 x5 x6 x7
  | 0, _, _, _, _, _, _, _ => rfl
  | n + 1, x1, x2, x3, x4, x5, x6, x7 => by
    rw [f24_0_st_eq, f24_0_lp, show (fun x1 x2 x3 x4 x5 x6 x7 => roundsOf (E24 N) N24_0 0 B24_0 K n (fill f24_0_sh [.i x1, .i x2, .l x3, .l x4, .l x5, .l x6, .l x7])) = f24_0_lp N (fun y1 y2 y3 y4 y5 y6 y7 y8 => K (Go.Eng.X.normal) (fill f24_0_ex1 [.b y1, .i y2, .i y3, .l y4, .l y5, .l y6, .l y7, .l y8])) n from by funext x1 x2 x3 x4 x5 x6 x7; exact f24_0_lp_eq N K n x1 x2 x3 x4 x5 x6 x7]
theorem f24_0_ok (N : Nat) (hlp : LoopsOk Try.prog (E24 N).lp B24_0) (hΓ : CtxOk Try.prog (E24 N).Γ) : LoopOk Try.prog (mkL N24_0 f24_0_sh (f24_0_F N)) 0 B24_0 := by
  refine loopOk_of (E := E24 N) thOk hΓ mixed hlp ?_
  intro R ls K r h
  unfold f24_0_F at h
  split at h
  · exact ⟨N, by rw [f24_0_lp_eq]; exact h⟩
  · cases h
theorem f24_2_st_eq {R : Type} (N : Nat) (K : X → AS → Option R) (n : Nat) (x1 : Int) (x2 : Int) (x3 : List Int) (x4 : List Int) (x5 : List Int) (x6 : List Int) (x7 : List Int) : roundsOf (E24 N) N24_2 2 B24_2 K (n + 1) (fill f24_2_sh [.i x1, .i x2, .l x3, .l x4, .l x5, .l x6, .l x7]) = f24_2_st N (fun x1 x2 x3 x4 x5 x6 x7 => roundsOf (E24 N) N24_2 2 B24_2 K n (fill f24_2_sh [.i x1, .i x2, .l x3, .l x4, .l x5, .l x6, .l x7])) (fun y1 y2 y3 y4 y5 y6 y7 y8 => K (Go.Eng.X.normal) (fill f24_2_ex1 [.b y1, .i y2, .i y3, .l y4, .l y5, .l y6, .l y7, .l y8])) x1 x2 x3 x4 x5 x6 x7 := by kernel_rfl
theorem f24_2_lp_eq {R : Type} (N : Nat) (K : X → AS → Option R) : ∀ (n : Nat) (x1 : Int) (x2 : Int) (x3 : List Int) (x4 : List Int) (x5 : List Int) (x6 : List Int) (x7 : List Int), roundsOf (E24 N) N24_2 2 B24_2 K n (fill f24_2_sh [.i x1, .i x2, .l x3, .l x4, .l x5, .l x6, .l x7]) = f24_2_lp N (fun y1 y2 y3 y4 y5 y6 y7 y8 => K (Go.Eng.X.normal) (fill f24_2_ex1 [.b y1, .i y2, .i y3, .l y4, .l y5, .l y6, .l y7, .l y8])) n x1 x2 x3 x4 x5 x6 x7
  | 0, _, _, _, _, _, _, _ => rfl
  | n + 1, x1, x2, x3, x4, x5, x6, x7 => by
    rw [f24_2_st_eq, f24_2_lp, show (fun x1 x2 x3 x4 x5 x6 x7 => roundsOf (E24 N) N24_2 2 B24_2 K n (fill f24_2_sh [.i x1, .i x2, .l x3, .l x4, .l x5, .l x6, .l x7])) = f24_2_lp N (fun y1 y2 y3 y4 y5 y6 y7 y8 => K (Go.Eng.X.normal) (fill f24_2_ex1 [.b y1, .i y2, .i y3, .l y4, .l y5, .l y6, .l y7, .l y8])) n from by funext x1 x2 x3 x4 x5 x6 x7; exact f24_2_lp_eq N K n x1 x2 x3 x4 x5 x6 x7]
theorem f24_2_ok (N : Nat) (hlp : LoopsOk Try.prog (E24 N).lp B24_2) (hΓ : CtxOk Try.prog (E24 N).Γ) : LoopOk Try.prog (mkL N24_2 f24_2_sh (f24_2_F N)) 2 B24_2 := by
  refine loopOk_of (E := E24 N) thOk hΓ mixed hlp ?_
  intro R ls K r h
  unfold f24_2_F at h
  split at h
  · exact ⟨N, by rw [f24_2_lp_eq]; exact h⟩
  · cases h
theorem f24_6_st_eq {R : Type} (N : Nat) (K : X → AS → Option R) (n : Nat) (x1 : Int) (x2 : List Int) (x3 : Int) (x4 : List Int) (x5 : List Int) (x6 : List Int) (x7 : List Int) (x8 : List Int) : roundsOf (E24 N) N24_6 6 B24_6 K (n + 1) (fill f24_6_sh [.i x1, .l x2, .i x3, .l x4, .l x5, .l x6, .l x7, .l x8]) = f24_6_st N (fun x1 x2 x3 x4 x5 x6 x7 x8 => roundsOf (E24 N) N24_6 6 B24_6 K n (fill f24_6_sh [.i x1, .l x2, .i x3, .l x4, .l x5, .l x6, .l x7, .l x8])) (fun y1 y2 y3 y4 y5 y6 y7 y8 y9 => K (Go.Eng.X.normal) (fill f24_6_ex1 [.b y1, .i y2, .l y3, .i y4, .l y5, .l y6, .l y7, .l y8, .l y9])) x1 x2 x3 x4 x5 x6 x7 x8 := by kernel_rfl
theorem f24_6_lp_eq {R : Type} (N : Nat) (K : X → AS → Option R) : ∀ (n : Nat) (x1 : Int) (x2 : List Int) (x3 : Int) (x4 : List Int) (x5 : List Int) (x6 : List Int) (x7 : List Int) (x8 : List Int), roundsOf (E24 N) N24_6 6 B24_6 K n (fill f24_6_sh [.i x1, .l x2, .i x3, .l x4, .l x5, .l x6, .l x7, .l x8]) = f24_6_lp N (fun y1 y2 y3 y4 y5 y6 y7 y8 y9 => K (Go.Eng.X.normal) (fill f24_6_ex1 [.b y1, .i y2, .l y3, .i y4, .l y5, .l y6, .l y7, .l y8, .l y9])) n x1 x2 x3 x4 x5 x6 x7 x8
  | 0, _, _, _, _, _, _, _, _ => rfl
  | n + 1, x1, x2, x3, x4, x5, x6, x7, x8 => by
    rw [f24_6_st_eq, f24_6_lp, show (fun x1 x2 x3 x4 x5 x6 x7 x8 => roundsOf (E24 N) N24_6 6 B24_6 K n (fill f24_6_sh [.i x1, .l x2, .i x3, .l x4, .l x5, .l x6, .l x7, .l x8])) = f24_6_lp N (fun y1 y2 y3 y4 y5 y6 y7 y8 y9 => K (Go.Eng.X.normal) (fill f24_6_ex1 [.b y1, .i y2, .l y3, .i y4, .l y5, .l y6, .l y7, .l y8, .l y9])) n from by funext x1 x2 x3 x4 x5 x6 x7 x8; exact f24_6_lp_eq N K n x1 x2 x3 x4 x5 x6 x7 x8]
theorem f24_6_ok (N : Nat) (hlp : LoopsOk Try.prog (E24 N).lp B24_6) (hΓ : CtxOk Try.prog (E24 N).Γ) : LoopOk Try.prog (mkL N24_6 f24_6_sh (f24_6_F N)) 6 B24_6 := by
  refine loopOk_of (E := E24 N) thOk hΓ mixed hlp ?_
  intro R ls K r h
  unfold f24_6_F at h
  split at h
  · exact ⟨N, by rw [f24_6_lp_eq]; exact h⟩
  · cases h
theorem f24_4_st_eq {R : Type} (N : Nat) (K : X → AS → Option R) (n : Nat) (x1 : Int) (x2 : List Int) (x3 : List Int) (x4 : List Int) (x5 : List Int) (x6 : List Int) : roundsOf (E24 N) N24_4 4 B24_4 K (n + 1) (fill f24_4_sh [.i x1, .l x2, .l x3, .l x4, .l x5, .l x6]) = f24_4_st N (fun x1 x2 x3 x4 x5 x6 => roundsOf (E24 N) N24_4 4 B24_4 K n (fill f24_4_sh [.i x1, .l x2, .l x3, .l x4, .l x5, .l x6])) (fun y1 y2 y3 y4 y5 y6 y7 => K (Go.Eng.X.normal) (fill f24_4_ex1 [.b y1, .i y2, .l y3, .l y4, .l y5, .l y6, .l y7])) x1 x2 x3 x4 x5 x6 := by kernel_rfl
theorem f24_4_lp_eq {R : Type} (N : Nat) (K : X → AS → Option R) : ∀ (n : Nat) (x1 : Int) (x2 : List Int) (x3 : List Int) (x4 : List Int) (x5 : List Int) (x6 : List Int), roundsOf (E24 N) N24_4 4 B24_4 K n (fill f24_4_sh [.i x1, .l x2, .l x3, .l x4, .l x5, .l x6]) = f24_4_lp N (fun y1 y2 y3 y4 y5 y6 y7 => K (Go.Eng.X.normal) (fill f24_4_ex1 [.b y1, .i y2, .l y3, .l y4, .l y5, .l y6, .l y7])) n x1 x2 x3 x4 x5 x6
  | 0, _, _, _, _, _, _ => rfl
  | n + 1, x1, x2, x3, x4, x5, x6 => by
    rw [f24_4_st_eq, f24_4_lp, show (fun x1 x2 x3 x4 x5 x6 => roundsOf (E24 N) N24_4 4 B24_4 K n (fill f24_4_sh [.i x1, .l x2, .l x3, .l x4, .l x5, .l x6])) = f24_4_lp N (fun y1 y2 y3 y4 y5 y6 y7 => K (Go.Eng.X.normal) (fill f24_4_ex1 [.b y1, .i y2, .l y3, .l y4, .l y5, .l y6, .l y7])) n from by funext x1 x2 x3 x4 x5 x6; exact f24_4_lp_eq N K n x1 x2 x3 x4 x5 x6]
theorem f24_4_ok (N : Nat) (hlp : LoopsOk Try.prog (E24 N).lp B24_4) (hΓ : CtxOk Try.prog (E24 N).Γ) : LoopOk Try.prog (mkL N24_4 f24_4_sh (f24_4_F N)) 4 B24_4 := by
  refine loopOk_of (E := E24 N) thOk hΓ mixed hlp ?_
  intro R ls K r h
  unfold f24_4_F at h
  split at h
  · exact ⟨N, by rw [f24_4_lp_eq]; exact h⟩
  · cases h
theorem f24_10_st_eq {R : Type} (N : Nat) (K : X → AS → Option R) (n : Nat) (x1 : Int) (x2 : Int) (x3 : Int) (x4 : Int) (x5 : Int) (x6 : List Int) (x7 : List Int) (x8 : List Int) (x9 : List Int) : roundsOf (E24 N) N24_10 10 B24_10 K (n + 1) (fill f24_10_sh [.i x1, .i x2, .i x3, .i x4, .i x5, .l x6, .l x7, .l x8, .l x9]) = f24_10_st N (fun x1 x2 x3 x4 x5 x6 x7 x8 x9 => roundsOf (E24 N) N24_10 10 B24_10 K n (fill f24_10_sh [.i x1, .i x2, .i x3, .i x4, .i x5, .l x6, .l x7, .l x8, .l x9])) (fun y1 y2 y3 y4 y5 y6 y7 y8 y9 y10 => K (Go.Eng.X.normal) (fill f24_10_ex1 [.b y1, .i y2, .i y3, .i y4, .i y5, .i y6, .l y7, .l y8, .l y9, .l y10])) x1 x2 x3 x4 x5 x6 x7 x8 x9 := by kernel_rfl
theorem f24_10_lp_eq {R : Type} (N : Nat) (K : X → AS → Option R) : ∀ (n : Nat) (x1 : Int) (x2 : Int) (x3 : Int) (x4 : Int) (x5 : Int) (x6 : List Int) (x7 : List Int) (x8 : List Int) (x9 : List Int), roundsOf (E24 N) N24_10 10 B24_10 K n (fill f24_10_sh [.i x1, .i x2, .i x3, .i x4, .i x5, .l x6, .l x7, .l x8, .l x9]) = f24_10_lp N (fun y1 y2 y3 y4 y5 y6 y7 y8 y9 y10 => K (Go.Eng.X.normal) (fill f24_10_ex1 [.b y1, .i y2, .i y3, .i y4, .i y5, .i y6, .l y7, .l y8, .l y9, .l y10])) n x1 x2 x3 x4 x5 x6 x7 x8 x9
  | 0, _, _, _, _, _, _, _, _, _ => rfl
  | n + 1, x1, x2, x3, x4, x5, x6, x7, x8, x9 => by
    rw [f24_10_st_eq, f24_10_lp, show (fun x1 x2 x3 x4 x5 x6 x7 x8 x9 => roundsOf (E24 N) N24_10 10 B24_10 K n (fill f24_10_sh [.i x1, .i x2, .i x3, .i x4, .i x5, .l x6, .l x7, .l x8, .l x9])) = f24_10_lp N (fun y1 y2 y3 y4 y5 y6 y7 y8 y9 y10 => K (Go.Eng.X.normal) (fill f24_10_ex1 [.b y1, .i y2, .i y3, .i y4, .i y5, .i y6, .l y7, .l y8, .l y9, .l y10])) n from by funext x1 x2 x3 x4 x5 x6 x7 x8 x9; exact f24_10_lp_eq N K n x1 x2 x3 x4 x5 x6 x7 x8 x9]
theorem f24_10_ok (N : Nat) (hlp : LoopsOk Try.prog (E24 N).lp B24_10) (hΓ : CtxOk Try.prog (E24 N).Γ) : LoopOk Try.prog (mkL N24_10 f24_10_sh (f24_10_F N)) 10 B24_10 := by
  refine loopOk_of (E := E24 N) thOk hΓ mixed hlp ?_
  intro R ls K r h
  unfold f24_10_F at h
  split at h
  · exact ⟨N, by rw [f24_10_lp_eq]; exact h⟩
  · cases h
theorem f24_8_st_eq {R : Type} (N : Nat) (K : X → AS → Option R) (n : Nat) (x1 : Int) (x2 : Int) (x3 : List Int) (x4 : List Int) (x5 : List Int) (x6 : List Int) : roundsOf (E24 N) N24_8 8 B24_8 K (n + 1) (fill f24_8_sh [.i x1, .i x2, .l x3, .l x4, .l x5, .l x6]) = f24_8_st N (fun x1 x2 x3 x4 x5 x6 => roundsOf (E24 N) N24_8 8 B24_8 K n (fill f24_8_sh [.i x1, .i x2, .l x3, .l x4, .l x5, .l x6])) (fun y1 y2 y3 y4 y5 y6 y7 => K (Go.Eng.X.normal) (fill f24_8_ex1 [.b y1, .i y2, .i y3, .l y4, .l y5, .l y6, .l y7])) x1 x2 x3 x4 x5 x6 := by kernel_rfl
theorem f24_8_lp_eq {R : Type} (N : Nat) (K : X → AS → Option R) : ∀ (n : Nat) (x1 : Int) (x2 : Int) (x3 : List Int) (x4 : List Int) (x5 : List Int) (x6 : List Int), roundsOf (E24 N) N24_8 8 B24_8 K n (fill f24_8_sh [.i x1, .i x2, .l x3, .l x4, .l x5, .l x6]) = f24_8_lp N (fun y1 y2 y3 y4 y5 y6 y7 => K (Go.Eng.X.normal) (fill f24_8_ex1 [.b y1, .i y2, .i y3, .l y4, .l y5, .l y6, .l y7])) n x1 x2 x3 x4 x5 x6
  | 0, _, _, _, _, _, _ => rfl
  | n + 1, x1, x2, x3, x4, x5, x6 => by
    rw [f24_8_st_eq, f24_8_lp, show (fun x1 x2 x3 x4 x5 x6 => roundsOf (E24 N) N24_8 8 B24_8 K n (fill f24_8_sh [.i x1, .i x2, .l x3, .l x4, .l x5, .l x6])) = f24_8_lp N (fun y1 y2 y3 y4 y5 y6 y7 => K (Go.Eng.X.normal) (fill f24_8_ex1 [.b y1, .i y2, .i y3, .l y4, .l y5, .l y6, .l y7])) n from by funext x1 x2 x3 x4 x5 x6; exact f24_8_lp_eq N K n x1 x2 x3 x4 x5 x6]
theorem f24_8_ok (N : Nat) (hlp : LoopsOk Try.prog (E24 N).lp B24_8) (hΓ : CtxOk Try.prog (E24 N).Γ) : LoopOk Try.prog (mkL N24_8 f24_8_sh (f24_8_F N)) 8 B24_8 := by
  refine loopOk_of (E := E24 N) thOk hΓ mixed hlp ?_
  intro R ls K r h
  unfold f24_8_F at h
  split at h
  · exact ⟨N, by rw [f24_8_lp_eq]; exact h⟩
  · cases h

theorem lok24_10 (N : Nat) (hΓ : CtxOk Try.prog G24) : LoopOk Try.prog (mkL N24_10 f24_10_sh (f24_10_F N)) 10 B24_10 := f24_10_ok N (loopsOk_of (l := []) (by kernel_rfl) trivial) hΓ
theorem lok24_8 (N : Nat) (hΓ : CtxOk Try.prog G24) : LoopOk Try.prog (mkL N24_8 f24_8_sh (f24_8_F N)) 8 B24_8 := f24_8_ok N (loopsOk_of (l := [(10, B24_10)]) (by kernel_rfl) (allOk_cons (L := mkL N24_10 f24_10_sh (f24_10_F N)) rfl (lok24_10 N hΓ) trivial)) hΓ
theorem lok24_6 (N : Nat) (hΓ : CtxOk Try.prog G24) : LoopOk Try.prog (mkL N24_6 f24_6_sh (f24_6_F N)) 6 B24_6 := f24_6_ok N (loopsOk_of (l := []) (by kernel_rfl) trivial) hΓ
theorem lok24_4 (N : Nat) (hΓ : CtxOk Try.prog G24) : LoopOk Try.prog (mkL N24_4 f24_4_sh (f24_4_F N)) 4 B24_4 := f24_4_ok N (loopsOk_of (l := [(6, B24_6)]) (by kernel_rfl) (allOk_cons (L := mkL N24_6 f24_6_sh (f24_6_F N)) rfl (lok24_6 N hΓ) trivial)) hΓ
theorem lok24_2 (N : Nat) (hΓ : CtxOk Try.prog G24) : LoopOk Try.prog (mkL N24_2 f24_2_sh (f24_2_F N)) 2 B24_2 := f24_2_ok N (loopsOk_of (l := []) (by kernel_rfl) trivial) hΓ
theorem lok24_0 (N : Nat) (hΓ : CtxOk Try.prog G24) : LoopOk Try.prog (mkL N24_0 f24_0_sh (f24_0_F N)) 0 B24_0 := f24_0_ok N (loopsOk_of (l := []) (by kernel_rfl) trivial) hΓ
theorem f24_contract (N : Nat) (hΓ : CtxOk Try.prog G24) : Contract Try.prog 24 { sig := S24, impl := fun _ ds k => call (E24 N) S24 123 B24 R24 ds k } :=
  call_contract (E := E24 N) thOk hΓ mixed ok24.look ok24.body ok24.n ok24.rv ok24.name rfl (by decide) (loopsOk_of (l := [(0, B24_0), (2, B24_2), (4, B24_4), (6, B24_6), (8, B24_8), (10, B24_10)]) (by kernel_rfl) (allOk_cons (L := mkL N24_0 f24_0_sh (f24_0_F N)) rfl (lok24_0 N hΓ) (allOk_cons (L := mkL N24_2 f24_2_sh (f24_2_F N)) rfl (lok24_2 N hΓ) (allOk_cons (L := mkL N24_4 f24_4_sh (f24_4_F N)) rfl (lok24_4 N hΓ) (allOk_cons (L := mkL N24_6 f24_6_sh (f24_6_F N)) rfl (lok24_6 N hΓ) (allOk_cons (L := mkL N24_8 f24_8_sh (f24_8_F N)) rfl (lok24_8 N hΓ) (allOk_cons (L := mkL N24_10 f24_10_sh (f24_10_F N)) rfl (lok24_10 N hΓ) trivial)))))))
theorem f24_raw_eq {R : Type} (N : Nat) (key : List Int) (b : List Int) (k : List DV → Option R) : call (E24 N) S24 123 B24 R24 [.v (.one (.ints .u8 32 key)), .lst .u8 1 b] k = f24_raw N key b k := by kernel_rfl
end Go.Proofs.Ytiaddnmloonhgaa

