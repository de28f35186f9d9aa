/- A part of the proof: ShamirEvals: for any polynomial, place, identifier and identifiers whose data stay within 1,048,576: Eval, At and Split answer as the document. -/
import Derived.Test.YtogcijgklnfjjaaGreatShamirEvalsUptoSaidT1
import Derived.Orders
import Derived.LoopN
import Derived.Scope
import Derived.Laws.Sem
import Derived.OpenShut
import Derived.Below
import Derived.ChangeSame
import Derived.Carry
set_option linter.unusedVariables false
set_option linter.unusedSimpArgs false

namespace Go.Eng
open Go

section
variable {P : Program} {Γ : Ctx} {Θ : Types} {s : AS} {o : Oper} {d : Delta} {I : Nat → Option Item}


structure Ren (f : Nat → Nat) (ρ ρ' : Rho) (S S' : Sh) (n : Nat) : Prop where
  loc : ρ'.loc (f n) = ρ.loc n
  tot : ρ'.tot (f n) = ρ.tot n
  sh : S' (f n) = S n ∨ S' (f n) = none

theorem RelAt.ren {f : Nat → Nat} {ρ ρ' : Rho} {S S' : Sh} {a : At} {cs : List Value} (h : ∀ n ∈ a.names, Ren f ρ ρ' S S' n) (r : RelAt ρ S a cs) : RelAt ρ' S' (rnA f a) cs := by
  cases a with
  | own n =>
    obtain ⟨h1, h2, h3⟩ := h n (by simp [At.names])
    simp only [RelAt, rnA] at r ⊢
    rcases h3 with h3 | h3
    · rw [h3, h1, h2]; exact r
    · rw [h3]
      split at r
      · obtain ⟨c, e, _⟩ := r; exact ⟨_, e, rfl⟩
      · obtain ⟨A, c, e, _⟩ := r; exact ⟨_, e, rfl⟩
      · obtain ⟨c, e, _⟩ := r; exact ⟨_, e, rfl⟩
      · obtain ⟨A, c, e, _⟩ := r; exact ⟨_, e, rfl⟩
      · exact r
  | slc n base o es len cap =>
    obtain ⟨h1, h2, h3⟩ := h n (by simp [At.names])
    simp only [RelAt, rnA] at r ⊢
    obtain ⟨A, c, e1, e2, e3, e4, e5, e6⟩ := r
    refine ⟨A, c, e1, e2, e3, by rw [h1]; exact e4, e5, ?_⟩
    intro sh hs
    rcases h3 with h3 | h3
    · rw [h3] at hs; exact e6 sh hs
    · rw [h3] at hs; cases hs
  | ptr n base o z =>
    obtain ⟨h1, h2, h3⟩ := h n (by simp [At.names])
    simp only [RelAt, rnA] at r ⊢
    obtain ⟨p, e1, e2, e3⟩ := r
    refine ⟨p, by rw [h1]; exact e1, e2, ?_⟩
    intro sh hs
    rcases h3 with h3 | h3
    · rw [h3] at hs; exact e3 sh hs
    · rw [h3] at hs; cases hs
  | int k n => exact r
  | bool b => exact r
  | flt f b => exact r
  | ints k m xs => exact r
  | nils => exact r
  | nilp => exact r
  | mapv n =>
    obtain ⟨h1, h2, h3⟩ := h n (by simp [At.names])
    obtain ⟨p, e1, e2⟩ := r
    exact ⟨p, by rw [h1]; exact e1, e2⟩
  | raw v => exact r
  | dead => exact r

theorem RelL.ren {f : Nat → Nat} {ρ ρ' : Rho} {S S' : Sh} : ∀ {l : List At} {cs : List Value}, (∀ n ∈ namesL l, Ren f ρ ρ' S S' n) → RelL ρ S l cs → RelL ρ' S' (rnL f l) cs
  | [], _, _, r => r
  | a :: l, cs, h, ⟨c1, c2, e, r1, r2⟩ => ⟨c1, c2, e, r1.ren fun n hn => h n (by simp [namesL, hn]), r2.ren fun n hn => h n (by simp [namesL, hn])⟩

theorem RelSV.ren {f : Nat → Nat} {ρ ρ' : Rho} {S S' : Sh} {v : SV} {x : Value} (h : ∀ n ∈ v.names, Ren f ρ ρ' S S' n) (r : RelSV ρ S v x) : RelSV ρ' S' (rnS f v) x := by
  cases v with
  | one a =>
    have h' : ∀ n ∈ a.names, Ren f ρ ρ' S S' n := h
    cases a <;> first
      | exact r
      | exact RelAt.ren h' r
  | agg l =>
    obtain ⟨cs, e, r⟩ := r
    exact ⟨cs, e, r.ren h⟩

theorem RelT.ren {f : Nat → Nat} {ρ ρ' : Rho} {S S' : Sh} : ∀ {l : List SV} {cs : List Value}, (∀ n ∈ namesS l, Ren f ρ ρ' S S' n) → RelT ρ S l cs → RelT ρ' S' (rnSs f l) cs
  | [], _, _, r => r
  | a :: l, cs, h, ⟨c1, c2, e, r1, r2⟩ => ⟨c1, c2, e, r1.ren fun n hn => h n (by simp [namesS, hn]), r2.ren fun n hn => h n (by simp [namesS, hn])⟩

theorem RelV.ren {f : Nat → Nat} {ρ ρ' : Rho} {S S' : Sh} {v : AV} {x : Value} (h : ∀ n ∈ v.names, Ren f ρ ρ' S S' n) (r : RelV ρ S v x) : RelV ρ' S' (rnV f v) x := by
  cases v with
  | s v => exact RelSV.ren (ρ := ρ) (S := S) h r
  | t l => obtain ⟨vs, e, r⟩ := r; exact ⟨vs, e, r.ren h⟩

theorem rnL_length (f : Nat → Nat) : ∀ l, (rnL f l).length = l.length
  | [] => rfl
  | a :: l => by simp [rnL, rnL_length f l]
theorem formsOf_rnL (f : Nat → Nat) : ∀ l, formsOf (rnL f l) = formsOf l
  | [] => rfl
  | a :: l => by
    simp only [rnL, formsOf, formsOf_rnL f l]
    cases a <;> rfl
theorem rnI_shape (f : Nat → Nat) (it : Item) : (rnI f it).shape = it.shape := by
  cases it with
  | obj l => simp [rnI, Item.shape, formsOf_rnL]
  | tab l => simp [rnI, Item.shape, rnL_length]
  | row k es xs => rfl
  | view k es xs => rfl
  | dview k es rows => rfl
  | mp kk vk l => rfl
theorem rnI_owned (f : Nat → Nat) (it : Item) : (rnI f it).owned = it.owned := by cases it <;> rfl
theorem owned_of_shape {it it' : Item} (h : it.shape = it'.shape) : it.owned = it'.owned := by
  cases it <;> cases it' <;> first | rfl | (simp [Item.shape] at h; done)
theorem own?_owned (it : Item) : it.own? = it.owned := by cases it <;> rfl
theorem rnA_cell1 (f : Nat → Nat) (a : At) : (rnA f a).cell1 = a.cell1 := by cases a <;> rfl
theorem rnL_cell1 (f : Nat → Nat) : ∀ {l : List At}, (∀ a ∈ l, a.cell1 = true) → ∀ a ∈ rnL f l, a.cell1 = true
  | [], _, a, h => by cases h
  | b :: l, hl, a, h => by
    rcases List.mem_cons.1 h with rfl | h
    · rw [rnA_cell1]; exact hl b (.head _)
    · exact rnL_cell1 f (fun c hc => hl c (.tail _ hc)) a h

theorem HoldI.ren {f : Nat → Nat} {ρ ρ' : Rho} {S S' : Sh} {n : Nat} {w : World} {it : Item} (hn : ρ'.loc (f n) = ρ.loc n ∧ ρ'.tot (f n) = ρ.tot n)
    (h : ∀ m ∈ it.names, Ren f ρ ρ' S S' m) (hnd : ∀ k es rows, it ≠ .dview k es rows) (r : HoldI ρ S n w it) : HoldI ρ' S' (f n) w (rnI f it) := by
  cases it with
  | dview k es rows => exact absurd rfl (hnd k es rows)
  | mp kk vk l =>
    obtain ⟨b, es, c, h1, h2⟩ := r
    exact ⟨b, es, c, by rw [hn.1]; exact h1, h2⟩
  | obj l =>
    obtain ⟨b, T, cs, e, e2, r⟩ := r
    exact ⟨b, T, cs, by rw [hn.1]; exact e, e2, r.ren h⟩
  | row k es xs =>
    obtain ⟨e0, em, r⟩ := r
    refine ⟨e0, em, ?_⟩
    rw [hn.1, hn.2]; exact r
  | view k es xs =>
    obtain ⟨e0, em, r⟩ := r
    refine ⟨e0, em, ?_⟩
    rw [hn.1]; exact r
  | tab l =>
    obtain ⟨e0, r⟩ := r
    refine ⟨rnL_cell1 f e0, ?_⟩
    rw [hn.1, hn.2]
    rcases r with ⟨r1, r2, r3⟩ | ⟨b, T, cs, sp, e, e2, r, e3⟩
    · exact .inl ⟨r1, by rw [r2]; rfl, r3⟩
    · exact .inr ⟨b, T, cs, sp, e, e2, r.ren h, by rw [rnL_length]; exact e3⟩


theorem lookN_mem {n c : Nat} : ∀ {m : List (Nat × Nat)}, lookN n m = some c → (n, c) ∈ m
  | [], h => by simp [lookN] at h
  | (u, v) :: m, h => by
    simp only [lookN] at h
    split at h
    · rename_i e; injection h with h; subst h; rw [beqT e]; exact .head _
    · exact .tail _ (lookN_mem h)

theorem mem_fsts {n c : Nat} : ∀ {m : List (Nat × Nat)}, (n, c) ∈ m → n ∈ fsts m
  | (u, v) :: m, h => by
    rcases List.mem_cons.1 h with e | h
    · injection e with e1 e2; subst e1; exact .head _
    · exact .tail _ (mem_fsts h)
theorem mem_snds {n c : Nat} : ∀ {m : List (Nat × Nat)}, (n, c) ∈ m → c ∈ snds m
  | (u, v) :: m, h => by
    rcases List.mem_cons.1 h with e | h
    · injection e with e1 e2; subst e2; exact .head _
    · exact .tail _ (mem_snds h)
theorem fsts_mem {n : Nat} : ∀ {m : List (Nat × Nat)}, n ∈ fsts m → ∃ c, (n, c) ∈ m
  | (u, v) :: m, h => by
    rcases List.mem_cons.1 h with rfl | h
    · exact ⟨v, .head _⟩
    · obtain ⟨c, hc⟩ := fsts_mem h; exact ⟨c, .tail _ hc⟩
theorem nodupB_cons {a : Nat} {l : List Nat} (h : nodupB (a :: l) = true) : a ∉ l ∧ nodupB l = true := by
  simp only [nodupB, Bool.and_eq_true] at h
  obtain ⟨h1, h2⟩ := h
  refine ⟨fun hm => ?_, h2⟩
  rw [memN_iff.2 hm] at h1; cases h1
theorem lookN_of {n c : Nat} : ∀ {m : List (Nat × Nat)}, nodupB (fsts m) = true → (n, c) ∈ m → lookN n m = some c
  | (u, v) :: m, hd, h => by
    obtain ⟨h1, h2⟩ := nodupB_cons hd
    simp only [lookN]
    rcases List.mem_cons.1 h with e | h
    · injection e with e1 e2; subst e1; subst e2; simp
    · have : n ≠ u := fun e => h1 (e ▸ mem_fsts h)
      rw [beqF this]; exact lookN_of h2 h
theorem turn_mem {n c : Nat} : ∀ {m : List (Nat × Nat)}, (c, n) ∈ turnM m ↔ (n, c) ∈ m
  | [] => by simp [turnM]
  | (u, v) :: m => by
    simp only [turnM, List.mem_cons, turn_mem (m := m), Prod.mk.injEq]
    exact ⟨fun h => h.elim (fun h => .inl ⟨h.2, h.1⟩) .inr, fun h => h.elim (fun h => .inl ⟨h.2, h.1⟩) .inr⟩
theorem fsts_turn : ∀ m : List (Nat × Nat), fsts (turnM m) = snds m
  | [] => rfl
  | (u, v) :: m => by simp [turnM, fsts, snds, fsts_turn m]
theorem lookN_turn {m : List (Nat × Nat)} (hd : nodupB (snds m) = true) {n c : Nat} (h : (n, c) ∈ m) : lookN c (turnM m) = some n :=
  lookN_of (by rw [fsts_turn]; exact hd) (turn_mem.2 h)

theorem nodupI : ∀ {l : List (Nat × Item)}, nodupB (putNames l) = true → Nodup' l
  | [], _ => trivial
  | (u, v) :: l, h => by
    obtain ⟨h1, h2⟩ := nodupB_cons h
    exact ⟨h1, nodupI h2⟩
theorem findI_of {c : Nat} {it : Item} : ∀ {l : List (Nat × Item)}, Nodup' l → (c, it) ∈ l → findI c l = some it
  | (u, v) :: l, ⟨h1, h2⟩, h => by
    rw [findI_cons]
    rcases List.mem_cons.1 h with e | h
    · injection e with e1 e2; subst e1; subst e2; rw [if_pos rfl]
    · have : c ≠ u := fun e => h1 (e ▸ putNames_iff.2 ⟨it, h⟩)
      rw [if_neg this]; exact findI_of h2 h

theorem takeI_spec {f : Nat → Nat} : ∀ {m : List (Nat × Nat)} {its : List (Nat × Item)}, takeI I f m = some its → putNames its = snds m ∧ (∀ n c, (n, c) ∈ m → ∃ it, I n = some it ∧ (c, rnI f it) ∈ its) ∧ ∀ c it', (c, it') ∈ its → ∃ n it, (n, c) ∈ m ∧ I n = some it ∧ it' = rnI f it
  | [], its, h => by
    simp only [takeI] at h
    injection h with h; subst h
    exact ⟨rfl, by simp, by simp⟩
  | (u, v) :: m, its, h => by
    simp only [takeI] at h
    split at h
    · cases h
    · rename_i it r _ h1 h2
      injection h with h; subst h
      obtain ⟨g1, g2, g3⟩ := takeI_spec h2
      refine ⟨by simp [putNames, snds, g1], ?_, ?_⟩
      · intro n c hm
        rcases List.mem_cons.1 hm with e | hm
        · injection e with e1 e2; subst e1; subst e2; exact ⟨it, h1, .head _⟩
        · obtain ⟨it2, k1, k2⟩ := g2 n c hm; exact ⟨it2, k1, .tail _ k2⟩
      · intro c it' hm
        rcases List.mem_cons.1 hm with e | hm
        · injection e with e1 e2; subst e1; subst e2; exact ⟨u, it, .head _, h1, rfl⟩
        · obtain ⟨n, it2, k1, k2, k3⟩ := g3 c it' hm; exact ⟨n, it2, .tail _ k1, k2, k3⟩
    · cases h

theorem takeI_nd {f : Nat → Nat} : ∀ {m : List (Nat × Nat)} {its : List (Nat × Item)}, takeI I f m = some its → ∀ n c, (n, c) ∈ m → ∀ k es rows, I n ≠ some (.dview k es rows)
  | [], its, h => by simp
  | (u, v) :: m, its, h => by
    simp only [takeI] at h
    split at h
    · cases h
    · rename_i it r hno h1 h2
      intro n c hm k es rows hi
      rcases List.mem_cons.1 hm with e | hm
      · injection e with e1 e2; subst e1
        rw [h1] at hi; injection hi with hi
        exact hno k es rows hi
      · exact takeI_nd h2 n c hm k es rows hi
    · cases h

theorem newI_mem {r : List (Nat × Nat)} {b : Nat → Nat} {x : Nat} {it' : Item} : ∀ {l : List (Nat × Item)}, (x, it') ∈ newI r b l → ∃ c it, (c, it) ∈ l ∧ lookN c r = none ∧ x = b c ∧ it' = rnI b it
  | [], h => by cases h
  | (c, it) :: l, h => by
    simp only [newI] at h
    split at h
    · obtain ⟨c2, it2, h1, h2⟩ := newI_mem h; exact ⟨c2, it2, .tail _ h1, h2⟩
    · rename_i hl
      rcases List.mem_cons.1 h with e | h
      · injection e with e1 e2; exact ⟨c, it, .head _, hl, e1, e2⟩
      · obtain ⟨c2, it2, h1, h2⟩ := newI_mem h; exact ⟨c2, it2, .tail _ h1, h2⟩
theorem newI_of {r : List (Nat × Nat)} {b : Nat → Nat} {c : Nat} {it : Item} : ∀ {l : List (Nat × Item)}, (c, it) ∈ l → lookN c r = none → (b c, rnI b it) ∈ newI r b l
  | (u, v) :: l, h, hl => by
    simp only [newI]
    rcases List.mem_cons.1 h with e | h
    · injection e with e1 e2; subst e1; subst e2; rw [hl]; exact .head _
    · split
      · exact newI_of h hl
      · exact .tail _ (newI_of h hl)
theorem oldI_mem {r : List (Nat × Nat)} {b : Nat → Nat} {x : Nat} {it' : Item} : ∀ {l : List (Nat × Item)}, (x, it') ∈ oldI r b l → ∃ c it n, (c, it) ∈ l ∧ lookN c r = some n ∧ x = b c ∧ it' = rnI b it
  | [], h => by cases h
  | (c, it) :: l, h => by
    simp only [oldI] at h
    split at h
    · rename_i n hl
      rcases List.mem_cons.1 h with e | h
      · injection e with e1 e2; exact ⟨c, it, n, .head _, hl, e1, e2⟩
      · obtain ⟨c2, it2, n2, h1, h2⟩ := oldI_mem h; exact ⟨c2, it2, n2, .tail _ h1, h2⟩
    · obtain ⟨c2, it2, n2, h1, h2⟩ := oldI_mem h; exact ⟨c2, it2, n2, .tail _ h1, h2⟩
theorem oldI_of {r : List (Nat × Nat)} {b : Nat → Nat} {c n : Nat} {it : Item} : ∀ {l : List (Nat × Item)}, (c, it) ∈ l → lookN c r = some n → (b c, rnI b it) ∈ oldI r b l
  | (u, v) :: l, h, hl => by
    simp only [oldI]
    rcases List.mem_cons.1 h with e | h
    · injection e with e1 e2; subst e1; subst e2; rw [hl]; exact .head _
    · split
      · exact .tail _ (oldI_of h hl)
      · exact oldI_of h hl
theorem dropV_sub {I : Nat → Option Item} {x : Nat × Item} : ∀ {l : List (Nat × Item)}, x ∈ dropV I l → x ∈ l
  | [], h => h
  | (n, it) :: l, h => by
    simp only [dropV] at h
    split at h
    · exact .tail _ (dropV_sub h)
    · rcases List.mem_cons.1 h with e | h
      · exact e ▸ .head _
      · exact .tail _ (dropV_sub h)
theorem dropV_or {I : Nat → Option Item} {n : Nat} {it : Item} : ∀ {l : List (Nat × Item)}, (n, it) ∈ l → (n, it) ∈ dropV I l ∨ (it.owned = false ∧ ∃ k es xs, I n = some (.view k es xs))
  | (u, v) :: l, h => by
    simp only [dropV]
    rcases List.mem_cons.1 h with e | h
    · injection e with e1 e2; subst e1; subst e2
      split
      · rename_i hv
        refine .inr ⟨rfl, ?_⟩
        unfold isView at hv
        split at hv
        · rename_i k es xs hi; exact ⟨k, es, xs, hi⟩
        · cases hv
      · exact .inl (.head _)
    · rcases dropV_or (I := I) h with h2 | h2
      · left
        split
        · exact h2
        · exact .tail _ h2
      · exact .inr h2
theorem goneI_mem {its : List (Nat × Item)} {n : Nat} : ∀ {m : List (Nat × Nat)}, n ∈ goneI its m → ∃ c, (n, c) ∈ m ∧ findI c its = none
  | [], h => by cases h
  | (u, v) :: m, h => by
    simp only [goneI] at h
    split at h
    · obtain ⟨c, h1, h2⟩ := goneI_mem h; exact ⟨c, .tail _ h1, h2⟩
    · rename_i hf
      rcases List.mem_cons.1 h with e | h
      · subst e; exact ⟨v, .head _, hf⟩
      · obtain ⟨c, h1, h2⟩ := goneI_mem h; exact ⟨c, .tail _ h1, h2⟩
theorem purgeI_keeps {d n : Nat} {it : Item} (hn : n ≠ d) (hi : d ∉ it.names) : ∀ {l : List (Nat × Item)}, findI n l = some it → findI n (purgeI d l) = some it
  | (u, v) :: l, h => by
    rw [findI_cons] at h
    simp only [purgeI]
    split at h
    · rename_i e
      injection h with h; subst h; subst e
      rw [show Nat.beq n d = false from by cases hh : Nat.beq n d; rfl; exact absurd (beqT hh) hn, memN_false.2 hi]
      simp only [findI_cons, if_true]
    · rename_i e
      have ih := purgeI_keeps hn hi h
      split
      · exact ih
      · split
        · exact ih
        · rw [findI_cons, if_neg e]; exact ih
theorem purgeAllI_keeps {n : Nat} {it : Item} (hi : it.names = []) : ∀ (f : List (Nat × Item)) {l : List (Nat × Item)}, n ∉ putNames f → findI n l = some it → findI n (purgeAllI f l) = some it
  | [], l, _, h => h
  | (d, i) :: f, l, hn, h => by
    simp only [putNames, List.mem_cons, not_or] at hn
    rw [purgeAllI]
    exact purgeAllI_keeps hi f hn.2 (purgeI_keeps hn.1 (by rw [hi]; simp) h)
theorem goneI_or {its : List (Nat × Item)} {n c : Nat} : ∀ {m : List (Nat × Nat)}, (n, c) ∈ m → n ∈ goneI its m ∨ ∃ it, findI c its = some it
  | (u, v) :: m, h => by
    simp only [goneI]
    rcases List.mem_cons.1 h with e | h
    · injection e with e1 e2; subst e1; subst e2
      cases hf : findI c its with
      | some it => exact .inr ⟨it, rfl⟩
      | none => exact .inl (.head _)
    · rcases goneI_or (its := its) h with h | h
      · left
        split
        · exact h
        · exact .tail _ h
      · exact .inr h

theorem allIn_iff {l m : List Nat} : allIn l m = true ↔ ∀ x ∈ l, x ∈ m := by
  induction l with
  | nil => simp [allIn]
  | cons a l ih => simp [allIn, memN_iff, ih]
theorem ltAll_iff {b : Nat} {l : List Nat} : ltAll b l = true ↔ ∀ x ∈ l, x < b := by
  induction l with
  | nil => simp [ltAll]
  | cons a l ih => simp [ltAll, ih, Nat.blt_eq]
theorem canonB_iff {np : Nat} {l : List Nat} : canonB np l = true ↔ ∀ c ∈ l, c < np ∨ hiN ≤ c := by
  induction l with
  | nil => simp [canonB]
  | cons a l ih => simp [canonB, ih, Nat.blt_eq, Nat.ble_eq]
theorem allOwn_of {r : List (Nat × Nat)} {c : Nat} {it : Item} : ∀ {l : List (Nat × Item)}, allOwn r l = true → (c, it) ∈ l → lookN c r = none → it.owned = true
  | (u, v) :: l, h, hm, hl => by
    simp only [allOwn, Bool.and_eq_true] at h
    rcases List.mem_cons.1 hm with e | hm
    · injection e with e1 e2; subst e1; subst e2
      have := h.1
      rw [hl] at this
      rw [← own?_owned]; exact this
    · exact allOwn_of h.2 hm hl
theorem putSays'_mem {c x : Nat} {it : Item} : ∀ {l : List (Nat × Item)}, (c, it) ∈ l → x ∈ it.names → x ∈ putSays' l
  | (u, v) :: l, h, hx => by
    simp only [putSays', List.mem_append]
    rcases List.mem_cons.1 h with e | h
    · injection e with e1 e2; subst e2; exact .inl hx
    · exact .inr (putSays'_mem h hx)
theorem itemNames_mem {n x : Nat} {it : Item} : ∀ {l : List Nat}, n ∈ l → I n = some it → x ∈ it.names → x ∈ itemNames I l
  | u :: l, h, hi, hx => by
    simp only [itemNames, List.mem_append]
    rcases List.mem_cons.1 h with rfl | h
    · rw [hi]; exact .inl hx
    · exact .inr (itemNames_mem h hi hx)
theorem avsNames_mem {v : AV} {x : Nat} : ∀ {l : List AV}, v ∈ l → x ∈ v.names → x ∈ avsNames l
  | u :: l, h, hx => by
    simp only [avsNames, List.mem_append]
    rcases List.mem_cons.1 h with rfl | h
    · exact .inl hx
    · exact .inr (avsNames_mem h hx)
theorem rnVs_get {f : Nat → Nat} : ∀ (l : List AV) (j : Nat), (rnVs f l)[j]? = (l[j]?).map (rnV f)
  | [], j => by simp [rnVs]
  | v :: l, 0 => by simp [rnVs]
  | v :: l, j + 1 => by simp [rnVs, rnVs_get l j]
theorem rnVs_length (f : Nat → Nat) : ∀ l : List AV, (rnVs f l).length = l.length
  | [] => rfl
  | a :: l => by simp [rnVs, rnVs_length f l]
theorem numT_find : ∀ (l : List AV) (i t : Nat), i ≤ t → findT t (numT i l) = (l[t - i]?).getD (.s (.one .dead))
  | [], i, t, _ => by simp [numT, findT]
  | a :: l, i, t, h => by
    simp only [numT]
    rw [findT_cons]
    by_cases e : t = i
    · subst e; simp
    · rw [if_neg e, numT_find l (i + 1) t (by omega), show t - i = (t - (i + 1)) + 1 by omega]
      simp
theorem svsOf_get : ∀ {l : List AV} {svs : List SV}, svsOf l = some svs → l = svs.map AV.s
  | [], svs, h => by simp only [svsOf] at h; injection h with h; subst h; rfl
  | .s v :: l, svs, h => by
    simp only [svsOf] at h
    split at h
    · rename_i r hr
      injection h with h; subst h
      simp [svsOf_get hr]
    · cases h
  | .t _ :: l, svs, h => by simp [svsOf] at h
theorem relT_of {ρ : Rho} {S : Sh} : ∀ {svs : List SV} {Xs : List Value}, svs.length = Xs.length → (∀ (j : Nat) v x, svs[j]? = some v → Xs[j]? = some x → RelSV ρ S v x) → RelT ρ S svs Xs
  | [], [], _, _ => rfl
  | [], _ :: _, h, _ => by simp at h
  | _ :: _, [], h, _ => by simp at h
  | v :: svs, x :: Xs, h, hr => ⟨x, Xs, rfl, hr 0 v x rfl rfl, relT_of (by simpa using h) fun j v' x' a1 a2 => hr (j + 1) v' x' (by simpa using a1) (by simpa using a2)⟩
theorem tupOf_names : ∀ (svs : List SV), (tupOf svs).names = namesS svs
  | [] => rfl
  | [v] => by simp [tupOf, AV.names, namesS]
  | _ :: _ :: _ => rfl
theorem avsNames_map : ∀ (svs : List SV), avsNames (svs.map AV.s) = namesS svs
  | [] => rfl
  | v :: l => by simp [avsNames, namesS, AV.names, avsNames_map l]


theorem wp_callI (hΓ : CtxOk P Γ) (hI : ∀ n it, I n = some it → s.I n = some it) {c : Call} {g np : Nat} {fi : FI} (hf : findF g Γ = some fi) (hk : fi.kind = .inl np) (hdst : ∀ n, o.dst = some n → s.Dst n)
    (hrun : ∀ w0 Mu ρ a w, Sim w0 Mu ρ s a w → (execOp a.eval o).run P w = (callFunc g (c.args.map a.eval)).run P w)
    (h : (callI I np o.dst g (evAll (evO s.T) c.args.toList)).Out P Γ d) : WpStep P s o d := by
  unfold callI at h
  simp only at h
  generalize hm : mapOf I (evAll (evO s.T) c.args.toList) = m at h
  generalize hargs : evAll (evO s.T) c.args.toList = args at h hm
  split at h
  · rename_i its htake
    split at h
    · rename_i hin
      obtain ⟨fi', outs, hf', hout, h⟩ := h
      rw [hf] at hf'; injection hf' with hf'; subst hf'
      have hout : OutcomeI P g np [.fr (rnVs (thereN m) args) its] outs := by unfold OutK at hout; rw [hk] at hout; exact hout
      obtain ⟨vs, its2, rfl, hout2⟩ := hout _ _ rfl
      simp only at h
      split at h
      · rename_i svs hsvs
        split at h
        · rename_i hchk
          simp only [D.Out] at h; subst h
          simp only [Bool.and_eq_true] at hchk
          obtain ⟨q1, q2, q3, q4, q5, q6, q7, q8, q9, q10⟩ := hchk
          rw [canonB_iff] at q1
          rw [allIn_iff] at q6 hin
          rw [ltAll_iff] at q7
          rw [disj_iff] at q8
          have hvs := svsOf_get hsvs
          obtain ⟨t1, t2, t3⟩ := takeI_spec htake
          have tnd := takeI_nd htake
          have hnd1 : Nodup' its := nodupI (by rw [t1]; exact q3)
          have hnd2 : Nodup' its2 := nodupI q4
          have hndn : Nodup' (newI (turnM m) (backN (turnM m) (o.dst.getD 0)) its2) := nodupI q10
          have there_of : ∀ n c, (n, c) ∈ m → thereN m n = c := fun n c hc => by unfold thereN; rw [lookN_of q2 hc]
          generalize hb : backN (turnM m) (o.dst.getD 0) = b at *
          have back_old : ∀ n c, (n, c) ∈ m → b c = n := fun n c hc => by rw [← hb]; unfold backN; rw [lookN_turn q3 hc]
          have back_new : ∀ c, lookN c (turnM m) = none → b c = o.dst.getD 0 + 4096 * (c + 1) := fun c hc => by rw [← hb]; unfold backN; rw [hc]
          intro w0 Mu ρ a w Q hs
          have hXlen : (c.args.toList.map a.eval).length = args.length := by rw [← hargs, evAll_length]; simp
          have hXrel : ∀ (i : Nat) x X, args[i]? = some x → (c.args.toList.map a.eval)[i]? = some X → RelV ρ s.S x X := by
            intro i x X h1 h2
            rw [← hargs, evAll_eq, List.getElem?_map] at h1
            rw [List.getElem?_map] at h2
            simp only [Option.map_eq_some_iff] at h1 h2
            obtain ⟨p1, e1, rfl⟩ := h1
            obtain ⟨p2, e2, rfl⟩ := h2
            rw [e1] at e2; injection e2 with e2; subst e2
            exact relEv hs p1
          generalize hxs : c.args.toList.map a.eval = xs at hXlen hXrel
          
          let ρ1 : Rho := { loc := fun c => match lookN c (turnM m) with | some n => ρ.loc n | none => none, tot := fun c => match lookN c (turnM m) with | some n => ρ.tot n | none => 0 }
          let S1 : Sh := fun c => (findI c its).map Item.shape
          have r1 : ∀ n c, (n, c) ∈ m → ρ1.loc c = ρ.loc n ∧ ρ1.tot c = ρ.tot n := fun n c hc => by simp [ρ1, lookN_turn q3 hc]
          have ren1 : ∀ n, n ∈ fsts m → Ren (thereN m) ρ ρ1 s.S S1 n := by
            intro n hn
            obtain ⟨c, hc⟩ := fsts_mem hn
            obtain ⟨it, k1, k2⟩ := t2 n c hc
            rw [show Ren (thereN m) ρ ρ1 s.S S1 n ↔ Ren (thereN m) ρ ρ1 s.S S1 n from Iff.rfl]
            refine ⟨by rw [there_of n c hc]; exact (r1 n c hc).1, by rw [there_of n c hc]; exact (r1 n c hc).2, .inl ?_⟩
            rw [there_of n c hc, S_of (hI _ _ k1)]
            show (findI c its).map Item.shape = _
            rw [findI_of hnd1 k2]; simp [rnI_shape]
          let Mu1 : MuT := { blk := fun bb => ∃ n c it p, (n, c) ∈ m ∧ s.I n = some it ∧ it.owned = true ∧ ρ.loc n = some p ∧ p.1 = bb, loc := ρ1.loc, tot := ρ1.tot, sh := S1 }
          have hitem : ∀ c it', findI c its = some it' → ∃ n it, (n, c) ∈ m ∧ s.I n = some it ∧ it' = rnI (thereN m) it ∧ ρ1.loc c = ρ.loc n := by
            intro c it' hc
            obtain ⟨n, it, k1, k2, k3⟩ := t3 c it' (findI_mem hc)
            exact ⟨n, it, k1, hI _ _ k2, k3, (r1 n c k1).1⟩
          have hs1 : Sim w Mu1 ρ1 { n := (rnVs (thereN m) args).length, lo := np, tmps := numT 0 (rnVs (thereN m) args), items := its } { tmps := xs.toArray, defers := [] } w := by
            refine ⟨rfl, hnd1, by simp [rnVs_length, hXlen], ?_, ?_, ?_, ?_, ?_, Nat.le_refl _, fun _ _ _ => rfl, fun _ _ => ⟨rfl, rfl, .inl rfl⟩, ⟨rfl, rfl⟩, fun _ h => h.elim, rfl⟩
            · intro t
              show RelV ρ1 S1 (findT t (numT 0 (rnVs (thereN m) args))) _
              rw [numT_find _ 0 t (Nat.zero_le _), Nat.sub_zero, rnVs_get]
              cases hx : args[t]? with
              | none => exact relDead _ _ _
              | some x =>
                have hlt : t < xs.length := by rw [hXlen]; exact (List.getElem?_eq_some_iff.1 hx).1
                have hX : xs[t]? = some xs[t] := List.getElem?_eq_getElem hlt
                have : xs.toArray.getD t undef = xs[t] := by simp [Array.getD_eq_getD_getElem?, hlt]
                show RelV ρ1 S1 (rnV (thereN m) x) (xs.toArray.getD t undef)
                rw [this]
                refine (hXrel t x _ hx hX).ren fun n hn => ren1 n (hin n (List.mem_append.2 (.inl (avsNames_mem (List.mem_of_getElem? hx) hn))))
            · intro c it' hc
              obtain ⟨n, it, k1, k2, rfl, k4⟩ := hitem c it' hc
              have hn : ρ1.loc (thereN m n) = ρ.loc n ∧ ρ1.tot (thereN m n) = ρ.tot n := by rw [there_of n c k1]; exact r1 n c k1
              obtain ⟨it0, j1, _⟩ := t2 n c k1
              have hit : it0 = it := by have := hI _ _ j1; rw [k2] at this; injection this with this; exact this.symm
              subst hit
              have := (hs.hold n it0 k2).ren (f := thereN m) (S' := S1) hn (fun x hx => ren1 x (hin x (List.mem_append.2 (.inr (itemNames_mem (mem_fsts k1) j1 hx))))) (fun k es rows e => tnd n c k1 k es rows (by rw [j1, e]))
              rw [there_of n c k1] at this
              exact this
            · intro c it' p hc ho hp
              obtain ⟨n, it, k1, k2, rfl, k4⟩ := hitem c it' hc
              exact .inr ⟨n, c, it, p, k1, k2, by rw [← rnI_owned (thereN m)]; exact ho, by rw [← k4]; exact hp, rfl⟩
            · intro c c' it' it2' p q hc hc' ho hne hp hq
              obtain ⟨n, it, k1, k2, rfl, k4⟩ := hitem c it' hc
              obtain ⟨n2, it2, j1, j2, rfl, j4⟩ := hitem c' it2' hc'
              refine hs.sep n n2 it it2 p q k2 j2 (by rw [← rnI_owned (thereN m)]; exact ho) (fun e => hne ?_) (by rw [← k4]; exact hp) (by rw [← j4]; exact hq)
              subst e
              rw [← there_of n c k1, ← there_of n c' j1]
            · intro c it' p hc hp
              obtain ⟨n, it, k1, k2, rfl, k4⟩ := hitem c it' hc
              exact hs.lt n it p k2 (by rw [← k4]; exact hp)
          obtain ⟨⟨fn, hfn, hbody, hname⟩, hcalls⟩ := hout2 w Mu1 ρ1 xs (by rw [rnVs_length]; exact hXlen) hs1
          have harr : c.args.map a.eval = xs.toArray := by rw [← hxs]; apply Array.ext'; simp
          unfold Oper.wp
          rw [hrun w0 Mu ρ a w hs]
          have hcf : (callFunc g (c.args.map a.eval)).run P w = .ok (.enter g (c.args.map a.eval)) w := by
            have hbn : ¬ fn.body = none := by intro e; rw [e] at hbody; simp at hbody
            simp [callFunc, hfn, hname, hbn]
          rw [hcf, Oper.upon_enter, harr]
          refine hcalls.mono fun e w' hpost => ?_
          obtain ⟨Xs, ρ2, rfl, hXl, hs2⟩ := hpost
          generalize hs2d : ({ n := vs.length, lo := np, tmps := numT 0 vs, items := its2 } : AS) = s2 at hs2
          have hI2 : ∀ c, s2.I c = findI c its2 := fun c => by rw [← hs2d]; rfl
          have hS2 : ∀ c it, findI c its2 = some it → s2.S c = some it.shape := fun c it hc => S_of (by rw [hI2]; exact hc)
          
          have hold2 : ∀ n c it, (n, c) ∈ m → findI c its2 = some it → ρ2.loc c = ρ.loc n ∧ ρ2.tot c = ρ.tot n ∧ ∃ it0, s.I n = some it0 ∧ it.shape = it0.shape := by
            intro n c it hc hfc
            obtain ⟨p1, p2, p3⟩ := hs2.pin c (by rw [← hs2d]; exact q1 c (mem_snds hc))
            obtain ⟨it0, k1, k2⟩ := t2 n c hc
            refine ⟨p1.trans (r1 n c hc).1, p2.trans (r1 n c hc).2, it0, hI _ _ k1, ?_⟩
            rw [hS2 c it hfc] at p3
            rcases p3 with p3 | p3
            · have : Mu1.sh c = some (rnI (thereN m) it0).shape := by show (findI c its).map Item.shape = _; rw [findI_of hnd1 k2]; rfl
              rw [this] at p3; injection p3 with p3
              rw [p3, rnI_shape]
            · cases p3
          let d0 := o.dst.getD 0
          let inv : Nat → Nat := fun x => (x - d0) / 4096 - 1
          let ρ' : Rho := { loc := fun x => if x ∈ putNames (newI (turnM m) b its2) then ρ2.loc (inv x) else ρ.loc x, tot := fun x => if x ∈ putNames (newI (turnM m) b its2) then ρ2.tot (inv x) else ρ.tot x, out := ρ.out }
          have hinv : ∀ c, lookN c (turnM m) = none → inv (b c) = c := fun c hc => by
            rw [back_new c hc]; simp only [inv, d0]; omega
          have hρ : ∀ x, x ∉ putNames (newI (turnM m) b its2) → ρ'.loc x = ρ.loc x ∧ ρ'.tot x = ρ.tot x := fun x hx => by simp [ρ', hx]
          have hput_old : ∀ n c it, (n, c) ∈ m → (c, it) ∈ its2 → (n, rnI b it) ∈ oldI (turnM m) b its2 := fun n c it hc hi => by
            have := oldI_of (b := b) hi (lookN_turn q3 hc)
            rwa [back_old n c hc] at this
          have hnotnew : ∀ n c it, (n, c) ∈ m → (c, it) ∈ its2 → n ∉ putNames (newI (turnM m) b its2) := fun n c it hc hi hn => q8 n hn (putNames_iff.2 ⟨_, hput_old n c it hc hi⟩)
          generalize hdel : ({ tmp := match o.dst with | some d => some (d, rnV b (tupOf svs)) | none => none, fresh := newI (turnM m) b its2, put := dropV I (oldI (turnM m) b its2), gone := goneI its2 m } : Delta) = dl
          have dfresh : dl.fresh = newI (turnM m) b its2 := by rw [← hdel]
          have dput : dl.put = dropV I (oldI (turnM m) b its2) := by rw [← hdel]
          have hput_own : ∀ n c it it0, (n, c) ∈ m → (c, it) ∈ its2 → s.I n = some it0 → it0.owned = true → (n, rnI b it) ∈ dropV I (oldI (turnM m) b its2) := fun n c it it0 hc hi h0 ho => by
            rcases dropV_or (I := I) (hput_old n c it hc hi) with h1 | ⟨_, k, es, xs, h2⟩
            · exact h1
            · rw [hI _ _ h2] at h0; injection h0 with h0; subst h0; cases ho
          have dgone : dl.gone = goneI its2 m := by rw [← hdel]
          
          have hputs : ∀ n it', findI n (dropV I (oldI (turnM m) b its2)) = some it' → ∃ c it, (n, c) ∈ m ∧ (c, it) ∈ its2 ∧ it' = rnI b it := by
            intro n it' hn
            obtain ⟨c, it, n2, k1, k2, k3, k4⟩ := oldI_mem (dropV_sub (findI_mem hn))
            have := turn_mem.1 (lookN_mem k2)
            rw [back_old n2 c this] at k3
            subst k3
            exact ⟨c, it, this, k1, k4⟩
          have hnews : ∀ x it', findI x (newI (turnM m) b its2) = some it' → ∃ c it, (c, it) ∈ its2 ∧ lookN c (turnM m) = none ∧ x = b c ∧ it' = rnI b it := fun x it' hx => newI_mem (findI_mem hx)
          have good : Good ρ ρ' s dl w w' := by
            refine ⟨by rw [dfresh]; exact hndn, by rw [dfresh]; exact hρ, ?_, ?_, hs2.mono, ?_, hs2.still, rfl⟩
            · intro n it' hn
              rw [dput] at hn
              obtain ⟨c, it, k1, k2, rfl⟩ := hputs n it' hn
              obtain ⟨_, _, it0, j1, j2⟩ := hold2 n c it k1 (findI_of hnd2 k2)
              exact ⟨it0, j1, by rw [rnI_shape]; exact j2, by rw [rnI_owned]; exact owned_of_shape j2, by rw [dfresh]; exact hnotnew n c it k1 k2⟩
            · intro n it p hn hnf hnp hng hp
              rw [dput] at hnp; rw [dgone] at hng
              refine hs2.frame p.1 (hs.lt n it p hn hp) ?_
              rintro ⟨n2, c2, it2, p2, k1, k2, k3, k4, k5⟩
              have hne : n2 ≠ n := by
                rintro rfl
                rcases goneI_or (its := its2) k1 with h1 | ⟨it3, h1⟩
                · exact hng h1
                · have := findI_isSome (hput_own n2 c2 it3 it2 k1 (findI_mem h1) k2 k3)
                  rw [hnp] at this; cases this
              exact hs.sep n2 n it2 it p2 p k2 hn k3 hne k4 hp k5
            · intro x hx
              rw [dfresh] at hx
              refine ⟨?_, q7 x hx⟩
              cases hd : o.dst with
              | none =>
                rw [hd] at q9
                simp only [Bool.and_eq_true] at q9
                have : newI (turnM m) b its2 = [] := by
                  cases hl : newI (turnM m) b its2 with
                  | nil => rfl
                  | cons a l => rw [hl] at q9; simp [isNil] at q9
                rw [this] at hx; simp [putNames] at hx
              | some dd =>
                obtain ⟨it', hm'⟩ := putNames_iff.1 hx
                obtain ⟨c2, it, k1, k2, k3, _⟩ := newI_mem hm'
                rw [k3, back_new c2 k2, hd]
                have := (hdst dd hd).2.1
                simp only [Option.getD_some]; omega
          have hSfresh : ∀ c it, (c, it) ∈ its2 → lookN c (turnM m) = none → (s.apply dl).S (b c) = some it.shape := by
            intro c it hc hl
            have h1 := findI_of hndn (newI_of (b := b) hc hl)
            have : (s.apply dl).I (b c) = some (rnI b it) := by
              unfold AS.I AS.apply
              rw [findI_append, dfresh, h1]
            rw [S_of this, rnI_shape]
          have hSput : ∀ n c it, (n, c) ∈ m → (c, it) ∈ its2 → (s.apply dl).S n = some it.shape := by
            intro n c it hc hi
            cases h2 : findI n (dropV I (oldI (turnM m) b its2)) with
            | none =>
              have hview : ∃ k es xs, I n = some (.view k es xs) := by
                rcases dropV_or (I := I) (hput_old n c it hc hi) with h1 | ⟨_, h1⟩
                · have := findI_isSome h1; rw [h2] at this; cases this
                · exact h1
              obtain ⟨k, es, xs, hv⟩ := hview
              have hv := hI _ _ hv
              obtain ⟨_, _, it0, j1, j2⟩ := hold2 n c it hc (findI_of hnd2 hi)
              have hng : n ∉ goneI its2 m := fun hg => by
                obtain ⟨c', g1, g2⟩ := goneI_mem hg
                have hcc : c' = c := by rw [← there_of n c' g1, ← there_of n c hc]
                subst hcc
                rw [findI_of hnd2 hi] at g2; cases g2
              have : (s.apply dl).I n = some (.view k es xs) := by
                unfold AS.I AS.apply
                rw [findI_append, dfresh, findI_none (hnotnew n c it hc hi)]
                simp only [find_dropAll, if_neg (hnotnew n c it hc hi)]
                rw [find_putAll, dput, h2]
                refine purgeAllI_keeps rfl _ (hnotnew n c it hc hi) ?_
                rw [find_dropAll, dgone, if_neg hng]; exact hv
              rw [hv] at j1; injection j1 with j1; subst j1
              rw [S_of this, j2]
            | some it' =>
              obtain ⟨c2, it2, k1, k2, k3⟩ := hputs n it' h2
              have hcc : c2 = c := by rw [← there_of n c2 k1, ← there_of n c hc]
              subst hcc
              have hii : it2 = it := by
                have e1 := findI_of hnd2 k2
                have e2 := findI_of hnd2 hi
                rw [e1] at e2; injection e2
              subst hii
              have : (s.apply dl).I n = some it' := by
                unfold AS.I AS.apply
                rw [findI_append, dfresh, findI_none (hnotnew n c2 it2 hc hi)]
                simp only [find_dropAll, if_neg (hnotnew n c2 it2 hc hi)]
                rw [find_putAll, dput, h2]
              rw [S_of this, k3, rnI_shape]
          have ren2 : ∀ c, c ∈ putNames its2 → Ren b ρ2 ρ' s2.S (s.apply dl).S c := by
            intro c hc
            obtain ⟨it, hi⟩ := putNames_iff.1 hc
            have hfc := findI_of hnd2 hi
            cases hl : lookN c (turnM m) with
            | none =>
              have hin2 : b c ∈ putNames (newI (turnM m) b its2) := putNames_iff.2 ⟨_, newI_of hi hl⟩
              refine ⟨by simp [ρ', hin2, hinv c hl], by simp [ρ', hin2, hinv c hl], .inl ?_⟩
              rw [hSfresh c it hi hl, hS2 c it hfc]
            | some n =>
              have hnc := turn_mem.1 (lookN_mem hl)
              obtain ⟨p1, p2, _⟩ := hold2 n c it hnc hfc
              obtain ⟨l1, l2⟩ := hρ n (hnotnew n c it hnc hi)
              refine ⟨by rw [back_old n c hnc, l1, p1], by rw [back_old n c hnc, l2, p2], .inl ?_⟩
              rw [back_old n c hnc, hSput n c it hnc hi, hS2 c it hfc]
          have hholds : ∀ c it, (c, it) ∈ its2 → HoldI ρ' (s.apply dl).S (b c) w' (rnI b it) := by
            intro c it hc
            have hr := ren2 c (putNames_iff.2 ⟨it, hc⟩)
            exact (hs2.hold c it (by rw [hI2]; exact findI_of hnd2 hc)).ren ⟨hr.loc, hr.tot⟩ (fun x hx => ren2 x (q6 x (List.mem_append.2 (.inr (putSays'_mem hc hx))))) (fun k es rows e => by
              subst e
              cases hl : lookN c (turnM m) with
              | none => have := allOwn_of q5 hc hl; cases this
              | some n =>
                have hnc := turn_mem.1 (lookN_mem hl)
                obtain ⟨_, _, it0, j1, j2⟩ := hold2 n c _ hnc (findI_of hnd2 hc)
                obtain ⟨it1, j3, _⟩ := t2 n c hnc
                have := hI _ _ j3
                rw [j1] at this; injection this with this; subst this
                cases it0 with
                | dview k es rows => exact tnd n c hnc _ _ _ j3
                | _ => simp [Item.shape] at j2)
          have hblk : ∀ bb, Mu1 bb → ∃ n c it p, (n, c) ∈ m ∧ s.I n = some it ∧ it.owned = true ∧ ρ.loc n = some p ∧ p.1 = bb := fun bb h => h
          refine ⟨ρ', ?_⟩
          refine sim_step hs good ?_ ?_ ?_ ?_ ?_ ?_
          · intro t v e
            rw [← hdel] at e
            simp only at e
            split at e
            · rename_i dd hd
              injection e with e; injection e with e1 e2; subst e1; subst e2
              refine ⟨(hdst _ hd).1, resVal Xs, ?_, put_eq hd⟩
              have hT : RelT ρ2 s2.S svs Xs := by
                refine relT_of (by rw [hXl, hvs]; simp) fun j v x a1 a2 => ?_
                have := hs2.rel j
                have hTj : s2.T j = .s v := by
                  rw [← hs2d]
                  show findT j (numT 0 vs) = _
                  rw [numT_find _ 0 j (Nat.zero_le _), Nat.sub_zero, hvs, List.getElem?_map, a1]; rfl
                rw [hTj] at this
                have hx : Xs.toArray.getD j undef = x := by
                  have := (List.getElem?_eq_some_iff.1 a2)
                  obtain ⟨hlt, e⟩ := this
                  simp [Array.getD_eq_getD_getElem?, hlt, e]
                rw [show ({ tmps := Xs.toArray, defers := [] } : Act).tmps.getD j undef = x from hx] at this
                exact this
              refine (tupOf_rel hT).ren fun x hx => ren2 x (q6 x (List.mem_append.2 (.inl ?_)))
              rw [tupOf_names] at hx
              rw [hvs, avsNames_map]; exact hx
            · cases e
          · intro e
            rw [← hdel] at e
            simp only at e
            split at e
            · cases e
            · rename_i hd; rw [hd]; rfl
          · intro x it' hx
            rw [dfresh] at hx
            obtain ⟨c2, it, k1, k2, rfl, rfl⟩ := hnews x it' hx
            exact hholds c2 it k1
          · intro n it' hn
            rw [dput] at hn
            obtain ⟨c2, it, k1, k2, rfl⟩ := hputs n it' hn
            have := hholds c2 it k2
            rwa [back_old n c2 k1] at this
          · intro x it' p hx hp
            rw [dfresh] at hx
            obtain ⟨c2, it, k1, k2, rfl, rfl⟩ := hnews x it' hx
            have hfc := findI_of hnd2 k1
            have hp2 : ρ2.loc c2 = some p := by rw [← (ren2 c2 (putNames_iff.2 ⟨it, k1⟩)).loc]; exact hp
            have hown := allOwn_of q5 k1 k2
            have hs2c : s2.I c2 = some it := by rw [hI2]; exact hfc
            refine ⟨hs2.lt c2 it p hs2c hp2, ?_, ?_⟩
            · rcases hs2.own c2 it p hs2c hown hp2 with h1 | h1
              · exact .inl (Nat.le_trans hs.mono h1)
              · obtain ⟨n, c3, it3, p3, j1, j2, j3, j4, j5⟩ := hblk _ h1
                rw [← j5]; exact hs.own n it3 p3 j2 j3 j4
            · intro k jt q hk hne hq
              rcases AS.apply_I hs.nd hk with h4 | ⟨h5, _, h4 | ⟨h6, h7, h4⟩⟩
              · rw [dfresh] at h4
                obtain ⟨c3, it3, j1, j2, rfl, rfl⟩ := hnews k jt h4
                refine hs2.sep c2 c3 it it3 p q hs2c (by rw [hI2]; exact findI_of hnd2 j1) hown (fun e => hne (by rw [e])) hp2 ?_
                rw [← (ren2 c3 (putNames_iff.2 ⟨it3, j1⟩)).loc]; exact hq
              · rw [dput] at h4
                obtain ⟨c3, it3, j1, j2, rfl⟩ := hputs k jt h4
                refine hs2.sep c2 c3 it it3 p q hs2c (by rw [hI2]; exact findI_of hnd2 j2) hown (fun e => ?_) hp2 ?_
                · rw [e, lookN_turn q3 j1] at k2; cases k2
                · have := (ren2 c3 (putNames_iff.2 ⟨it3, j2⟩)).loc
                  rw [back_old k c3 j1] at this
                  rw [← this]; exact hq
              · rw [dput] at h6; rw [dgone] at h7; rw [dfresh] at h5
                rw [(hρ k h5).1] at hq
                rcases hs2.own c2 it p hs2c hown hp2 with h1 | h1
                · have := hs.lt k jt q h4 hq; omega
                · obtain ⟨n, c3, it3, p3, j1, j2, j3, j4, j5⟩ := hblk _ h1
                  rw [← j5]
                  refine hs.sep n k it3 jt p3 q j2 h4 j3 ?_ j4 hq
                  rintro rfl
                  rcases goneI_or (its := its2) j1 with h1 | ⟨it5, h1⟩
                  · exact h7 h1
                  · have := findI_isSome (hput_own n c3 it5 it3 j1 (findI_mem h1) j2 j3)
                    rw [h6] at this; cases this
          · intro bb hbb hm2
            refine hs2.frame bb (Nat.lt_of_lt_of_le hbb hs.mono) fun h1 => ?_
            obtain ⟨n, c3, it3, p3, j1, j2, j3, j4, j5⟩ := hblk _ h1
            rcases hs.own n it3 p3 j2 j3 j4 with h2 | h2
            · omega
            · exact hm2 (j5 ▸ h2)
        · exact h.elim
      · exact h.elim
    · exact h.elim
  · exact h.elim

end

end Go.Eng

namespace Go.Eng
open Go

section
variable {P : Program} {Γ : Ctx} {Θ : Types} {s : AS} {o : Oper} {d : Delta}

theorem restrict_in {l : List Nat} {I : Nat → Option Item} {n : Nat} (h : n ∈ l) : restrict l I n = I n := by
  unfold restrict; rw [memN_iff.2 h]

theorem opNames_head {ev : Operand → AV} {x : Operand} {l : List Operand} {n : Nat} (h : n ∈ (ev x).names) : n ∈ opNames ev (x :: l) := by
  simp only [opNames]; exact List.mem_append.2 (.inl h)

theorem mem_unionN {y : Nat} : ∀ {a b : List Nat}, y ∈ unionN a b ↔ y ∈ a ∨ y ∈ b
  | [], b => by simp [unionN]
  | x :: a, b => by
    simp only [unionN]
    split
    · rename_i h
      rw [mem_unionN, List.mem_cons]
      have := memN_iff.1 h
      constructor
      · rintro (h | h)
        · exact .inl (.inr h)
        · exact .inr h
      · rintro ((h | h) | h)
        · exact .inr (h ▸ this)
        · exact .inl h
        · exact .inr h
    · rw [mem_unionN, List.mem_cons, List.mem_cons]
      constructor
      · rintro (h | h | h)
        · exact .inl (.inr h)
        · exact .inl (.inl h)
        · exact .inr h
      · rintro ((h | h) | h)
        · exact .inr (.inl h)
        · exact .inl h
        · exact .inr (.inr h)

theorem clos_sub {I : Nat → Option Item} : ∀ (k : Nat) {l : List Nat} {n : Nat}, n ∈ l → n ∈ closN I k l
  | 0, _, _, h => h
  | k + 1, l, n, h => clos_sub k (mem_unionN.2 (.inr h))
def readsMem : Op → Bool
  | .move _ => false
  | .assign _ => false
  | .extract _ _ => false
  | _ => true
theorem reads_sub {op : Op} {ev : Operand → AV} {I : Nat → Option Item} {n : Nat} (hm : readsMem op = true) (h : n ∈ opNames ev (opsOf op)) : n ∈ opReads op ev I := by
  unfold opReads
  split
  · exact clos_sub 4 h
  · cases hm
  · cases hm
  · cases hm
  · exact h

theorem wp_load {I : Nat → Option Item} (hΘ : TypesOk P Θ) (hI : ∀ n it, I n = some it → s.I n = some it) {t : Nat} {x : Operand} (hd0 : ∀ n, o.dst = some n → n < s.n) (hdst : ∀ n, o.dst = some n → s.Dst n) (ho : o.op = .load t x) (h : (stepCore Θ Γ (.load t x) o.dst (evO s.T) I).Out P Γ d) : WpStep P s o d := by
  by_cases hdv : ∃ n b f z k es rows, evO s.T x = .s (.one (.ptr n b f z)) ∧ I n = some (.dview k es rows)
  · obtain ⟨n, b, f, z, k, es, rows, hx, hi⟩ := hdv
    simp only [stepCore, hx] at h
    split at h
    · rename_i ti n' b' f' z' ht hxe
      injection hxe with hxe; injection hxe with hxe; injection hxe with e1 e2 e3 e4
      subst e1; subst e2; subst e3; subst e4
      rw [hi] at h
      simp only at h
      split at h
      · rename_i dd e hd htd hts
        obtain ⟨hc, h⟩ := chk_out h
        simp only [Bool.and_eq_true, Bool.not_eq_true'] at hc
        have hb : b < rows.length := ble_iff.1 (show Nat.ble (b + 1) rows.length = true from hc.1)
        have hnd := beqN hc.2
        simp only [D.Out] at h; subst h
        intro w0 Mu ρ a w Q hs
        have hi' := hI _ _ hi
        obtain ⟨p, h1, h2, h3⟩ := ev_ptr hs hx
        obtain ⟨k1, k2⟩ := hs.hold _ _ hi'
        obtain ⟨p', A, m, c, pl, g1, g2, g3, g4, g5, g6, g7⟩ := k2 b rows[b] (List.getElem?_eq_getElem hb)
        rw [h1] at g1; injection g1 with g1; subst g1
        have hag : ti.d.isAgg = false := by rw [htd]; rfl
        have hrow : rows.getD b [] = rows[b] := by simp [List.getD_eq_getElem?_getD, List.getElem?_eq_getElem hb]
        rw [hrow]
        refine step_fresh_any hs ⟨rfl, rfl⟩ (w' := w) (x := .slice A m c) (l := pl) (tot := 0) (gone := []) hd (hdst dd hd) ?_ (fun _ _ _ _ _ _ _ => rfl) (Nat.le_refl _) (fun _ _ _ => rfl) ?_ ?_ ?_
        · have hl : (loadVar t (adr p (b + Off.val .z))).run P w = .ok (.slice A m c) w := by
            rw [run_loadVar (hΘ t ti ht), hag]
            simp only [Bool.false_eq_true, if_false, Off.val, Nat.add_zero, run_load, g2]
          simp [execOp, ho, h2, Instr.loadAt, Instr.sureAddr, hl]
        · intro S' hag' hS
          refine ⟨k1, ⟨m, g3⟩, ?_⟩
          rw [Rho.set_loc]; exact g6
        · intro S' hag' hS
          show RelAt _ S' (.own dd) [_]
          simp only [RelAt, hS, Item.shape, Rho.set_loc]
          rw [g3, rl_mul k1.1]
          exact ⟨A, c, rfl, g4, fun hpos => g5 (by
            rcases Nat.eq_zero_or_pos m with h0 | h0
            · rw [h0] at hpos; simp at hpos
            · exact h0)⟩
        · intro q hq
          have hout := hs.out q.1 (g7 q hq)
          refine ⟨Nat.lt_of_lt_of_le hout.1 hs.mono, (fun h => by cases h), ?_⟩
          intro m2 it2 q2 hm2 _ _ ho2 hq2
          rcases ho2 with h | h
          · cases h
          · rcases hs.own m2 it2 q2 hm2 h hq2 with h4 | h4
            · omega
            · intro e; exact hout.2 (e ▸ h4)
      · exact h.elim
    · exact h.elim
  · exact (val_load hΘ hI ho (fun n b f z k es rows h1 h2 => hdv ⟨n, b, f, z, k, es, rows, h1, h2⟩) h).wp hd0

theorem stepD_sound (hΘ : TypesOk P Θ) (hΓ : CtxOk P Γ) (hd0 : ∀ n, o.dst = some n → n < s.n) (hd1 : movesOnly o.op = false → ∀ n, o.dst = some n → s.Dst n) (h : (stepD Θ Γ o s.T s.I).Out P Γ d) : WpStep P s o d := by
  unfold stepD at h
  have hI : ∀ n it, restrict (opReads o.op (evO s.T) s.I) s.I n = some it → s.I n = some it := fun n it h => restrict_some h
  have hJ : readsMem o.op = true → ∀ (x : Operand) (l : List Operand), opsOf o.op = x :: l → ∀ n ∈ (evO s.T x).names, restrict (opReads o.op (evO s.T) s.I) s.I n = s.I n := by
    intro hm x l e n hn
    exact restrict_in (reads_sub hm (by rw [e]; exact opNames_head hn))
  generalize hR : restrict (opReads o.op (evO s.T) s.I) s.I = I at h hI hJ
  have hst : ∀ q : Op, o.op = q → movesOnly q = false → ∀ n, o.dst = some n → s.Dst n := fun q e hq => hd1 (by rw [e]; exact hq)
  cases ho : o.op <;> rw [ho] at h hJ
  case move x => exact (val_move ho h).wp hd0
  case assign x => exact (val_assign ho h).wp hd0
  case pick c a b => exact (val_pick ho h).wp hd0
  case alloc t => exact wp_alloc hΘ (hst _ ho rfl) ho h
  case box t x => exact wp_box hΘ (hst _ ho rfl) ho h
  case build t ps => exact (val_build hΘ ho h).wp hd0
  case buildSlice t l ps => exact wp_buildSlice hΘ (hst _ ho rfl) ho h
  case load t a => exact wp_load hΘ hI hd0 (hst _ ho rfl) ho h
  case store t a v => exact wp_store hΘ hI (hst _ ho rfl) ho h
  case nilCheck x => exact (val_nilCheck ho h).wp hd0
  case binOp op xt x y yt => exact (val_binOp hΘ (fun p hx hy hn => val_nilCmp hΘ hI ho hx hy hn) ho h).wp hd0
  case unOp op xt x => exact (val_unOp ho h).wp hd0
  case convert st dt x => exact wp_convert hΘ hI (hst _ ho rfl) ho h
  case sliceToArrayPointer t x => exact (val_s2ap hΘ hI ho h).wp hd0
  case makeSlice t l c => exact wp_makeSlice hΘ (hst _ ho rfl) ho h
  case slice t x lo hi mx => exact (val_slice hΘ hI (hJ rfl x _ rfl) ho h).wp hd0
  case fieldAddr t x f => exact (val_fieldAddr hΘ ho h).wp hd0
  case field t x f => exact (val_field hΘ ho h).wp hd0
  case indexAddr t x i => exact (val_indexAddr hΘ hI (hJ rfl x _ rfl) ho h).wp hd0
  case index t x i => exact (val_index hΘ ho h).wp hd0
  case extract x j => exact (val_extract ho h).wp hd0
  case makeMap t r => exact wp_makeMap hΘ (hst _ ho rfl) ho h
  case lookup t x i ok => exact (val_lookup hΘ hI ho h).wp hd0
  case mapUpdate t x i v => exact wp_update hΘ hI (hst _ ho rfl) ho h
  case call c =>
    simp only [stepCore] at h
    split at h
    · rename_i b hb
      unfold builtinD at h
      split at h
      · rename_i hargs
        exact (val_builtin hΘ hI hb (.inl rfl) ho (by unfold builtinD; rw [hargs]; exact h)).wp hd0
      · rename_i hargs
        exact (val_builtin hΘ hI hb (.inr (.inl rfl)) ho (by unfold builtinD; rw [hargs]; exact h)).wp hd0
      · rename_i hargs
        exact (val_builtin hΘ hI hb (.inr (.inr rfl)) ho (by unfold builtinD; rw [hargs]; exact h)).wp hd0
      · rename_i x y hargs
        exact wp_append hΘ hI (hst _ ho rfl) hb hargs ho h
      · rename_i x y hargs
        exact wp_copy hΘ hI (hst _ ho rfl) hb hargs ho h
      · exact h.elim
    · rename_i f hcal
      split at h
      · rename_i g a b hf
        split at h
        · rename_i ha hb
          have hrun : ∀ w0 Mu ρ act w, Sim w0 Mu ρ s act w → (execOp act.eval o).run P w = (callFunc g (c.args.map act.eval)).run P w := ?_
          · unfold callD at h
            split at h
            · rename_i fi hfi
              split at h
              · rename_i hk; exact wp_callP hΓ hI hfi hk (hst _ ho rfl) ho hrun h
              · rename_i np hk; exact wp_callI hΓ hI hfi hk (hst _ ho rfl) hrun h
            · exact h.elim
          intro w0 Mu ρ act w hs
          have hv := ev_one hs hf
          have hv' : act.eval f = .func (.func g) a b := by
            simp only [RelV, RelSV, RelAt, List.cons.injEq, and_true] at hv
            exact hv.1
          have ha' : a = #[] := by apply Array.ext'; simpa using ha
          have hb' : b = #[] := by apply Array.ext'; simpa using hb
          subst ha'; subst hb'
          simp [execOp, ho, resolve, hcal, hv', Deferred.ofValue, invoke]
        · exact h.elim
      · exact h.elim
    · exact h.elim
  all_goals exact h.elim


theorem dstOf_eq {ops : List Oper} {j : Nat} : dstOf ops j = (ops[j]?).bind (·.dst) := by
  induction ops generalizing j with
  | nil => simp [dstOf]
  | cons o l ih => cases j <;> simp [dstOf, ih]

theorem wanted_none {a : Act} (ops : Array Oper) (h : guardOf ops.toList s.T o.guard = some none) : Region.wanted o (yielded ops a.tmps) = true := by
  unfold guardOf at h
  split at h
  · rename_i hg; simp [Region.wanted, hg]
  · split at h
    · split at h <;> cases h
    · cases h

theorem wanted_some {w0 : World} {Mu : MuT} {ρ : Rho} {a : Act} {w : World} (hs : Sim w0 Mu ρ s a w) (ops : Array Oper) {b : Bool} (h : guardOf ops.toList s.T o.guard = some (some b)) (hlt : ∀ j d, o.guard.map (·.1) = some j → dstOf ops.toList j = some d → d < s.n) :
    Region.wanted o (yielded ops a.tmps) = b := by
  unfold guardOf at h
  split at h
  · cases h
  · rename_i j want hg
    split at h
    · rename_i dd hdd
      have hd : dd < s.n := hlt j dd (by rw [hg]; rfl) hdd
      have hlt' : dd < a.tmps.size := by rw [hs.size]; exact hd
      have hrel := hs.rel dd
      have hget : a.tmps[dd]? = some (a.tmps.getD dd undef) := by
        simp [Array.getD_eq_getD_getElem?, Array.getElem?_eq_getElem hlt']
      have hy : yielded ops a.tmps j = match a.tmps.getD dd undef with | .bool b => some b | _ => none := by
        rw [dstOf_eq] at hdd
        have h2 : (ops[j]?).bind (·.dst) = some dd := by simpa using hdd
        have h3 : ((ops[j]?).bind (·.dst)).bind (a.tmps[·]?) = some (a.tmps.getD dd undef) := by rw [h2]; exact hget
        unfold yielded
        rw [h3]
        cases a.tmps.getD dd undef <;> rfl
      split at h
      · rename_i bb hb
        injection h with h; injection h with h
        rw [hb] at hrel
        simp only [RelV, RelSV, RelAt, List.cons.injEq, and_true] at hrel
        rw [hrel] at hy
        simp only [Region.wanted, hg, hy]
        subst h
        cases want <;> cases bb <;> rfl
      · rename_i hb
        injection h with h; injection h with h
        rw [hb] at hrel
        obtain ⟨vs, h1, h2⟩ := hrel
        rw [h1] at hy
        simp only [Region.wanted, hg, hy]
        subst h; rfl
      · cases h
    · cases h

def StepOut (P : Program) (Γ : Ctx) (Θ : Types) (ops : List Oper) (s : AS) (o : Oper) (d : Delta) : Prop := (stepG Θ Γ ops o s).Out P Γ d

theorem dstsOk_get {n : Nat} : ∀ {l : List Oper} {j d : Nat}, dstsOk n l = true → dstOf l j = some d → d < n
  | [], j, d, _, h => by simp [dstOf] at h
  | o :: l, j, d, h, hd => by
    simp only [dstsOk, Bool.and_eq_true] at h
    cases j with
    | zero =>
      simp only [dstOf] at hd
      rw [hd] at h
      have := ble_iff.1 (show Nat.ble (d + 1) n = true from h.1)
      omega
    | succ j => simp only [dstOf] at hd; exact dstsOk_get h.2 hd

def WpAt (P : Program) (ops : Array Oper) (s : AS) (o : Oper) (d : Delta) : Prop :=
  ∀ w0 Mu ρ a w (Q : Exit → Act → World → Prop) (K : Act → World → Prop), Sim w0 Mu ρ s a w → (∀ a' w' ρ', Sim w0 Mu ρ' (s.apply d) a' w' → K a' w') →
    if Region.wanted o (yielded ops a.tmps) then o.wp P a w K Q else K (a.put o.dst undef) w

theorem splitDelta_out {p : Bool} {δ : Delta} (h : (splitDelta p δ).Out P Γ d) : (D.ok δ).Out P Γ d := by
  obtain ⟨tmp, fresh, put, gone⟩ := δ
  unfold splitDelta at h
  split at h
  · rename_i u b hd
    simp only at hd
    subst hd
    simp only [D.Out] at h ⊢
    rcases h with ⟨rfl, h⟩ | ⟨rfl, h⟩
    · exact h
    · cases p
      · exact h
      · exact h.elim
  · exact h

theorem splitD_out {p : Bool} : ∀ {t : D Delta}, (splitD p t).Out P Γ d → t.Out P Γ d := by
  intro t
  induction t with
  | ok δ => exact splitDelta_out
  | fail => exact id
  | br c t e ih1 ih2 =>
    intro h
    rcases h with ⟨h1, h2⟩ | ⟨h1, h2⟩
    · exact .inl ⟨h1, ih1 h2⟩
    · exact .inr ⟨h1, ih2 h2⟩
  | call g ds k ih =>
    intro h
    obtain ⟨fi, o, h1, h2, h3⟩ := h
    exact ⟨fi, o, h1, h2, ih o h3⟩

theorem stepG_out {ops : List Oper} (h : (stepG Θ Γ ops o s).Out P Γ d) : (stepG0 Θ Γ ops o s).Out P Γ d := by
  unfold stepG at h
  split at h
  · split at h
    · exact splitD_out h
    · exact h
  · exact h

theorem stepG_sound (hΘ : TypesOk P Θ) (hΓ : CtxOk P Γ) {ops : Array Oper} (hok : dstsOk s.n ops.toList = true) (h : (stepG Θ Γ ops.toList o s).Out P Γ d) : WpAt P ops s o d := by
  replace h := stepG_out h
  unfold stepG0 at h
  split at h
  · rename_i hdo
    have hd0 : ∀ n, o.dst = some n → n < s.n := by
      intro n hn
      unfold dstOk at hdo
      rw [hn] at hdo
      simp only [Bool.and_eq_true] at hdo
      exact ble_iff.1 (show Nat.ble (n + 1) s.n = true from hdo.1)
    have hd1 : movesOnly o.op = false → ∀ n, o.dst = some n → s.Dst n := by
      intro hm n hn
      unfold dstOk at hdo
      rw [hn, hm] at hdo
      simp only [Bool.and_eq_true, Bool.false_or] at hdo
      exact ⟨hd0 n hn, ble_iff.1 hdo.2.1, ble_iff.1 (show Nat.ble (n + 1) 4096 = true from hdo.2.2)⟩
    split at h
    · exact h.elim
    · rename_i hg
      intro w0 Mu ρ a w Q K hs hK
      rw [if_pos (wanted_none ops hg)]
      exact Oper.wp_mono (fun a' w' ⟨ρ', hs'⟩ => hK a' w' ρ' hs') (stepD_sound hΘ hΓ hd0 hd1 h w0 Mu ρ a w Q hs)
    · rename_i b hg
      simp only [D.Out] at h
      intro w0 Mu ρ a w Q K hs hK
      have hw := wanted_some hs ops hg (fun j dd _ h2 => dstsOk_get hok h2)
      rcases h with ⟨rfl, h⟩ | ⟨rfl, h⟩
      · rw [hw, if_pos rfl]
        exact Oper.wp_mono (fun a' w' ⟨ρ', hs'⟩ => hK a' w' ρ' hs') (stepD_sound hΘ hΓ hd0 hd1 h w0 Mu ρ a w Q hs)
      · rw [hw, if_neg (by simp)]
        refine hK _ _ ρ ?_
        subst h
        refine sim_step hs (w' := w) (ρ' := ρ) (d := skipDelta o) ⟨trivial, fun _ _ => ⟨rfl, rfl⟩, fun n it h => by simp [skipDelta, findI] at h, fun _ _ _ _ _ _ _ _ => rfl, Nat.le_refl _, by simp [skipDelta, putNames], ⟨rfl, rfl⟩, rfl⟩ ?_ ?_ (fun n it h => by simp [skipDelta, findI] at h) (fun n it h => by simp [skipDelta, findI] at h) (fun n it p h => by simp [skipDelta, findI] at h) (fun _ _ _ => rfl)
        · intro t v e
          simp only [skipDelta] at e
          split at e
          · rename_i m hm
            injection e with e; injection e with e1 e2; subst e1; subst e2
            exact ⟨hd0 _ hm, undef, ⟨[], rfl, rfl⟩, put_eq hm⟩
          · cases e
        · intro e
          simp only [skipDelta] at e
          split at e
          · cases e
          · rename_i hm; rw [hm]; rfl
  · exact h.elim

end

end Go.Eng

namespace Go.Eng
open Go

section
variable {P : Program} {Γ : Ctx} {Θ : Types}

inductive Chain (P : Program) (Γ : Ctx) (Θ : Types) (ops : List Oper) : List Oper → AS → AS → Prop
  | nil (s : AS) : Chain P Γ Θ ops [] s s
  | cons {o : Oper} {l : List Oper} {s s' : AS} {d : Delta} (h : StepOut P Γ Θ ops s o d) (r : Chain P Γ Θ ops l (s.apply d) s') : Chain P Γ Θ ops (o :: l) s s'

theorem runOps_chain {R : Type} (hΓ : CtxOk P Γ) {ops : List Oper} : ∀ (l : List Oper) (s : AS) (k : AS → Option R) (r : R), runOps Θ Γ ops l s k = some r → ∃ s', k s' = some r ∧ Chain P Γ Θ ops l s s'
  | [], s, k, r, h => ⟨s, h, .nil s⟩
  | o :: l, s, k, r, h => by
    simp only [runOps] at h
    obtain ⟨d, h1, h2⟩ := D.run_out hΓ _ _ _ h
    obtain ⟨s', h3, h4⟩ := runOps_chain hΓ l _ k r h2
    exact ⟨s', h3, .cons h1 h4⟩

def Reaches (P : Program) (c : Code) (s : AS) (e : X) (s' : AS) : Prop :=
  ∀ w0 Mu ρ a w (Q : Exit → Act → World → Prop), Sim w0 Mu ρ s a w →
    (∀ a' w' ρ', Sim w0 Mu ρ' s' a' w' → Q (match e with | .normal => .normal | .exit i => .exit i | .ret => .ret) a' w') → c.wp P Q a w

theorem chain_ops (hΘ : TypesOk P Θ) (hΓ : CtxOk P Γ) {ops : Array Oper} {l : List Oper} {s s' : AS} (h : Chain P Γ Θ ops.toList l s s') : ∀ {k : Nat}, (∀ j, l[j]? = ops.toList[k + j]?) → dstsOk s.n ops.toList = true →
    ∀ {w0 Mu ρ a w} {Q : Exit → Act → World → Prop}, Sim w0 Mu ρ s a w → (∀ a' w' ρ', Sim w0 Mu ρ' s' a' w' → Q .normal a' w') → wpOps P ops Q (List.range' k l.length) a w := by
  induction h with
  | nil s =>
    intro k _ _ w0 Mu ρ a w Q hs hQ
    exact hQ a w ρ hs
  | @cons o l s s' d h r ih =>
    intro k hl hok w0 Mu ρ a w Q hs hQ
    have h0 : ops[k]? = some o := by have := hl 0; simpa using this.symm
    simp only [List.length_cons, List.range'_succ]
    rw [wpOps_cons]
    unfold wpOp
    simp only [h0]
    have hstep := stepG_sound hΘ hΓ hok h w0 Mu ρ a w Q (wpOps P ops Q (List.range' (k + 1) l.length)) hs (fun a' w' ρ' hs' =>
      ih (k := k + 1) (fun j => by have := hl (j + 1); simpa [Nat.add_assoc, Nat.add_comm 1 j] using this) hok hs' hQ)
    split at hstep
    · rename_i hw; rw [if_pos hw]; exact .inl hstep
    · rename_i hw; rw [if_neg hw]; exact hstep

theorem region_reaches (hΘ : TypesOk P Θ) (hΓ : CtxOk P Γ) {id : Nat} {ops : Array Oper} {s s' : AS} (hok : dstsOk s.n ops.toList = true) (h : Chain P Γ Θ ops.toList ops.toList s s') : Reaches P (.region id ops false) s .normal s' := by
  intro w0 Mu ρ a w Q hs hQ
  refine wp_region ?_
  rw [List.range_eq_range']
  have := chain_ops hΘ hΓ h (k := 0) (by simp) hok hs (Q := Q) hQ
  simpa using this


theorem findT_pruneT (K : List Nat) (t : Nat) : ∀ (l : List (Nat × AV)) (seen : List Nat), findT t (pruneT K l seen) = .s (.one .dead) ∨ (t ∉ seen ∧ findT t (pruneT K l seen) = findT t l)
  | [], seen => .inl rfl
  | (u, v) :: l, seen => by
    simp only [pruneT]
    split
    · rename_i hs
      rcases findT_pruneT K t l seen with h | ⟨h1, h2⟩
      · exact .inl h
      · by_cases e : t = u
        · subst e; exact absurd (memN_iff.1 hs) h1
        · refine .inr ⟨h1, ?_⟩
          rw [h2, findT_cons, if_neg e]
    · rename_i hs
      split
      · rw [findT_cons, findT_cons]
        by_cases e : t = u
        · subst e
          rw [if_pos rfl, if_pos rfl]
          exact .inr ⟨memN_false.1 hs, rfl⟩
        · rw [if_neg e, if_neg e]
          rcases findT_pruneT K t l (u :: seen) with h | ⟨h1, h2⟩
          · exact .inl h
          · exact .inr ⟨fun hm => h1 (.tail _ hm), h2⟩
      · by_cases e : t = u
        · subst e
          
          left
          exact pruneT_notK (by assumption) l seen
        · rcases findT_pruneT K t l seen with h | ⟨h1, h2⟩
          · exact .inl h
          · refine .inr ⟨h1, ?_⟩
            rw [h2, findT_cons, if_neg e]
where
  pruneT_notK {K : List Nat} {t : Nat} (h : memN t K = false) : ∀ (l : List (Nat × AV)) (seen : List Nat), findT t (pruneT K l seen) = .s (.one .dead)
  | [], seen => rfl
  | (u, v) :: l, seen => by
    simp only [pruneT]
    split
    · exact pruneT_notK h l seen
    · split
      · rename_i hu
        rw [findT_cons, if_neg]
        · exact pruneT_notK h l _
        · rintro rfl; rw [h] at hu; cases hu
      · exact pruneT_notK h l seen

theorem Sim.prune {w0 : World} {Mu : MuT} {ρ : Rho} {s : AS} {a : Act} {w : World} (K : List Nat) (h : Sim w0 Mu ρ s a w) : Sim w0 Mu ρ (s.prune K) a w := by
  refine ⟨h.defers, h.nd, h.size, ?_, h.hold, h.own, h.sep, h.lt, h.mono, h.frame, h.pin, h.still, h.out, h.outp⟩
  intro t
  rcases findT_pruneT K t s.tmps [] with e | ⟨_, e⟩
  · show RelV ρ s.S (findT t (pruneT K s.tmps [])) _
    rw [e]; exact relDead _ _ _
  · show RelV ρ s.S (findT t (pruneT K s.tmps [])) _
    rw [e]; exact h.rel t

theorem Reaches.prune {c : Code} {s s' : AS} {e : X} (K : List Nat) (h : Reaches P c s e s') : Reaches P c s e (s'.prune K) :=
  fun w0 Mu ρ a w Q hs hQ => h w0 Mu ρ a w Q hs fun a' w' ρ' hs' => hQ a' w' ρ' (hs'.prune K)


theorem nodupN_iff : ∀ {l : List Nat}, nodupN l = true ↔ l.Nodup
  | [] => by simp [nodupN]
  | a :: l => by
    simp only [nodupN, Bool.and_eq_true, Bool.not_eq_true', List.nodup_cons, nodupN_iff (l := l)]
    rw [memN_false]

def SrcOf (s : AS) (f : List (Nat × Option Nat)) (n : Nat) (it : Item) : Prop :=
  ((n, none) ∈ f ∧ ∃ k es, it = .row k es [] ∧ PosK k es) ∨ (∃ m k es xs, (n, some m) ∈ f ∧ s.I m = some it ∧ it = .row k es xs)

theorem nrmSlots_spec (s : AS) : ∀ {sl : List NS} {ts : List (Nat × AV)} {is : List (Nat × Item)} {us : List Nat}, nrmSlots s sl = some (ts, is, us) →
    ∃ f : List (Nat × Option Nat), f.map (·.1) = rowNames sl ∧ f.filterMap (·.2) = us ∧ us.Nodup ∧ putNames is = rowNames sl ∧ (∀ n it, (n, it) ∈ is → SrcOf s f n it) ∧
      (∀ t v, (t, v) ∈ ts → (v = s.T t ∧ t ∈ tmpSlots sl) ∨ ∃ n, v = va (.own n) ∧ (((n, none) ∈ f ∧ s.T t = va .nils ∧ ∃ k es, (n, .row k es []) ∈ is) ∨ ∃ m it, (n, some m) ∈ f ∧ s.T t = va (.own m) ∧ (n, it) ∈ is ∧ s.I m = some it))
  | [], ts, is, us, h => by
    simp only [nrmSlots] at h
    injection h with h; injection h with h1 h2; injection h2 with h2 h3; subst h1; subst h2; subst h3
    exact ⟨[], rfl, rfl, List.nodup_nil, rfl, by simp, by simp⟩
  | .tmp t :: sl, ts, is, us, h => by
    simp only [nrmSlots] at h
    split at h
    · rename_i ts' is' us' h'
      injection h with h; injection h with h1 h2; injection h2 with h2 h3; subst h1; subst h2; subst h3
      obtain ⟨f, g1, g2, g3, g4, g5, g6⟩ := nrmSlots_spec s h'
      refine ⟨f, by simpa [rowNames] using g1, g2, g3, by simpa [rowNames] using g4, g5, ?_⟩
      intro t' v hm
      rcases List.mem_cons.1 hm with e | hm
      · injection e with e1 e2; subst e1; subst e2
        exact .inl ⟨rfl, by simp [tmpSlots]⟩
      · rcases g6 t' v hm with ⟨h1, h2⟩ | h1
        · exact .inl ⟨h1, by simp [tmpSlots, h2]⟩
        · exact .inr h1
    · cases h
  | .row t n k es :: sl, ts, is, us, h => by
    simp only [nrmSlots] at h
    split at h
    · rename_i ts' is' us' h'
      obtain ⟨f, g1, g2, g3, g4, g5, g6⟩ := nrmSlots_spec s h'
      have lift5 : ∀ (x : Nat × Option Nat), ∀ n it, (n, it) ∈ is' → SrcOf s (x :: f) n it := by
        intro x n it hm
        rcases g5 n it hm with ⟨h1, h2⟩ | ⟨m, k, es, xs, h1, h2⟩
        · exact .inl ⟨.tail _ h1, h2⟩
        · exact .inr ⟨m, k, es, xs, .tail _ h1, h2⟩
      split at h
      · rename_i hT
        split at h
        · rename_i hes
          injection h with h; injection h with h1 h2; injection h2 with h2 h3; subst h1; subst h2; subst h3
          refine ⟨(n, none) :: f, by simp [rowNames, g1], by simpa using g2, g3, by simp [putNames, rowNames, g4], ?_, ?_⟩
          · intro n' it hm
            rcases List.mem_cons.1 hm with e | hm
            · injection e with e1 e2; subst e1; subst e2
              exact .inl ⟨.head _, k, es, rfl, posK_iff hes⟩
            · exact lift5 _ n' it hm
          · intro t' v hm
            rcases List.mem_cons.1 hm with e | hm
            · injection e with e1 e2; subst e1; subst e2
              exact .inr ⟨n, rfl, .inl ⟨.head _, hT, k, es, .head _⟩⟩
            · rcases g6 t' v hm with ⟨h1, h2⟩ | ⟨n', h1, ⟨h2, h3, k2, es2, h4⟩ | ⟨m, it, h2, h3, h4, h5⟩⟩
              · exact .inl ⟨h1, by simpa [tmpSlots] using h2⟩
              · exact .inr ⟨n', h1, .inl ⟨.tail _ h2, h3, k2, es2, .tail _ h4⟩⟩
              · exact .inr ⟨n', h1, .inr ⟨m, it, .tail _ h2, h3, .tail _ h4, h5⟩⟩
        · cases h
      · rename_i m hT
        split at h
        · rename_i k' es' xs hi
          split at h
          · rename_i hb
            simp only [Bool.and_eq_true, Bool.not_eq_true'] at hb
            have e1 := rkEq_iff.1 hb.1; have e2 := beqT hb.2.1; have e3 := memN_false.1 hb.2.2
            subst e1; subst e2
            injection h with h; injection h with h1 h2; injection h2 with h2 h3; subst h1; subst h2; subst h3
            refine ⟨(n, some m) :: f, by simp [rowNames, g1], by simp [g2], by simp [e3, g3], by simp [putNames, rowNames, g4], ?_, ?_⟩
            · intro n' it hm
              rcases List.mem_cons.1 hm with e | hm
              · injection e with e1 e2; subst e1; subst e2
                exact .inr ⟨m, _, _, xs, .head _, hi, rfl⟩
              · exact lift5 _ n' it hm
            · intro t' v hm
              rcases List.mem_cons.1 hm with e | hm
              · injection e with e1 e2; subst e1; subst e2
                exact .inr ⟨n, rfl, .inr ⟨m, _, .head _, hT, .head _, hi⟩⟩
              · rcases g6 t' v hm with ⟨h1, h2⟩ | ⟨n', h1, ⟨h2, h3, k2, es2, h4⟩ | ⟨m', it, h2, h3, h4, h5⟩⟩
                · exact .inl ⟨h1, by simpa [tmpSlots] using h2⟩
                · exact .inr ⟨n', h1, .inl ⟨.tail _ h2, h3, k2, es2, .tail _ h4⟩⟩
                · exact .inr ⟨n', h1, .inr ⟨m', it, .tail _ h2, h3, .tail _ h4, h5⟩⟩
          · cases h
        · cases h
      · cases h
    · cases h

theorem nrmItems_spec (s : AS) : ∀ {l : List Nat} {js : List (Nat × Item)}, nrmItems s l = some js → (putNames js).Sublist l ∧ ∀ n it, (n, it) ∈ js → s.I n = some it
  | [], js, h => by simp only [nrmItems] at h; injection h with h; subst h; exact ⟨List.Sublist.refl _, by simp⟩
  | n :: l, js, h => by
    simp only [nrmItems] at h
    split at h
    · rename_i is h1
      obtain ⟨g1, g2⟩ := nrmItems_spec s h1
      split at h
      · rename_i it h2
        injection h with h; subst h
        refine ⟨by simp only [putNames]; exact g1.cons_cons n, fun m jt hm => ?_⟩
        rcases List.mem_cons.1 hm with e | hm
        · injection e with e1 e2; subst e1; subst e2; exact h2
        · exact g2 m jt hm
      · injection h with h; subst h
        exact ⟨g1.cons n, g2⟩
    · cases h

theorem nodup'_of : ∀ {l : List (Nat × Item)}, (putNames l).Nodup → Nodup' l
  | [], _ => trivial
  | (n, it) :: l, h => by
    simp only [putNames, List.nodup_cons] at h
    exact ⟨h.1, nodup'_of h.2⟩

theorem findT_mem {t : Nat} : ∀ {l : List (Nat × AV)}, findT t l = .s (.one .dead) ∨ (t, findT t l) ∈ l
  | [] => .inl rfl
  | (u, v) :: l => by
    rw [findT_cons]
    split
    · rename_i e; subst e; exact .inr (.head _)
    · rcases findT_mem (t := t) (l := l) with h | h
      · exact .inl h
      · exact .inr (.tail _ h)

def look (f : List (Nat × Option Nat)) (n : Nat) : Option (Option Nat) := match f with
  | [] => none
  | (m, x) :: l => if n = m then some x else look l n

theorem look_mem {n : Nat} {x : Option Nat} : ∀ {f : List (Nat × Option Nat)}, (f.map (·.1)).Nodup → (n, x) ∈ f → look f n = some x
  | [], _, h => by cases h
  | (m, y) :: l, hn, h => by
    simp only [List.map_cons, List.nodup_cons] at hn
    simp only [look]
    rcases List.mem_cons.1 h with e | h
    · injection e with e1 e2; subst e1; subst e2; rw [if_pos rfl]
    · rw [if_neg]
      · exact look_mem hn.2 h
      · intro e
        exact hn.1 (List.mem_map.2 ⟨(n, x), h, e⟩)

theorem look_none {n : Nat} : ∀ {f : List (Nat × Option Nat)}, n ∉ f.map (·.1) → look f n = none
  | [], _ => rfl
  | (m, y) :: l, h => by
    simp only [List.map_cons, List.mem_cons, not_or] at h
    simp only [look]
    rw [if_neg h.1]; exact look_none h.2

theorem mem_us {f : List (Nat × Option Nat)} {n m : Nat} (h : (n, some m) ∈ f) : m ∈ f.filterMap (·.2) := List.mem_filterMap.2 ⟨_, h, rfl⟩

theorem src_inj : ∀ {f : List (Nat × Option Nat)} {n n' m : Nat}, (f.filterMap (·.2)).Nodup → (n, some m) ∈ f → (n', some m) ∈ f → n = n'
  | [], n, n', m, _, h, _ => by cases h
  | (a, x) :: l, n, n', m, hn, h, h' => by
    cases x with
    | none =>
      simp only [List.filterMap_cons] at hn
      rcases List.mem_cons.1 h with e | h
      · injection e with _ e; cases e
      · rcases List.mem_cons.1 h' with e | h'
        · injection e with _ e; cases e
        · exact src_inj hn h h'
    | some b =>
      simp only [List.filterMap_cons, List.nodup_cons] at hn
      rcases List.mem_cons.1 h with e | g
      · injection e with e1 e2; injection e2 with e2
        rcases List.mem_cons.1 h' with e' | g'
        · injection e' with e1' _; rw [e1, e1']
        · exact absurd (mem_us (e2 ▸ g')) hn.1
      · rcases List.mem_cons.1 h' with e' | g'
        · injection e' with e1 e2; injection e2 with e2
          exact absurd (mem_us (e2 ▸ g)) hn.1
        · exact src_inj hn.2 g g'

theorem Sim.nrm0 {w0 : World} {Mu : MuT} {ρ : Rho} {s s' : AS} {a : Act} {w : World} {ν : Nrm} (hs : Sim w0 Mu ρ s a w) (h : Eng.nrm0 ν s = some s') : ∃ ρ', Sim w0 Mu ρ' s' a w := by
  unfold Eng.nrm0 at h
  split at h
  · rename_i ts is us js h1 h2
    split at h
    · rename_i hb
      injection h with h; subst h
      simp only [Bool.and_eq_true, disj_iff] at hb
      obtain ⟨hb0, hb1, hb2, hb3, hb4⟩ := hb
      have hb1 := nodupN_iff.1 hb1
      obtain ⟨f, f1, f2, f3, f4, f5, f6⟩ := nrmSlots_spec s h1
      obtain ⟨j1, j2⟩ := nrmItems_spec s h2
      rw [List.nodup_append] at hb1
      obtain ⟨n1, n2, n3⟩ := hb1
      have hfn : (f.map (·.1)).Nodup := by rw [f1]; exact n2
      let ρ' : Rho := { loc := fun n => match look f n with | some (some m) => ρ.loc m | some none => none | none => ρ.loc n,
                        tot := fun n => match look f n with | some (some m) => ρ.tot m | some none => 0 | none => ρ.tot n, out := ρ.out }
      have hnd : Nodup' (is ++ js) := nodup'_of (by
        rw [putNames_append, f4, List.nodup_append]
        exact ⟨n2, n1.sublist j1, fun x hx y hy e => n3 y (j1.subset hy) x hx e.symm⟩)
      
      have hfind : ∀ n it, findI n (is ++ js) = some it → ((n, it) ∈ is) ∨ (n ∉ rowNames ν.slots ∧ n ∈ ν.items ∧ s.I n = some it) := by
        intro n it hh
        have hm := findI_mem hh
        rcases List.mem_append.1 hm with hm | hm
        · exact .inl hm
        · have hin : n ∈ ν.items := j1.subset (putNames_iff.2 ⟨it, hm⟩)
          exact .inr ⟨fun hr => n3 n hin n hr rfl, hin, j2 n it hm⟩
      have hfound : ∀ n it, (n, it) ∈ is ++ js → findI n (is ++ js) = some it := by
        intro n it hm
        have : ∀ {l : List (Nat × Item)}, Nodup' l → (n, it) ∈ l → findI n l = some it := by
          intro l
          induction l with
          | nil => intro _ h; cases h
          | cons x l ih =>
            obtain ⟨u, v⟩ := x
            intro hn h
            rw [findI_cons]
            rcases List.mem_cons.1 h with e | g
            · injection e with e1 e2; subst e1; subst e2; rw [if_pos rfl]
            · rw [if_neg]
              · exact ih hn.2 g
              · intro e; exact hn.1 (putNames_iff.2 ⟨it, e ▸ g⟩)
        exact this hnd hm
      
      have hag : ∀ n, n ∉ rowNames ν.slots → Agree ρ ρ' s.S (fun n => (findI n (is ++ js)).map Item.shape) n := by
        intro n hn
        have hl : look f n = none := look_none (by rw [f1]; exact hn)
        refine ⟨by simp only [ρ', hl], by simp only [ρ', hl], ?_⟩
        cases hh : findI n (is ++ js) with
        | none => right; show (findI n (is ++ js)).map Item.shape = none; rw [hh]; rfl
        | some it =>
          left
          rcases hfind n it hh with hm | ⟨_, _, hi⟩
          · exact absurd (by rw [← f4]; exact putNames_iff.2 ⟨it, hm⟩) hn
          · show (findI n (is ++ js)).map Item.shape = s.S n
            rw [hh, S_of hi]; rfl
      have hsrcloc : ∀ n it, (n, it) ∈ is → ∀ p, ρ'.loc n = some p → ∃ m, (n, some m) ∈ f ∧ s.I m = some it ∧ ρ.loc m = some p ∧ it.owned = true := by
        intro n it hm p hp
        rcases f5 n it hm with ⟨g1, g2⟩ | ⟨m, k, es, xs, g1, g2, g3⟩
        · have := look_mem hfn g1
          simp only [ρ', this] at hp; cases hp
        · have := look_mem hfn g1
          simp only [ρ', this] at hp
          exact ⟨m, g1, g2, hp, by rw [g3]; rfl⟩
      have hold' : ∀ n it, findI n (is ++ js) = some it → HoldI ρ' (fun n => (findI n (is ++ js)).map Item.shape) n w it := by
        intro n it hh
        rcases hfind n it hh with hm | ⟨hnr, hin, hi⟩
        · rcases f5 n it hm with ⟨g1, k, es, rfl, hes⟩ | ⟨m, k, es, xs, g1, g2, rfl⟩
          · have hl := look_mem hfn g1
            exact ⟨hes, ⟨0, by simp⟩, .inl ⟨by simp only [ρ', hl], rfl, by simp only [ρ', hl]⟩⟩
          · have hl := look_mem hfn g1
            obtain ⟨e1, e2, e3⟩ := hs.hold m _ g2
            refine ⟨e1, e2, ?_⟩
            have l1 : ρ'.loc n = ρ.loc m := by simp only [ρ', hl]
            have l2 : ρ'.tot n = ρ.tot m := by simp only [ρ', hl]
            rw [l1, l2]; exact e3
        · refine (hs.hold n it hi).frame ⟨(hag n hnr).1, (hag n hnr).2.1⟩ (fun m hm => hag m fun hr => ?_) (fun _ _ => rfl) (fun b hb => ⟨hb, rfl⟩)
          refine hb4 m hr ?_
          have hjs : (n, it) ∈ js := by
            rcases List.mem_append.1 (findI_mem hh) with hm' | hm'
            · exact absurd (by rw [← f4]; exact putNames_iff.2 ⟨it, hm'⟩) hnr
            · exact hm'
          exact putSays_mem hjs hm
      
      have horig : ∀ n it p, findI n (is ++ js) = some it → ρ'.loc n = some p → ∃ m, s.I m = some it ∧ ρ.loc m = some p ∧ ((n, some m) ∈ f ∨ (m = n ∧ n ∈ ν.items ∧ n ∉ rowNames ν.slots)) := by
        intro n it p hh hp
        rcases hfind n it hh with hm | ⟨hnr, hin, hi⟩
        · obtain ⟨m, g1, g2, g3, _⟩ := hsrcloc n it hm p hp
          exact ⟨m, g2, g3, .inl g1⟩
        · exact ⟨n, hi, by rw [← (hag n hnr).1]; exact hp, .inr ⟨rfl, hin, hnr⟩⟩
      refine ⟨ρ', hs.defers, hnd, hs.size, ?_, hold', ?_, ?_, ?_, hs.mono, hs.frame, fun n hn => ?_, hs.still, hs.out, hs.outp⟩
      · intro t
        show RelV ρ' (fun n => (findI n (is ++ js)).map Item.shape) (findT t ts) _
        rcases findT_mem (t := t) (l := ts) with e | hm
        · rw [e]; exact relDead _ _ _
        · rcases f6 t _ hm with ⟨e, hsl⟩ | ⟨n, e, ⟨g1, g2, k, es, g3⟩ | ⟨m, it, g1, g2, g3, g4⟩⟩
          · rw [e]
            exact (hs.rel t).frame fun n hn => hag n fun hr => hb3 n hr (plain_mem hsl hn)
          · rw [e]
            have hr := hs.rel t
            rw [g2] at hr
            have hv : a.tmps.getD t undef = .slice none 0 0 := by simpa [RelV, RelSV, RelAt, va] using hr
            rw [hv]
            have hS := hfound n _ (List.mem_append.2 (.inl g3))
            have hl := look_mem hfn g1
            show RelAt ρ' (fun n => (findI n (is ++ js)).map Item.shape) (.own n) [.slice none 0 0]
            simp only [RelAt, hS, Option.map_some, Item.shape, List.length_nil, rl_zero]
            exact ⟨0, by simp only [ρ', hl]; rfl, Nat.le_refl _, fun _ => rfl, by simp⟩
          · rw [e]
            have hr := hs.rel t
            rw [g2] at hr
            have hS := hfound n _ (List.mem_append.2 (.inl g3))
            have hl := look_mem hfn g1
            have hr' : RelAt ρ s.S (.own m) [a.tmps.getD t undef] := hr
            obtain ⟨k, es, xs, rfl⟩ : ∃ k es xs, it = .row k es xs := by
              rcases f5 n it g3 with ⟨_, k, es, e2, _⟩ | ⟨_, k, es, xs, _, _, e2⟩
              · exact ⟨k, es, [], e2⟩
              · exact ⟨k, es, xs, e2⟩
            show RelAt ρ' (fun n => (findI n (is ++ js)).map Item.shape) (.own n) [a.tmps.getD t undef]
            simp only [RelAt, S_of g4, Item.shape] at hr'
            simp only [RelAt, hS, Option.map_some, Item.shape]
            have l1 : ρ'.loc n = ρ.loc m := by simp only [ρ', hl]
            have l2 : ρ'.tot n = ρ.tot m := by simp only [ρ', hl]
            rw [l1, l2]; exact hr'
      · intro n it p hh ho hp
        obtain ⟨m, g1, g2, _⟩ := horig n it p hh hp
        exact hs.own m it p g1 ho g2
      · intro n m it it' p q hh hh' ho hne hp hq
        obtain ⟨n', g1, g2, g3⟩ := horig n it p hh hp
        obtain ⟨m', k1, k2, k3⟩ := horig m it' q hh' hq
        refine hs.sep n' m' it it' p q g1 k1 ho (fun e => ?_) g2 k2
        subst e
        rcases g3 with g3 | ⟨g3, g4, g5⟩
        · rcases k3 with k3 | ⟨k3, k4, k5⟩
          · exact hne (src_inj (by rw [f2]; exact f3) g3 k3)
          · subst k3
            exact hb2 n' (by rw [← f2]; exact mem_us g3) k4
        · subst g3
          rcases k3 with k3 | ⟨k3, k4, k5⟩
          · exact hb2 n' (by rw [← f2]; exact mem_us k3) g4
          · exact hne k3
      · intro n it p hh hp
        obtain ⟨m, g1, g2, _⟩ := horig n it p hh hp
        exact hs.lt m it p g1 g2
      · have hn : n < s.lo ∨ hiN ≤ n := hn
        have hnr : n ∉ rowNames ν.slots := fun hr => by
          have h1 := leAll_mem hb0.1 hr
          have h2 := ltAll_iff.1 hb0.2 n hr
          omega
        obtain ⟨g1, g2, g3⟩ := hag n hnr
        obtain ⟨p1, p2, p3⟩ := hs.pin n hn
        refine ⟨g1.trans p1, g2.trans p2, ?_⟩
        rcases g3 with g3 | g3
        · have g3' : (AS.S { n := s.n, lo := s.lo, tmps := ts, items := is ++ js }) n = s.S n := g3
          rw [g3']; exact p3
        · exact .inr g3
    · cases h
  · cases h
where
  leAll_mem : ∀ {l : List Nat} {a b : Nat}, leAll a l = true → b ∈ l → a ≤ b
    | [], _, _, _, h => by cases h
    | c :: l, a, b, h, hm => by
      simp only [leAll, Bool.and_eq_true] at h
      rcases List.mem_cons.1 hm with e | hm
      · subst e; exact ble_iff.1 h.1
      · exact leAll_mem h.2 hm
  putSays_mem : ∀ {js : List (Nat × Item)} {n m : Nat} {it : Item}, (n, it) ∈ js → m ∈ it.names → m ∈ putSays js
    | [], n, m, it, h, _ => by cases h
    | (u, v) :: js, n, m, it, h, hm => by
      simp only [putSays]
      rcases List.mem_cons.1 h with e | h
      · injection e with e1 e2; subst e2; exact List.mem_append.2 (.inl hm)
      · exact List.mem_append.2 (.inr (putSays_mem h hm))
  plain_mem : ∀ {l : List Nat} {t n : Nat}, t ∈ l → n ∈ (s.T t).names → n ∈ plainNames s l
    | [], t, n, h, _ => by cases h
    | u :: l, t, n, h, hn => by
      simp only [plainNames]
      rcases List.mem_cons.1 h with e | h
      · subst e; exact List.mem_append.2 (.inl hn)
      · exact List.mem_append.2 (.inr (plain_mem h hn))


def unN (lo m : Nat) : Nat := match Nat.blt m lo || Nat.ble hiN m with | true => m | false => m - 1048576

theorem shOk_mem {lo : Nat} : ∀ {l : List Nat} {n : Nat}, shOk lo l = true → n ∈ l → (n < lo ∨ hiN ≤ n) ∨ (lo ≤ n ∧ n + 1048576 < hiN)
  | m :: l, n, h, hn => by
    simp only [shOk, Bool.and_eq_true] at h
    rcases List.mem_cons.1 hn with e | hn
    · subst e
      have h := h.1
      split at h
      · rename_i hb
        left
        simp only [Bool.or_eq_true] at hb
        rcases hb with hb | hb
        · left; exact ble_iff.1 (show Nat.ble (n + 1) lo = true from hb)
        · right; exact ble_iff.1 hb
      · rename_i hb
        right
        simp only [Bool.or_eq_false_iff] at hb
        refine ⟨?_, ble_iff.1 (show Nat.ble (n + 1048576 + 1) hiN = true from h)⟩
        apply Nat.le_of_not_lt
        intro hlt
        have : Nat.blt n lo = true := ble_iff.2 hlt
        rw [this] at hb; cases hb.1
    · exact shOk_mem h.2 hn

theorem shN_fix {lo n : Nat} (h : n < lo ∨ hiN ≤ n) : shN lo n = n ∧ unN lo n = n := by
  have hb : (Nat.blt n lo || Nat.ble hiN n) = true := by
    rw [Bool.or_eq_true]
    rcases h with h | h
    · left; exact ble_iff.2 h
    · right; exact ble_iff.2 h
  unfold shN unN
  rw [hb]; exact ⟨rfl, rfl⟩
theorem shN_not {lo n : Nat} (h1 : lo ≤ n) (h2 : n < hiN) : (Nat.blt n lo || Nat.ble hiN n) = false := by
  rw [Bool.or_eq_false_iff]
  constructor
  · cases hb : Nat.blt n lo with
    | false => rfl
    | true => have := ble_iff.1 (show Nat.ble (n + 1) lo = true from hb); omega
  · cases hb : Nat.ble hiN n with
    | false => rfl
    | true => have := ble_iff.1 hb; omega
theorem unN_shN {lo n : Nat} (h : (n < lo ∨ hiN ≤ n) ∨ (lo ≤ n ∧ n + 1048576 < hiN)) : unN lo (shN lo n) = n := by
  rcases h with h | ⟨h1, h2⟩
  · rw [(shN_fix h).1, (shN_fix h).2]
  · have e : shN lo n = n + 1048576 := by unfold shN; rw [shN_not h1 (by omega)]
    rw [e]; unfold unN; rw [shN_not (by omega) h2]; simp

theorem find_shT (f : Nat → Nat) (t : Nat) : ∀ (l : List (Nat × AV)), findT t (shT f l) = rnV f (findT t l)
  | [] => rfl
  | (u, v) :: l => by
    simp only [shT, findT_cons, find_shT f t l]
    split <;> rfl
theorem mem_shI {f : Nat → Nat} {m : Nat} {jt : Item} : ∀ {l : List (Nat × Item)}, (m, jt) ∈ shI f l → ∃ n it, (n, it) ∈ l ∧ m = f n ∧ jt = rnI f it
  | (u, it) :: l, h => by
    rcases List.mem_cons.1 h with e | h
    · injection e with e1 e2; exact ⟨u, it, .head _, e1, e2⟩
    · obtain ⟨n, it', h1, h2, h3⟩ := mem_shI h
      exact ⟨n, it', .tail _ h1, h2, h3⟩
theorem names_shI {f : Nat → Nat} {m : Nat} : ∀ {l : List (Nat × Item)}, m ∈ putNames (shI f l) → ∃ n, n ∈ putNames l ∧ m = f n
  | (u, it) :: l, h => by
    rcases List.mem_cons.1 h with e | h
    · exact ⟨u, .head _, e⟩
    · obtain ⟨n, h1, h2⟩ := names_shI h
      exact ⟨n, .tail _ h1, h2⟩
theorem mem_findI {n : Nat} {it : Item} : ∀ {l : List (Nat × Item)}, Nodup' l → (n, it) ∈ l → findI n l = some it
  | (u, jt) :: l, hn, h => by
    rw [findI_cons]
    rcases List.mem_cons.1 h with e | h
    · injection e with e1 e2; subst e1; subst e2; rw [if_pos rfl]
    · have : n ≠ u := fun e => hn.1 (e ▸ putNames_iff.2 ⟨it, h⟩)
      rw [if_neg this]; exact mem_findI hn.2 h
theorem noDv_mem {n : Nat} {it : Item} : ∀ {l : List (Nat × Item)}, noDv l = true → (n, it) ∈ l → ∀ k es rows, it ≠ .dview k es rows
  | (u, jt) :: l, h, hm, k, es, rows => by
    simp only [noDv, Bool.and_eq_true] at h
    rcases List.mem_cons.1 hm with e | hm
    · injection e with e1 e2; subst e2
      intro e; subst e; cases h.1
    · exact noDv_mem h.2 hm k es rows
theorem nodup_shI {lo : Nat} : ∀ {l : List (Nat × Item)}, Nodup' l → shOk lo (putNames l) = true → Nodup' (shI (shN lo) l)
  | [], _, _ => trivial
  | (u, it) :: l, hn, ho => by
    simp only [putNames] at ho
    have hl : shOk lo (putNames l) = true := by simp only [shOk, Bool.and_eq_true] at ho; exact ho.2
    refine ⟨fun hm => ?_, nodup_shI hn.2 hl⟩
    obtain ⟨n, h1, h2⟩ := names_shI hm
    have e1 := unN_shN (shOk_mem ho (.head _))
    have e2 := unN_shN (shOk_mem ho (.tail _ h1))
    rw [h2, e2] at e1
    exact hn.1 (e1 ▸ h1)
theorem namesT_mem' {t n : Nat} : ∀ {l : List (Nat × AV)}, n ∈ (findT t l).names → n ∈ namesT l
  | [], h => by simp [findT, AV.names, SV.names, At.names] at h
  | (u, v) :: l, h => by
    rw [findT_cons] at h
    simp only [namesT, List.mem_append]
    split at h
    · exact .inl h
    · exact .inr (namesT_mem' h)

theorem Sim.shift {w0 : World} {Mu : MuT} {ρ : Rho} {s s' : AS} {a : Act} {w : World} (hs : Sim w0 Mu ρ s a w) (h : shiftS s = some s') : ∃ ρ', Sim w0 Mu ρ' s' a w := by
  unfold shiftS at h
  split at h
  · rename_i hb
    injection h with h; subst h
    simp only [Bool.and_eq_true] at hb
    obtain ⟨b1, b2, b3, b4⟩ := hb
    let ρ' : Rho := { loc := fun m => ρ.loc (unN s.lo m), tot := fun m => ρ.tot (unN s.lo m), out := ρ.out }
    let s2 : AS := { n := s.n, lo := s.lo, tmps := shT (shN s.lo) s.tmps, items := shI (shN s.lo) s.items }
    have hnd : Nodup' s2.items := nodup_shI hs.nd b2
    have inv : ∀ n, n ∈ putNames s.items ∨ n ∈ namesT s.tmps ∨ n ∈ putSays s.items → unN s.lo (shN s.lo n) = n := fun n hn => by
      rcases hn with hn | hn | hn
      · exact unN_shN (shOk_mem b2 hn)
      · exact unN_shN (shOk_mem b3 hn)
      · exact unN_shN (shOk_mem b4 hn)
    have ofI : ∀ m jt, s2.I m = some jt → ∃ n it, s.I n = some it ∧ m = shN s.lo n ∧ jt = rnI (shN s.lo) it ∧ unN s.lo m = n ∧ (n, it) ∈ s.items := fun m jt hm => by
      obtain ⟨n, it, h1, h2, h3⟩ := mem_shI (findI_mem hm)
      refine ⟨n, it, mem_findI hs.nd h1, h2, h3, ?_, h1⟩
      rw [h2]; exact inv n (.inl (putNames_iff.2 ⟨it, h1⟩))
    have Sat : ∀ n, (n ∈ putNames s.items ∨ n ∈ namesT s.tmps ∨ n ∈ putSays s.items) → s2.S (shN s.lo n) = s.S n ∨ s2.S (shN s.lo n) = none := fun n hn => by
      cases hi : s2.I (shN s.lo n) with
      | none => right; unfold AS.S; rw [hi]; rfl
      | some jt =>
        left
        obtain ⟨n', it, h1, h2, h3, h4, _⟩ := ofI _ _ hi
        have e : n' = n := by rw [← h4]; exact inv n hn
        subst e
        rw [S_of hi, S_of h1, h3, rnI_shape]
    have ren : ∀ n, (n ∈ putNames s.items ∨ n ∈ namesT s.tmps ∨ n ∈ putSays s.items) → Ren (shN s.lo) ρ ρ' s.S s2.S n := fun n hn =>
      ⟨by show ρ.loc (unN s.lo (shN s.lo n)) = _; rw [inv n hn], by show ρ.tot (unN s.lo (shN s.lo n)) = _; rw [inv n hn], Sat n hn⟩
    refine ⟨ρ', ?_⟩
    show Sim w0 Mu ρ' s2 a w
    refine ⟨hs.defers, hnd, hs.size, ?_, ?_, ?_, ?_, ?_, hs.mono, hs.frame, ?_, hs.still, hs.out, hs.outp⟩
    · intro t
      have e : s2.T t = rnV (shN s.lo) (s.T t) := find_shT _ t s.tmps
      rw [e]
      exact (hs.rel t).ren fun n hn => ren n (.inr (.inl (namesT_mem' hn)))
    · intro m jt hm
      obtain ⟨n, it, h1, h2, h3, h4, h5⟩ := ofI m jt hm
      rw [h2, h3]
      have hr := ren n (.inl (putNames_iff.2 ⟨it, h5⟩))
      exact (hs.hold n it h1).ren ⟨hr.loc, hr.tot⟩ (fun k hk => ren k (.inr (.inr (Sim.nrm0.putSays_mem h5 hk)))) (noDv_mem b1 h5)
    · intro m jt p hm ho hp
      obtain ⟨n, it, h1, h2, h3, h4, h5⟩ := ofI m jt hm
      exact hs.own n it p h1 (by rw [h3, rnI_owned] at ho; exact ho) (by rw [← h4]; exact hp)
    · intro m m2 jt jt2 p q hm hm2 ho hne hp hq
      obtain ⟨n, it, h1, h2, h3, h4, h5⟩ := ofI m jt hm
      obtain ⟨n2, it2, g1, g2, g3, g4, g5⟩ := ofI m2 jt2 hm2
      exact hs.sep n n2 it it2 p q h1 g1 (by rw [h3, rnI_owned] at ho; exact ho) (fun e => hne (by rw [h2, g2, e])) (by rw [← h4]; exact hp) (by rw [← g4]; exact hq)
    · intro m jt p hm hp
      obtain ⟨n, it, h1, h2, h3, h4, h5⟩ := ofI m jt hm
      exact hs.lt n it p h1 (by rw [← h4]; exact hp)
    · intro n hn
      obtain ⟨p1, p2, p3⟩ := hs.pin n hn
      have hf := shN_fix (lo := s.lo) hn
      refine ⟨by show ρ.loc (unN s.lo n) = _; rw [hf.2]; exact p1, by show ρ.tot (unN s.lo n) = _; rw [hf.2]; exact p2, ?_⟩
      cases hi : s2.I n with
      | none => right; unfold AS.S; rw [hi]; rfl
      | some jt =>
        obtain ⟨n', it, h1, h2, h3, h4, h5⟩ := ofI _ _ hi
        rw [hf.2] at h4
        subst h4
        rw [S_of hi, h3, rnI_shape, ← S_of h1]
        exact p3
  · cases h

theorem Sim.nrm {w0 : World} {Mu : MuT} {ρ : Rho} {s s' : AS} {a : Act} {w : World} {ν : Nrm} (hs : Sim w0 Mu ρ s a w) (h : Eng.nrm ν s = some s') : ∃ ρ', Sim w0 Mu ρ' s' a w := by
  unfold Eng.nrm at h
  split at h
  · exact hs.shift h
  · exact hs.nrm0 h

end

end Go.Eng

namespace Go.Eng
open Go


def purgeAllA : List (Nat × Item) → AV → AV
  | [], v => v
  | (d, _) :: r, v => purgeAllA r (purgeA d v)

theorem findT_purgeAllT_eq (t : Nat) : ∀ (f : List (Nat × Item)) (l : List (Nat × AV)), findT t (purgeAllT f l) = purgeAllA f (findT t l)
  | [], l => rfl
  | (d, i) :: f, l => by simp only [purgeAllT, purgeAllA, findT_purgeAllT_eq t f, findT_purgeT]

theorem purgeAllA_id : ∀ {f : List (Nat × Item)} {v : AV}, (∀ n ∈ putNames f, n ∉ v.names) → purgeAllA f v = v
  | [], v, _ => rfl
  | (d, i) :: f, v, h => by
    have h1 : purgeA d v = v := by
      unfold purgeA; rw [memN_false.2 (h d (.head _))]
    rw [purgeAllA, h1]
    exact purgeAllA_id fun n hn => h n (.tail _ hn)

open Classical in
noncomputable def clash (f : List Nat) : Option Item → Option Item
  | none => none
  | some it => if ∃ x ∈ f, x ∈ it.names then none else some it

theorem clash_id {f : List Nat} {o : Option Item} (h : ∀ x ∈ f, ∀ it, o = some it → x ∉ it.names) : clash f o = o := by
  cases o with
  | none => rfl
  | some it =>
    simp only [clash]
    rw [if_neg]
    rintro ⟨x, h1, h2⟩
    exact h x h1 it rfl h2

theorem findI_purgeI_eq {t d : Nat} : ∀ {l : List (Nat × Item)}, Nodup' l → findI t (purgeI d l) = if t = d then none else clash [d] (findI t l)
  | [], _ => by simp [purgeI, findI, clash]
  | (u, v) :: l, ⟨h1, h2⟩ => by
    have ih := findI_purgeI_eq (t := t) (d := d) h2
    simp only [purgeI]
    split
    · rename_i hu
      have hu := beqT hu; subst hu
      rw [ih, findI_cons]
      by_cases e : t = u
      · simp [e]
      · simp [e]
    · rename_i hu
      split
      · rename_i hm
        have hm := memN_iff.1 hm
        rw [ih, findI_cons]
        by_cases e : t = u
        · subst e
          rw [if_pos (rfl : t = t), findI_none h1, if_neg (beqN hu), if_neg (beqN hu)]
          simp [clash, hm]
        · rw [if_neg e]
      · rename_i hm
        have hm := memN_false.1 hm
        rw [findI_cons, ih, findI_cons]
        by_cases e : t = u
        · subst e
          rw [if_pos rfl, if_pos rfl, if_neg (beqN hu)]
          simp [clash, hm]
        · rw [if_neg e, if_neg e]

theorem clash_clash {a : Nat} {f : List Nat} {o : Option Item} : clash f (clash [a] o) = clash (a :: f) o := by
  cases o with
  | none => rfl
  | some it =>
    simp only [clash]
    by_cases h : a ∈ it.names
    · simp [h, clash]
    · simp [h, clash]

theorem findI_purgeAllI_eq {t : Nat} : ∀ {f l : List (Nat × Item)}, Nodup' l → findI t (purgeAllI f l) = if t ∈ putNames f then none else clash (putNames f) (findI t l)
  | [], l, _ => by
    simp only [purgeAllI, putNames, List.not_mem_nil, if_false]
    exact (clash_id (by simp)).symm
  | (d, i) :: f, l, hn => by
    simp only [purgeAllI, putNames]
    rw [findI_purgeAllI_eq (nodup_purgeI hn), findI_purgeI_eq hn]
    by_cases h1 : t ∈ putNames f
    · simp [h1]
    · by_cases h2 : t = d
      · simp [h2]; intro _; rfl
      · simp [h1, h2, clash_clash]

theorem findI_none_iff {n : Nat} : ∀ {l : List (Nat × Item)}, findI n l = none ↔ n ∉ putNames l
  | [] => by simp [findI, putNames]
  | (u, v) :: l => by
    rw [findI_cons]
    simp only [putNames, List.mem_cons, not_or]
    by_cases h : n = u
    · simp [h]
    · rw [if_neg h, findI_none_iff (l := l)]; simp [h]

noncomputable def Delta.lookT (d : Delta) (t : Nat) (v : AV) : AV := match d.tmp with
  | some (u, x) => if t = u then x else purgeAllA d.fresh v
  | none => purgeAllA d.fresh v

noncomputable def Delta.lookI (d : Delta) (n : Nat) (o : Option Item) : Option Item := match findI n d.fresh with
  | some it => some it
  | none => match findI n d.put with
    | some it => some it
    | none => clash (putNames d.fresh) (if n ∈ d.gone then none else o)

theorem apply_T_eq (s : AS) (d : Delta) (t : Nat) : (s.apply d).T t = d.lookT t (s.T t) := by
  unfold AS.T AS.apply Delta.lookT
  cases hd : d.tmp with
  | none => exact findT_purgeAllT_eq _ _ _
  | some p =>
    obtain ⟨u, x⟩ := p
    show findT t ((u, x) :: purgeAllT d.fresh s.tmps) = _
    rw [findT_cons, findT_purgeAllT_eq]

theorem apply_I_eq {s : AS} {d : Delta} (hn : Nodup' s.items) (n : Nat) : (s.apply d).I n = d.lookI n (s.I n) := by
  unfold AS.I AS.apply Delta.lookI
  show findI n (d.fresh ++ dropAllI (putNames d.fresh) (putAllI d.put (purgeAllI d.fresh (dropAllI d.gone s.items)))) = _
  rw [findI_append]
  cases hf : findI n d.fresh with
  | some it => rfl
  | none =>
    show findI n (dropAllI (putNames d.fresh) (putAllI d.put (purgeAllI d.fresh (dropAllI d.gone s.items)))) = _
    rw [find_dropAll, if_neg (findI_none_iff.1 hf), find_putAll]
    cases hp : findI n d.put with
    | some it => rfl
    | none => 
      show findI n (purgeAllI d.fresh (dropAllI d.gone s.items)) = _
      rw [findI_purgeAllI_eq (nodup_dropAll hn), if_neg (findI_none_iff.1 hf), find_dropAll]


structure Eqv (s t : AS) : Prop where
  n : s.n = t.n
  lo : s.lo = t.lo
  T : s.T = t.T
  I : s.I = t.I

theorem Eqv.refl (s : AS) : Eqv s s := ⟨rfl, rfl, rfl, rfl⟩
theorem Eqv.symm {s t : AS} (h : Eqv s t) : Eqv t s := ⟨h.n.symm, h.lo.symm, h.T.symm, h.I.symm⟩
theorem Eqv.trans {s t u : AS} (h : Eqv s t) (h' : Eqv t u) : Eqv s u := ⟨h.n.trans h'.n, h.lo.trans h'.lo, h.T.trans h'.T, h.I.trans h'.I⟩

theorem Eqv.apply {s t : AS} (h : Eqv s t) (hs : Nodup' s.items) (ht : Nodup' t.items) (d : Delta) : Eqv (s.apply d) (t.apply d) := by
  refine ⟨h.n, h.lo, ?_, ?_⟩
  · funext u; rw [apply_T_eq, apply_T_eq, h.T]
  · funext u; rw [apply_I_eq hs, apply_I_eq ht, h.I]

theorem Sim.eqv {w0 : World} {Mu : MuT} {ρ : Rho} {s t : AS} {a : Act} {w : World} (h : Sim w0 Mu ρ s a w) (e : Eqv s t) (hn : Nodup' t.items) : Sim w0 Mu ρ t a w := by
  have hS : s.S = t.S := by unfold AS.S; rw [e.I]
  refine ⟨h.defers, hn, e.n ▸ h.size, ?_, ?_, ?_, ?_, ?_, h.mono, h.frame, by rw [← e.lo, ← hS]; exact h.pin, h.still, h.out, h.outp⟩
  · intro u; rw [← hS, ← e.T]; exact h.rel u
  · intro n it hi; rw [← hS]; rw [← e.I] at hi; exact h.hold n it hi
  · rw [← e.I]; exact h.own
  · rw [← e.I]; exact h.sep
  · rw [← e.I]; exact h.lt


theorem evAll_congr {ev ev' : Operand → AV} : ∀ {l : List Operand}, (∀ x ∈ l, ev x = ev' x) → evAll ev l = evAll ev' l
  | [], _ => rfl
  | x :: l, h => by rw [evAll, evAll, h x (.head _), evAll_congr fun y hy => h y (.tail _ hy)]

theorem evParts_congr {ev ev' : Operand → AV} : ∀ {l : List (Nat × Operand)}, (∀ x ∈ partOps l, ev x = ev' x) → evParts ev l = evParts ev' l
  | [], _ => rfl
  | (i, x) :: l, h => by
    simp only [partOps] at h
    rw [evParts, evParts, h x (.head _), evParts_congr fun y hy => h y (.tail _ hy)]

theorem opt_congr {ev ev' : Operand → AV} : ∀ {x : Option Operand}, (∀ y ∈ optL x, ev y = ev' y) → opt ev x = opt ev' x
  | none, _ => rfl
  | some x, h => by rw [opt, opt, h x (by simp [optL])]

theorem stepCore_congr {Θ : Types} {Γ : Ctx} {op : Op} {dst : Option Nat} {ev ev' : Operand → AV} {I : Nat → Option Item} (h : ∀ x ∈ opsOf op, ev x = ev' x) :
    stepCore Θ Γ op dst ev I = stepCore Θ Γ op dst ev' I := by
  cases op
  case slice t x lo hi mx =>
    simp only [opsOf, List.mem_cons, List.mem_append] at h
    simp only [stepCore]
    rw [h x (.inl rfl), opt_congr (x := lo) fun y hy => h y (.inr (.inl hy)), opt_congr (x := hi) fun y hy => h y (.inr (.inr (.inl hy))),
      opt_congr (x := mx) fun y hy => h y (.inr (.inr (.inr hy)))]
  case build t ps =>
    simp only [opsOf] at h
    simp only [stepCore]
    rw [evParts_congr h]
  case buildSlice t l ps =>
    simp only [opsOf] at h
    simp only [stepCore]
    rw [evParts_congr h]
  case call c =>
    simp only [opsOf, List.mem_append] at h
    simp only [stepCore]
    rw [evAll_congr fun y hy => h y (.inr hy)]
    split
    · rfl
    · rename_i f hf
      rw [hf] at h
      rw [h f (.inl (by simp))]
    · rfl
  all_goals first
    | rfl
    | (simp only [opsOf, List.mem_cons, List.not_mem_nil, or_false, forall_eq_or_imp, forall_eq] at h
       simp only [stepCore, h])

theorem tmpsOf_mem {t : Nat} : ∀ {l : List Operand}, .tmp t ∈ l → t ∈ tmpsOf l
  | [], h => by cases h
  | x :: l, h => by
    rcases List.mem_cons.1 h with e | h
    · subst e; exact .head _
    · have := tmpsOf_mem h
      cases x <;> first | exact .tail _ this | exact this

theorem evO_congr {T T' : Nat → AV} {l : List Operand} (h : ∀ t ∈ tmpsOf l, T t = T' t) : ∀ x ∈ l, evO T x = evO T' x := by
  intro x hx
  cases x with
  | tmp t => exact h t (tmpsOf_mem hx)
  | _ => rfl

theorem opNames_congr {ev ev' : Operand → AV} : ∀ {l : List Operand}, (∀ x ∈ l, ev x = ev' x) → opNames ev l = opNames ev' l
  | [], _ => rfl
  | x :: l, h => by rw [opNames, opNames, h x (.head _), opNames_congr fun y hy => h y (.tail _ hy)]

theorem restrict_congr {l : List Nat} {I I' : Nat → Option Item} (h : ∀ n ∈ l, I n = I' n) : restrict l I = restrict l I' := by
  funext n
  unfold restrict
  split
  · rename_i hm; exact h n (memN_iff.1 hm)
  · rfl

theorem guardOf_congr {ops : List Oper} {T T' : Nat → AV} {g : Option (Nat × Bool)} (h : ∀ t ∈ guardTmp ops g, T t = T' t) : guardOf ops T g = guardOf ops T' g := by
  unfold guardOf
  split
  · rfl
  · rename_i j want
    split
    · rename_i d hd
      rw [h d (by simp [guardTmp, hd, optL])]
    · rfl

theorem itemNames_congr {I I' : Nat → Option Item} : ∀ {l : List Nat}, (∀ n ∈ l, I n = I' n) → itemNames I l = itemNames I' l
  | [], _ => rfl
  | n :: l, h => by rw [itemNames, itemNames, h n (.head _), itemNames_congr fun y hy => h y (.tail _ hy)]

theorem clos_congr {I I' : Nat → Option Item} : ∀ (k : Nat) {l : List Nat}, (∀ n ∈ closN I k l, I n = I' n) → closN I k l = closN I' k l
  | 0, _, _ => rfl
  | k + 1, l, h => by
    have h1 : itemNames I l = itemNames I' l := itemNames_congr fun n hn => h n (clos_sub (k + 1) hn)
    show closN I k (unionN (itemNames I l) l) = closN I' k (unionN (itemNames I' l) l)
    rw [← h1]
    exact clos_congr k h

theorem opReads_congr {op : Op} {ev ev' : Operand → AV} {I I' : Nat → Option Item} (h : ∀ x ∈ opsOf op, ev x = ev' x) (hI : ∀ n ∈ opReads op ev I, I n = I' n) : opReads op ev I = opReads op ev' I' := by
  have h2 := opNames_congr h
  unfold opReads at hI ⊢
  split
  · rename_i c
    simp only at hI
    rw [clos_congr 4 hI, h2]
  · rfl
  · rfl
  · rfl
  · exact h2

theorem stepG_congr {Θ : Types} {Γ : Ctx} {ops : List Oper} {o : Oper} {s t : AS} (hn : s.n = t.n) (hlo : s.lo = t.lo)
    (hT : ∀ u ∈ tmpsOf (opsOf o.op) ++ guardTmp ops o.guard, s.T u = t.T u) (hI : ∀ n ∈ opReads o.op (evO s.T) s.I, s.I n = t.I n) :
    stepG Θ Γ ops o s = stepG Θ Γ ops o t ∧ ∀ d, logOf ops o s.T s.I d = logOf ops o t.T t.I d := by
  have h1 : ∀ x ∈ opsOf o.op, evO s.T x = evO t.T x := evO_congr fun u hu => hT u (List.mem_append.2 (.inl hu))
  have h2 : opReads o.op (evO s.T) s.I = opReads o.op (evO t.T) t.I := opReads_congr h1 hI
  have h3 : guardOf ops s.T o.guard = guardOf ops t.T o.guard := guardOf_congr fun u hu => hT u (List.mem_append.2 (.inr hu))
  have h4 : stepD Θ Γ o s.T s.I = stepD Θ Γ o t.T t.I := by
    unfold stepD
    rw [stepCore_congr h1, restrict_congr hI, h2]
  constructor
  · have h5 : stepG0 Θ Γ ops o s = stepG0 Θ Γ ops o t := by
      unfold stepG0
      have : dstOk s o = dstOk t o := by unfold dstOk; rw [hn, hlo]
      rw [this, h3, h4]
    unfold stepG
    rw [h5]
  · intro d; unfold logOf; rw [h2]


structure Lbl where
  i : Nat
  o : Oper
  d : Delta
  lg : Log

def NoM (s : AS) (f : Nat) : Prop := (∀ t, f ∉ (s.T t).names) ∧ ∀ n it, s.I n = some it → f ∉ it.names

structure SayOk (x : Lbl) : Prop where
  wt : x.lg.wt = match x.d.tmp with | some (u, _) => [u] | none => []
  writes : x.lg.writes = putNames x.d.fresh ++ (putNames x.d.put ++ x.d.gone)
  says : x.lg.says = (match x.d.tmp with | some (_, v) => v.names | none => []) ++ (putSays x.d.fresh ++ putSays x.d.put)
  fresh : x.lg.fresh = putNames x.d.fresh

theorem sayOk_of {ops : List Oper} {x : Lbl} {T : Nat → AV} {I : Nat → Option Item} (h : x.lg = logOf ops x.o T I x.d) : SayOk x := by
  constructor <;> rw [h] <;> rfl

theorem NoM.apply {s : AS} {x : Lbl} {f : Nat} (hn : Nodup' s.items) (hx : SayOk x) (h : NoM s f) (hf : f ∉ x.lg.says) : NoM (s.apply x.d) f := by
  rw [hx.says] at hf
  simp only [List.mem_append, not_or] at hf
  obtain ⟨f1, f2, f3⟩ := hf
  constructor
  · intro t
    rcases AS.apply_T s x.d t with ⟨v, h1, h2⟩ | ⟨_, h2 | ⟨h2, _⟩⟩
    · rw [h2]; rw [h1] at f1; exact f1
    · rw [h2]; simp [AV.names, SV.names, At.names]
    · rw [h2]; exact h.1 t
  · intro n it hi
    rcases AS.apply_I hn hi with h1 | ⟨_, _, h1 | ⟨_, _, h1⟩⟩
    · exact fun hm => f2 (Sim.nrm0.putSays_mem (findI_mem h1) hm)
    · exact fun hm => f3 (Sim.nrm0.putSays_mem (findI_mem h1) hm)
    · exact h.2 n it h1

theorem lookT_of_not {x : Lbl} (hx : SayOk x) {s : AS} (hf : ∀ f ∈ x.lg.fresh, NoM s f) {t : Nat} (h : t ∉ x.lg.wt) : (s.apply x.d).T t = s.T t := by
  rw [apply_T_eq]
  rw [hx.wt] at h
  have h1 : purgeAllA x.d.fresh (s.T t) = s.T t := purgeAllA_id fun f hm => (hf f (hx.fresh ▸ hm)).1 t
  unfold Delta.lookT
  split
  · rename_i u v hu
    rw [hu] at h
    rw [if_neg (by simpa using h), h1]
  · exact h1

theorem lookI_of_not {x : Lbl} (hx : SayOk x) {s : AS} (hn : Nodup' s.items) (hf : ∀ f ∈ x.lg.fresh, NoM s f) {n : Nat} (h : n ∉ x.lg.writes) : (s.apply x.d).I n = s.I n := by
  rw [apply_I_eq hn]
  rw [hx.writes] at h
  simp only [List.mem_append, not_or] at h
  unfold Delta.lookI
  rw [findI_none h.1, findI_none h.2.1]
  simp only [if_neg h.2.2]
  exact clash_id fun f hm it hi => (hf f (hx.fresh ▸ hm)).2 n it hi

theorem lookT_same {x : Lbl} (hx : SayOk x) (s t : AS) {u : Nat} (h : u ∈ x.lg.wt) : (s.apply x.d).T u = (t.apply x.d).T u := by
  rw [apply_T_eq, apply_T_eq]
  rw [hx.wt] at h
  unfold Delta.lookT
  split
  · rename_i u' v hu
    rw [hu] at h
    have : u = u' := by simpa using h
    rw [if_pos this, if_pos this]
  · rename_i hu; rw [hu] at h; cases h

theorem lookI_same {x : Lbl} (hx : SayOk x) {s t : AS} (hs : Nodup' s.items) (ht : Nodup' t.items) {n : Nat} (h : n ∈ x.lg.writes) : (s.apply x.d).I n = (t.apply x.d).I n := by
  rw [apply_I_eq hs, apply_I_eq ht]
  rw [hx.writes] at h
  simp only [List.mem_append] at h
  unfold Delta.lookI
  cases h1 : findI n x.d.fresh with
  | some it => rfl
  | none =>
    cases h2 : findI n x.d.put with
    | some it => rfl
    | none =>
      have h3 : n ∈ x.d.gone := by
        rcases h with h | h | h
        · exact absurd h (findI_none_iff.1 h1)
        · exact absurd h (findI_none_iff.1 h2)
        · exact h
      simp only [if_pos h3]

structure Apart (a b : Log) : Prop where
  wr : ∀ t ∈ a.wt, t ∉ b.rt
  rw : ∀ t ∈ b.wt, t ∉ a.rt
  ww : ∀ t ∈ a.wt, t ∉ b.wt
  iwr : ∀ n ∈ a.writes, n ∉ b.reads
  irw : ∀ n ∈ b.writes, n ∉ a.reads
  iww : ∀ n ∈ a.writes, n ∉ b.writes
  iws : ∀ n ∈ a.fresh, n ∉ b.says

theorem apartL_spec {a b : Log} (h : apartL a b = true) : Apart a b := by
  simp only [apartL, Bool.and_eq_true, disj_iff] at h
  obtain ⟨h1, h2, h3, h4, h5, h6, h7⟩ := h
  exact ⟨h1, h2, h3, h4, h5, h6, h7⟩

section
variable {P : Program} {Γ : Ctx} {Θ : Types} {ops : List Oper}

inductive LChain (P : Program) (Γ : Ctx) (Θ : Types) (ops : List Oper) : List Lbl → AS → AS → Prop
  | nil {s s' : AS} (h : Eqv s s') : LChain P Γ Θ ops [] s s'
  | cons {x : Lbl} {l : List Lbl} {s s' : AS} (h : StepOut P Γ Θ ops s x.o x.d) (hl : x.lg = logOf ops x.o s.T s.I x.d) (r : LChain P Γ Θ ops l (s.apply x.d) s') : LChain P Γ Θ ops (x :: l) s s'

def FreshNd (x : Lbl) : Prop := Nodup' x.d.fresh

theorem Eqv.step {s t : AS} (e : Eqv s t) (o : Oper) : stepG Θ Γ ops o s = stepG Θ Γ ops o t ∧ ∀ d, logOf ops o s.T s.I d = logOf ops o t.T t.I d :=
  stepG_congr e.n e.lo (fun u _ => by rw [e.T]) (fun n _ => by rw [e.I])

theorem LChain.eqv {l : List Lbl} {s s' : AS} (h : LChain P Γ Θ ops l s s') : ∀ {t : AS}, (∀ x ∈ l, FreshNd x) → Nodup' s.items → Nodup' t.items → Eqv s t → LChain P Γ Θ ops l t s' := by
  induction h with
  | nil h => intro t _ _ _ e; exact .nil (e.symm.trans h)
  | @cons x l s s' h hl r ih =>
    intro t hf hs ht e
    obtain ⟨e1, e2⟩ := e.step (Θ := Θ) (Γ := Γ) (ops := ops) x.o
    refine .cons (by unfold StepOut at h ⊢; rw [← e1]; exact h) (by rw [hl]; exact e2 _) ?_
    exact ih (fun y hy => hf y (.tail _ hy)) (AS.apply_nd hs (hf x (.head _))) (AS.apply_nd ht (hf x (.head _))) (e.apply hs ht x.d)

def Pair (x y : Lbl) : Prop := ∀ f ∈ y.lg.fresh, f ∉ x.lg.says

theorem LChain.swap {x y : Lbl} {l : List Lbl} {s s' : AS} (hs : Nodup' s.items) (hfd : ∀ z ∈ x :: y :: l, FreshNd z) (hx : ∀ f ∈ x.lg.fresh, NoM s f) (hy : ∀ f ∈ y.lg.fresh, NoM s f)
    (hp : Pair x y) (ha : Apart x.lg y.lg) (h : LChain P Γ Θ ops (x :: y :: l) s s') : LChain P Γ Θ ops (y :: x :: l) s s' := by
  cases h with
  | cons h1 hl1 r =>
    cases r with
    | cons h2 hl2 r =>
      have sx := sayOk_of hl1
      have sy := sayOk_of hl2
      have fx := hfd x (.head _)
      have fy := hfd y (.tail _ (.head _))
      
      have rty : y.lg.rt = tmpsOf (opsOf y.o.op) ++ guardTmp ops y.o.guard := by rw [hl2]; rfl
      have rdy : y.lg.reads = opReads y.o.op (evO (s.apply x.d).T) (s.apply x.d).I := by rw [hl2]; rfl
      have rtx : x.lg.rt = tmpsOf (opsOf x.o.op) ++ guardTmp ops x.o.guard := by rw [hl1]; rfl
      have rdx : x.lg.reads = opReads x.o.op (evO s.T) s.I := by rw [hl1]; rfl
      obtain ⟨c1, c2⟩ := stepG_congr (Θ := Θ) (Γ := Γ) (ops := ops) (o := y.o) (s := s.apply x.d) (t := s) rfl rfl
        (fun u hu => lookT_of_not sx hx fun hw => ha.wr u hw (rty ▸ hu))
        (fun n hn => lookI_of_not sx hs hx fun hw => ha.iwr n hw (rdy ▸ hn))
      obtain ⟨d1, d2⟩ := stepG_congr (Θ := Θ) (Γ := Γ) (ops := ops) (o := x.o) (s := s) (t := s.apply y.d) rfl rfl
        (fun u hu => (lookT_of_not sy hy fun hw => ha.rw u hw (rtx ▸ hu)).symm)
        (fun n hn => (lookI_of_not sy hs hy fun hw => ha.irw n hw (rdx ▸ hn)).symm)
      have n1 := AS.apply_nd hs fx
      have n2 := AS.apply_nd hs fy
      have n12 := AS.apply_nd n1 fy
      have n21 := AS.apply_nd n2 fx
      have fxy : ∀ f ∈ x.lg.fresh, f ∉ y.lg.says := fun f hf => ha.iws f hf
      have hy' : ∀ f ∈ y.lg.fresh, NoM (s.apply x.d) f := fun f hf => (hy f hf).apply hs sx (hp f hf)
      have hx' : ∀ f ∈ x.lg.fresh, NoM (s.apply y.d) f := fun f hf => (hx f hf).apply hs sy (fxy f hf)
      refine .cons (by unfold StepOut at h2 ⊢; rw [← c1]; exact h2) (by rw [hl2]; exact c2 _) (.cons (by unfold StepOut at h1 ⊢; rw [← d1]; exact h1) (by rw [hl1]; exact d2 _) ?_)
      refine r.eqv (fun z hz => hfd z (.tail _ (.tail _ hz))) n12 n21 ⟨rfl, rfl, ?_, ?_⟩
      · funext u
        by_cases ux : u ∈ x.lg.wt
        · rw [lookT_of_not sy hy' (ha.ww u ux)]; exact lookT_same sx _ _ ux
        · rw [lookT_of_not sx hx' ux]
          by_cases uy : u ∈ y.lg.wt
          · exact lookT_same sy _ _ uy
          · rw [lookT_of_not sy hy' uy, lookT_of_not sx hx ux, lookT_of_not sy hy uy]
      · funext u
        by_cases ux : u ∈ x.lg.writes
        · rw [lookI_of_not sy n1 hy' (ha.iww u ux)]; exact lookI_same sx hs n2 ux
        · rw [lookI_of_not sx n2 hx' ux]
          by_cases uy : u ∈ y.lg.writes
          · exact lookI_same sy n1 hs uy
          · rw [lookI_of_not sy n1 hy' uy, lookI_of_not sx hs hx ux, lookI_of_not sy hs hy uy]

theorem LChain.front {x : Lbl} {l2 : List Lbl} {s' : AS} : ∀ {l1 : List Lbl} {s : AS}, Nodup' s.items → (∀ z ∈ l1 ++ x :: l2, FreshNd z) → (∀ z ∈ l1 ++ x :: l2, ∀ f ∈ z.lg.fresh, NoM s f) →
    (l1 ++ x :: l2).Pairwise Pair → (∀ y ∈ l1, Apart y.lg x.lg) → LChain P Γ Θ ops (l1 ++ x :: l2) s s' → LChain P Γ Θ ops (x :: (l1 ++ l2)) s s'
  | [], s, _, _, _, _, _, h => h
  | y :: l1, s, hs, hfd, hno, hpw, hap, h => by
    cases h with
    | cons h1 hl1 r =>
      have sy := sayOk_of hl1
      simp only [List.cons_append, List.pairwise_cons] at hpw
      have hr := LChain.front (l1 := l1) (s := s.apply y.d) (AS.apply_nd hs (hfd y (.head _))) (fun z hz => hfd z (.tail _ hz))
        (fun z hz f hf => (hno z (.tail _ hz) f hf).apply hs sy (hpw.1 z hz f hf)) hpw.2 (fun z hz => hap z (.tail _ hz)) r
      have hxm : x ∈ l1 ++ x :: l2 := by simp
      refine LChain.swap hs ?_ (hno y (.head _)) (hno x (.tail _ hxm)) (hpw.1 x hxm) (hap y (.head _)) (.cons h1 hl1 hr)
      intro z hz
      apply hfd z
      have hz : z ∈ y :: x :: (l1 ++ l2) := hz
      simp only [List.cons_append, List.mem_cons, List.mem_append] at hz ⊢
      rcases hz with h | h | h | h
      · exact .inl h
      · exact .inr (.inr (.inl h))
      · exact .inr (.inl h)
      · exact .inr (.inr (.inr h))

end


section
variable {P : Program} {Γ : Ctx} {Θ : Types}

structure LsOk (ops : Array Oper) (anc : Nat → List Nat) (rem : List Lbl) (listed : Array Bool) : Prop where
  size : listed.size = ops.size
  idx : ∀ x ∈ rem, ops[x.i]? = some x.o
  lst : ∀ i, i < ops.size → (listed.getD i true = false ↔ ∃ x ∈ rem, x.i = i)
  inc : rem.Pairwise fun x y => x.i < y.i
  pair : rem.Pairwise fun x y => Pair x y ∧ (x.i ∈ anc y.i ∨ Apart x.lg y.lg)
  closed : ∀ i, i < ops.size → (∀ x ∈ rem, x.i ≠ i) → ∀ j ∈ anc i, ∀ x ∈ rem, x.i ≠ j
  edges : ∀ i o, ops[i]? = some o → ∀ e ∈ o.after.toList, Region.binds .any e = true → e.on < i ∧ e.on ∈ anc i
  anc : ∀ i o, ops[i]? = some o → ∀ j ∈ anc i, ∃ e ∈ o.after.toList, Region.binds .any e = true ∧ (j = e.on ∨ j ∈ anc e.on)

theorem mem_ready {ops : Array Oper} {listed : Array Bool} {i : Nat} : i ∈ Region.ready .any ops listed ↔ i < ops.size ∧ listed.getD i true = false ∧ ∃ o, ops[i]? = some o ∧ ∀ e ∈ o.after.toList, Region.binds .any e = true → listed.getD e.on false = true := by
  unfold Region.ready
  simp only [List.mem_filter, List.mem_range, Bool.and_eq_true, Bool.not_eq_true']
  constructor
  · rintro ⟨h1, h2, h3⟩
    refine ⟨h1, h2, ops[i], Array.getElem?_eq_getElem h1, ?_⟩
    rw [Array.getElem?_eq_getElem h1] at h3
    simp only [Option.map_some, Option.getD_some] at h3
    rw [← Array.all_toList] at h3
    intro e he hb
    have := List.all_eq_true.1 h3 e he
    simpa [hb] using this
  · rintro ⟨h1, h2, o, h3, h4⟩
    refine ⟨h1, h2, ?_⟩
    rw [h3]
    simp only [Option.map_some, Option.getD_some]
    rw [← Array.all_toList]
    refine List.all_eq_true.2 fun e he => ?_
    cases hb : Region.binds .any e with
    | false => simp
    | true => simpa using h4 e he hb

theorem any_ops (hΘ : TypesOk P Θ) (hΓ : CtxOk P Γ) {ops : Array Oper} {anc : Nat → List Nat} {s' : AS} (hs' : Nodup' s'.items) :
    ∀ (fuel : Nat) (rem : List Lbl) (listed : Array Bool) (s : AS), rem.length = fuel → LsOk ops anc rem listed → LChain P Γ Θ ops.toList rem s s' → (∀ x ∈ rem, FreshNd x) →
      (∀ x ∈ rem, ∀ f ∈ x.lg.fresh, NoM s f) → dstsOk s.n ops.toList = true → ∀ {w0 Mu ρ a w} {Q : Exit → Act → World → Prop}, Sim w0 Mu ρ s a w → (∀ a' w' ρ', Sim w0 Mu ρ' s' a' w' → Q .normal a' w') →
      wpAny P .any ops Q fuel listed a w := by
  intro fuel
  induction fuel with
  | zero =>
    intro rem listed s hlen hls hch _ _ _ w0 Mu ρ a w Q hs hQ
    have : rem = [] := List.eq_nil_of_length_eq_zero hlen
    subst this
    cases hch with
    | nil e =>
      refine ⟨?_, hQ _ _ ρ (hs.eqv e hs')⟩
      cases hr : Region.ready .any ops listed with
      | nil => rfl
      | cons i l =>
        have hi : i ∈ Region.ready .any ops listed := by rw [hr]; exact .head _
        obtain ⟨h1, h2, _⟩ := mem_ready.1 hi
        obtain ⟨x, hx, _⟩ := (hls.lst i h1).1 h2
        cases hx
  | succ fuel ih =>
    intro rem listed s hlen hls hch hfd hno hok w0 Mu ρ a w Q hs hQ
    have hnl : ∀ j, listed.getD j false = true → ∀ z ∈ rem, z.i ≠ j := by
      intro j hj z hz e
      subst e
      have hlt : z.i < ops.size := by
        have := hls.idx z hz
        by_cases h : z.i < ops.size
        · exact h
        · rw [Array.getElem?_eq_none (by omega)] at this; cases this
      have h2 := (hls.lst z.i hlt).2 ⟨z, hz, rfl⟩
      rw [Array.getD_eq_getD_getElem?, Array.getElem?_eq_getElem (by rw [hls.size]; exact hlt)] at hj h2
      simp only [Option.getD_some] at hj h2
      rw [hj] at h2; cases h2
    constructor
    · intro hr
      exfalso
      cases rem with
      | nil => simp at hlen
      | cons x0 rest =>
        have hx := hls.idx x0 (.head _)
        have hlt : x0.i < ops.size := by
          by_cases h : x0.i < ops.size
          · exact h
          · rw [Array.getElem?_eq_none (by omega)] at hx; cases hx
        have : x0.i ∈ Region.ready .any ops listed := by
          refine mem_ready.2 ⟨hlt, (hls.lst _ hlt).2 ⟨x0, .head _, rfl⟩, x0.o, hx, fun e he hb => ?_⟩
          obtain ⟨e1, _⟩ := hls.edges _ _ hx e he hb
          have hlt2 : e.on < ops.size := by omega
          by_cases hg : listed.getD e.on false = true
          · exact hg
          · exfalso
            have hg' : listed.getD e.on true = false := by
              rw [Array.getD_eq_getD_getElem?, Array.getElem?_eq_getElem (by rw [hls.size]; exact hlt2)] at hg ⊢
              simpa using hg
            obtain ⟨z, hz, hzi⟩ := (hls.lst _ hlt2).1 hg'
            have hinc := hls.inc
            rw [List.pairwise_cons] at hinc
            rcases List.mem_cons.1 hz with e2 | hz
            · subst e2; omega
            · have := hinc.1 z hz; omega
        rw [hr] at this; cases this
    · intro i hi
      obtain ⟨hlt, hl, o, ho, hedge⟩ := mem_ready.1 hi
      obtain ⟨x, hx, rfl⟩ := (hls.lst i hlt).1 hl
      have hxo := hls.idx x hx
      have hoe : o = x.o := by rw [ho] at hxo; injection hxo
      subst hoe
      have hancx : ∀ k ∈ anc x.i, ∀ z ∈ rem, z.i ≠ k := by
        intro k hk z hz
        obtain ⟨e, he, hb, h1⟩ := hls.anc _ _ ho k hk
        have hlis := hnl _ (hedge e he hb)
        rcases h1 with rfl | h1
        · exact hlis z hz
        · have hlt2 := (hls.edges _ _ ho e he hb).1
          exact hls.closed e.on (by omega) hlis k h1 z hz
      obtain ⟨l1, l2, rfl⟩ := List.append_of_mem hx
      have hpair := hls.pair
      have hinc := hls.inc
      rw [List.pairwise_append] at hpair hinc
      have hap : ∀ y ∈ l1, Apart y.lg x.lg := by
        intro y hy
        rcases (hpair.2.2 y hy x (.head _)).2 with h | h
        · exact absurd rfl (hancx _ h y (List.mem_append.2 (.inl hy)))
        · exact h
      have hpw : (l1 ++ x :: l2).Pairwise Pair := hls.pair.imp fun h => h.1
      have hne : ∀ z ∈ l1 ++ l2, z.i ≠ x.i := by
        intro z hz
        rcases List.mem_append.1 hz with hz | hz
        · have := hinc.2.2 z hz x (.head _); omega
        · have := (List.pairwise_cons.1 hinc.2.1).1 z hz; omega
      have hsub : (l1 ++ l2).Sublist (l1 ++ x :: l2) := List.Sublist.append (List.Sublist.refl _) (List.sublist_cons_self _ _)
      have hmem : ∀ z ∈ l1 ++ l2, z ∈ l1 ++ x :: l2 := fun z hz => hsub.subset hz
      have hfr := LChain.front hs.nd hfd hno hpw hap hch
      cases hfr with
      | cons h1 hl1 r =>
        have sx := sayOk_of hl1
        unfold wpOp
        simp only [ho]
        have hstep := stepG_sound hΘ hΓ hok h1 w0 Mu ρ a w Q (wpAny P .any ops Q fuel (listed.setIfInBounds x.i true)) hs (fun a' w' ρ' hs'' => by
          refine ih (l1 ++ l2) _ (s.apply x.d) ?_ ?_ r (fun z hz => hfd z (hmem z hz)) ?_ hok hs'' hQ
          · simp only [List.length_append, List.length_cons] at hlen ⊢; omega
          · refine ⟨by simp [hls.size], fun z hz => hls.idx z (hmem z hz), ?_, hls.inc.sublist hsub, hls.pair.sublist hsub, ?_, hls.edges, hls.anc⟩
            · intro j hj
              rw [Array.getD_eq_getD_getElem?, Array.getElem?_setIfInBounds]
              by_cases e : x.i = j
              · subst e
                rw [if_pos rfl, if_pos (by rw [hls.size]; exact hj)]
                simp only [Option.getD_some]
                constructor
                · intro h; cases h
                · rintro ⟨z, hz, e⟩; exact absurd e (hne z hz)
              · rw [if_neg e, ← Array.getD_eq_getD_getElem?, hls.lst j hj]
                constructor
                · rintro ⟨z, hz, rfl⟩
                  refine ⟨z, ?_, rfl⟩
                  simp only [List.mem_append, List.mem_cons] at hz ⊢
                  rcases hz with h | h | h
                  · exact .inl h
                  · subst h; exact absurd rfl e
                  · exact .inr h
                · rintro ⟨z, hz, rfl⟩; exact ⟨z, hmem z hz, rfl⟩
            · intro j hj hnj k hk z hz
              by_cases e : j = x.i
              · subst e; exact hancx k hk z (hmem z hz)
              · refine hls.closed j hj ?_ k hk z (hmem z hz)
                intro z' hz' e'
                simp only [List.mem_append, List.mem_cons] at hz'
                rcases hz' with h | h | h
                · exact hnj z' (List.mem_append.2 (.inl h)) e'
                · subst h; exact e e'.symm
                · exact hnj z' (List.mem_append.2 (.inr h)) e'
          · intro z hz f hf
            refine (hno z (hmem z hz) f hf).apply hs.nd sx ?_
            rcases List.mem_append.1 hz with h | h
            · exact (hap z h).iws f hf
            · exact (List.pairwise_cons.1 hpair.2.1).1 z h |>.1 f hf)
        split at hstep
        · rename_i hw; rw [if_pos hw]; exact .inl hstep
        · rename_i hw; rw [if_neg hw]; exact hstep

end

end Go.Eng

namespace Go.Eng
open Go

section
variable {P : Program} {Γ : Ctx} {Θ : Types}

theorem snoc_eq {α : Type} (l : List α) (a : α) : snoc l a = l ++ [a] := by
  induction l with
  | nil => rfl
  | cons b l ih => simp [snoc, ih]

structure LblOk (ops : List Oper) (B : List Nat) (i : Nat) (l : List Oper) (ancs az : List (List Nat)) (logs : List Log) (rem : List Lbl) (j : Nat) (x : Lbl) : Prop where
  idx : x.i = i + j
  op : l[j]? = some x.o
  nd : FreshNd x
  base : ∀ f ∈ x.lg.fresh, f ∉ B
  anc : az[j]? = some (ancOf (ancs ++ az.take j) x.o.after.toList)
  back : edgesBack (i + j) x.o.after.toList = true
  apart : apartAll (ancOf (ancs ++ az.take j) x.o.after.toList) x.lg 0 (logs ++ (rem.take j).map (·.lg)) = true

theorem runDraw_spec {R : Type} (hΓ : CtxOk P Γ) {ops : List Oper} {B : List Nat} : ∀ (l : List Oper) (i : Nat) (ancs : List (List Nat)) (logs : List Log) (s : AS) (k : AS → Option R) (r : R), runDraw Θ Γ ops B l i ancs logs s k = some r →
    ∃ (rem : List Lbl) (az : List (List Nat)) (s' : AS), k s' = some r ∧ (Nodup' s.items → Nodup' s'.items) ∧ LChain P Γ Θ ops rem s s' ∧ rem.length = l.length ∧ az.length = l.length ∧ ∀ j x, rem[j]? = some x → LblOk ops B i l ancs az logs rem j x
  | [], i, ancs, logs, s, k, r, h => by
    simp only [runDraw] at h
    exact ⟨[], [], s, h, id, .nil (.refl s), rfl, rfl, by simp⟩
  | o :: l, i, ancs, logs, s, k, r, h => by
    simp only [runDraw] at h
    obtain ⟨d, h1, h2⟩ := D.run_out hΓ _ _ _ h
    split at h2
    · rename_i hb
      simp only [Bool.and_eq_true, disj_iff] at hb
      obtain ⟨b1, b2, b3, b4⟩ := hb
      obtain ⟨rem, az, s', g1, g2, g3, g4, g5, g6⟩ := runDraw_spec hΓ l _ _ _ _ k r h2
      have hfd : Nodup' d.fresh := nodup'_of (nodupN_iff.1 b2)
      refine ⟨⟨i, o, d, logOf ops o s.T s.I d⟩ :: rem, ancOf ancs o.after.toList :: az, s', g1, fun hn => g2 (AS.apply_nd hn hfd), .cons h1 rfl g3, by simp [g4], by simp [g5], ?_⟩
      intro j x hj
      cases j with
      | zero =>
        simp only [List.getElem?_cons_zero, Option.some.injEq] at hj
        subst hj
        exact ⟨rfl, rfl, hfd, b3, by simp, b1, by simpa using b4⟩
      | succ j =>
        simp only [List.getElem?_cons_succ] at hj
        have := g6 j x hj
        rw [snoc_eq, snoc_eq] at this
        exact ⟨by rw [this.idx]; omega, by simpa using this.op, this.nd, this.base, by simpa using this.anc, by have := this.back; rwa [show i + (j + 1) = i + 1 + j by omega], by simpa using this.apart⟩
    · cases h2

theorem edgesBack_spec {i : Nat} : ∀ {l : List Edge}, edgesBack i l = true → ∀ e ∈ l, Region.binds .any e = true → e.on < i
  | [], _, e, he, _ => by cases he
  | a :: l, h, e, he, hb => by
    simp only [edgesBack, Bool.and_eq_true] at h
    rcases List.mem_cons.1 he with e1 | he
    · subst e1
      rw [hb] at h
      have := ble_iff.1 (show Nat.ble (e.on + 1) i = true from h.1)
      omega
    · exact edgesBack_spec h.2 e he hb

theorem ancOf_on {ancs : List (List Nat)} : ∀ {l : List Edge} {e : Edge}, e ∈ l → Region.binds .any e = true → e.on ∈ ancOf ancs l
  | [], e, he, _ => by cases he
  | a :: l, e, he, hb => by
    rcases List.mem_cons.1 he with e1 | he
    · subst e1
      simp only [ancOf, hb]; exact mem_unionN.2 (.inl (.head _))
    · have := ancOf_on (ancs := ancs) he hb
      simp only [ancOf]
      split
      · exact mem_unionN.2 (.inr this)
      · exact this

theorem ancOf_of {ancs : List (List Nat)} {j : Nat} : ∀ {l : List Edge}, j ∈ ancOf ancs l → ∃ e ∈ l, Region.binds .any e = true ∧ (j = e.on ∨ j ∈ ancs.getD e.on [])
  | [], h => by cases h
  | a :: l, h => by
    simp only [ancOf] at h
    split at h
    · rename_i hb
      rcases mem_unionN.1 h with h | h
      · rcases List.mem_cons.1 h with e | h
        · exact ⟨a, .head _, hb, .inl e⟩
        · exact ⟨a, .head _, hb, .inr h⟩
      · obtain ⟨e, he, h⟩ := ancOf_of h
        exact ⟨e, .tail _ he, h⟩
    · obtain ⟨e, he, h⟩ := ancOf_of h
      exact ⟨e, .tail _ he, h⟩

theorem apartAll_spec {anc : List Nat} {lg : Log} : ∀ {l : List Log} {i : Nat}, apartAll anc lg i l = true → ∀ j lg', l[j]? = some lg' → (∀ f ∈ lg.fresh, f ∉ lg'.says) ∧ (i + j ∈ anc ∨ Apart lg' lg)
  | [], i, _, j, lg', h => by simp at h
  | a :: l, i, h, j, lg', hj => by
    simp only [apartAll, Bool.and_eq_true, disj_iff, Bool.or_eq_true] at h
    cases j with
    | zero =>
      simp only [List.getElem?_cons_zero, Option.some.injEq] at hj
      subst hj
      refine ⟨h.1, ?_⟩
      rcases h.2.1 with h | h
      · exact .inl (memN_iff.1 h)
      · exact .inr (apartL_spec h)
    | succ j =>
      have := apartAll_spec h.2.2 j lg' (by simpa using hj)
      rwa [show i + (j + 1) = i + 1 + j by omega]

theorem namesT_find {t : Nat} {l : List (Nat × AV)} {n : Nat} (h : n ∈ (findT t l).names) : n ∈ namesT l := by
  rcases findT_mem (t := t) (l := l) with e | hm
  · rw [e] at h; simp [AV.names, SV.names, At.names] at h
  · revert hm h
    generalize findT t l = v
    intro h hm
    induction l with
    | nil => cases hm
    | cons x l ih =>
      obtain ⟨u, v'⟩ := x
      simp only [namesT]
      rcases List.mem_cons.1 hm with e | hm
      · injection e with e1 e2; subst e2; exact List.mem_append.2 (.inl h)
      · exact List.mem_append.2 (.inr (ih hm))

theorem draw_reaches (hΘ : TypesOk P Θ) (hΓ : CtxOk P Γ) (hm : P.follows .mixedOrders = true) {R : Type} {id : Nat} {ops : Array Oper} {s : AS} {k : AS → Option R} {r : R} (hok : dstsOk s.n ops.toList = true)
    (h : runDraw Θ Γ ops.toList (namesT s.tmps ++ putSays s.items) ops.toList 0 [] [] s k = some r) : ∃ s', k s' = some r ∧ Reaches P (.region id ops true) s .normal s' := by
  obtain ⟨rem, az, s', g1, g2, g3, g4, g5, g6⟩ := runDraw_spec hΓ _ _ _ _ _ _ _ h
  refine ⟨s', g1, fun w0 Mu ρ a w Q hs hQ => ?_⟩
  refine wp_region_any hm ?_
  have hs2 : Sim w0 Mu ρ s a { w with drawn := w.drawn + 1 } := by
    refine ⟨hs.defers, hs.nd, hs.size, hs.rel, ?_, hs.own, hs.sep, hs.lt, hs.mono, hs.frame, hs.pin, hs.still, hs.out, hs.outp⟩
    intro n it hi
    exact (hs.hold n it hi).frame ⟨rfl, rfl⟩ (fun m _ => ⟨rfl, rfl, .inl rfl⟩) (fun _ _ => rfl) (fun b hb => ⟨hb, rfl⟩)
  have hsz : ops.size = rem.length := by rw [g4]; simp
  have hget : ∀ x ∈ rem, ∃ j, rem[j]? = some x ∧ LblOk ops.toList (namesT s.tmps ++ putSays s.items) 0 ops.toList [] az [] rem j x := by
    intro x hx
    obtain ⟨j, hj⟩ := List.getElem?_of_mem hx
    exact ⟨j, hj, g6 j x hj⟩
  have hanc : ∀ i o, ops[i]? = some o → az.getD i [] = ancOf (az.take i) o.after.toList ∧ edgesBack i o.after.toList = true := by
    intro i o ho
    have hlt : i < rem.length := by
      rw [← hsz]
      by_cases h : i < ops.size
      · exact h
      · rw [Array.getElem?_eq_none (by omega)] at ho; cases ho
    have hL := g6 i _ (List.getElem?_eq_getElem hlt)
    have h1 := hL.op
    have : rem[i].o = o := by
      rw [Array.getElem?_toList, ho] at h1; injection h1 with h1; exact h1.symm
    have h2 := hL.anc
    have h3 := hL.back
    rw [this] at h2 h3
    simp only [List.nil_append] at h2
    refine ⟨by rw [List.getD_eq_getElem?_getD, h2]; rfl, by simpa using h3⟩
  refine any_ops hΘ hΓ (anc := fun i => az.getD i []) (g2 hs.nd) ops.size rem _ s (by omega) ?_ g3 ?_ ?_ hok hs2 hQ
  · refine ⟨by simp, ?_, ?_, ?_, ?_, ?_, ?_, ?_⟩
    · intro x hx
      obtain ⟨j, hj, hL⟩ := hget x hx
      have := hL.op
      rw [hL.idx, Nat.zero_add]
      simpa using this
    · intro i hi
      rw [Array.getD_eq_getD_getElem?, Array.getElem?_replicate, if_pos hi]
      simp only [Option.getD_some, true_iff]
      have hlt : i < rem.length := by omega
      exact ⟨rem[i], List.getElem_mem hlt, by rw [(g6 i _ (List.getElem?_eq_getElem hlt)).idx]; omega⟩
    · rw [List.pairwise_iff_getElem]
      intro i j hi hj hij
      rw [(g6 i _ (List.getElem?_eq_getElem hi)).idx, (g6 j _ (List.getElem?_eq_getElem hj)).idx]; omega
    · rw [List.pairwise_iff_getElem]
      intro i j hi hj hij
      have hL := g6 j _ (List.getElem?_eq_getElem hj)
      have hg : (([] : List Log) ++ (rem.take j).map (·.lg))[i]? = some rem[i].lg := by
        rw [List.nil_append, List.getElem?_map, List.getElem?_take, if_pos hij, List.getElem?_eq_getElem hi]; rfl
      obtain ⟨p1, p2⟩ := apartAll_spec hL.apart i _ hg
      refine ⟨p1, ?_⟩
      rcases p2 with p2 | p2
      · left
        rw [hL.idx, (g6 i _ (List.getElem?_eq_getElem hi)).idx]
        simp only [Nat.zero_add] at p2 ⊢
        rw [List.getD_eq_getElem?_getD, hL.anc]
        exact p2
      · exact .inr p2
    · intro i hi hne
      have hlt : i < rem.length := by omega
      exact absurd (by rw [(g6 i _ (List.getElem?_eq_getElem hlt)).idx]; omega) (hne rem[i] (List.getElem_mem hlt))
    · intro i o ho e he hb
      obtain ⟨h1, h2⟩ := hanc i o ho
      exact ⟨edgesBack_spec h2 e he hb, by rw [h1]; exact ancOf_on he hb⟩
    · intro i o ho j hj
      obtain ⟨h1, h2⟩ := hanc i o ho
      rw [h1] at hj
      obtain ⟨e, he, hb, h3⟩ := ancOf_of hj
      refine ⟨e, he, hb, ?_⟩
      rcases h3 with h3 | h3
      · exact .inl h3
      · right
        have hlt := edgesBack_spec h2 e he hb
        rw [List.getD_eq_getElem?_getD, List.getElem?_take, if_pos hlt] at h3
        rw [List.getD_eq_getElem?_getD]; exact h3
  · intro x hx
    obtain ⟨j, _, hL⟩ := hget x hx
    exact hL.nd
  · intro x hx f hf
    obtain ⟨j, _, hL⟩ := hget x hx
    have := hL.base f hf
    simp only [List.mem_append, not_or] at this
    exact ⟨fun t hm => this.1 (namesT_find hm), fun n it hi hm => this.2 (Sim.nrm0.putSays_mem (findI_mem hi) hm)⟩

end

end Go.Eng

namespace Go.Eng
open Go

section
variable {P : Program}

def X.out : X → Exit
  | .normal => .normal
  | .exit i => .exit i
  | .ret => .ret

theorem reaches_iff {c : Code} {s s' : AS} {e : X} : Reaches P c s e s' ↔ ∀ w0 Mu ρ a w (Q : Exit → Act → World → Prop), Sim w0 Mu ρ s a w → (∀ a' w' ρ', Sim w0 Mu ρ' s' a' w' → Q e.out a' w') → c.wp P Q a w := by
  unfold Reaches
  constructor <;> intro h w0 Mu ρ a w Q hs hQ <;> exact h w0 Mu ρ a w Q hs (fun a' w' ρ' hs' => by cases e <;> exact hQ a' w' ρ' hs')

inductive Rounds (P : Program) (ν : Nrm) (c : Code) : AS → X → AS → Prop
  | last {s s' : AS} {e : X} (h : Reaches P c s e s') (he : e ≠ .normal) : Rounds P ν c s e s'
  | more {s s1 s2 s' : AS} {e : X} (h : Reaches P c s .normal s1) (hn : nrm ν s1 = some s2) (r : Rounds P ν c s2 e s') : Rounds P ν c s e s'

theorem rounds_wp {ν : Nrm} {c : Code} {s s' : AS} {e : X} (h : Rounds P ν c s e s') : e ≠ .normal ∧ ∃ n, ∀ w0 Mu ρ a w (Q : Exit → Act → World → Prop), Sim w0 Mu ρ s a w → (∀ a' w' ρ', Sim w0 Mu ρ' s' a' w' → Q e.out a' w') → Code.rounds P c Q n a w := by
  induction h with
  | @last s s' e h he =>
    refine ⟨he, 1, fun w0 Mu ρ a w Q hs hQ => ?_⟩
    refine reaches_iff.1 h w0 Mu ρ a w _ hs fun a' w' ρ' hs' => ?_
    cases e with
    | normal => exact absurd rfl he
    | exit i => exact hQ a' w' ρ' hs'
    | ret => exact hQ a' w' ρ' hs'
  | @more s s1 s2 s' e h hn r ih =>
    obtain ⟨he, n, ih⟩ := ih
    refine ⟨he, n + 1, fun w0 Mu ρ a w Q hs hQ => ?_⟩
    refine reaches_iff.1 h w0 Mu ρ a w _ hs fun a' w' ρ' hs' => ?_
    obtain ⟨ρ2, hs2⟩ := hs'.nrm hn
    exact ih w0 Mu ρ2 a' w' Q hs2 hQ

theorem iter_rounds {R : Type} {ν : Nrm} {c : Code} {body : AS → (X → AS → Option R) → Option R} {id : Nat} {k : X → AS → Option R}
    (hb : ∀ (s : AS) (k : X → AS → Option R) (r : R), body s k = some r → ∃ e s', k e s' = some r ∧ Reaches P c s e s') :
    ∀ (n : Nat) (s : AS) (r : R), iter ν body id k n s = some r → ∃ e s', (match e with | .exit i => (match Nat.beq i id with | true => k .normal s' | false => k (.exit i) s') | .ret => k .ret s' | .normal => none) = some r ∧ Rounds P ν c s e s'
  | 0, s, r, h => by simp [iter] at h
  | n + 1, s, r, h => by
    simp only [iter] at h
    obtain ⟨e, s', h1, h2⟩ := hb _ _ _ h
    cases e with
    | normal =>
      simp only at h1
      split at h1
      · rename_i s'' hn
        obtain ⟨e, t, h3, h4⟩ := iter_rounds hb n s'' r h1
        exact ⟨e, t, h3, .more h2 hn h4⟩
      · cases h1
    | exit i => exact ⟨.exit i, s', h1, .last h2 (by simp)⟩
    | ret => exact ⟨.ret, s', h1, .last h2 (by simp)⟩

def Sound1 (P : Program) (E : Env) (R : Type) (c : Code) : Prop := ∀ (s : AS) (k : X → AS → Option R) (r : R), exec E c s k = some r → ∃ e s', k e s' = some r ∧ Reaches P c s e s'

def LoopOk (P : Program) (L : LoopFn) (id : Nat) (body : Code) : Prop := ∀ (R : Type) (s : AS) (k : X → AS → Option R) (r : R), L R s k = some r → ∃ e s', k e s' = some r ∧ Reaches P (.block id (.loop body)) s e s'

def LoopsOk (P : Program) (lp : List (Nat × LoopFn)) (c : Code) : Prop := ∀ p ∈ loopsIn c, ∀ L, findL p.1 lp = some L → LoopOk P L p.1 p.2

theorem exec_sound {E : Env} (hΘ : TypesOk P E.Θ) (hΓ : CtxOk P E.Γ) (hm : P.follows .mixedOrders = true) {R : Type} :
    ∀ (c : Code), LoopsOk P E.lp c → Sound1 P E R c ∧ ∀ b, c = .loop b → Sound1 P E R b := by
  intro c
  induction c with
  | skip =>
    intro _
    refine ⟨?_, fun b hb => by cases hb⟩
    intro s k r h
    simp only [exec] at h
    exact ⟨.normal, s, h, fun w0 Mu ρ a w Q hs hQ => wp_skip (hQ a w ρ hs)⟩
  | exit id =>
    intro _
    refine ⟨?_, fun b hb => by cases hb⟩
    intro s k r h
    simp only [exec] at h
    exact ⟨.exit id, s, h, fun w0 Mu ρ a w Q hs hQ => wp_exit (hQ a w ρ hs)⟩
  | ret =>
    intro _
    refine ⟨?_, fun b hb => by cases hb⟩
    intro s k r h
    simp only [exec] at h
    exact ⟨.ret, s, h, fun w0 Mu ρ a w Q hs hQ => wp_ret (hQ a w ρ hs)⟩
  | region id ops d =>
    intro _
    refine ⟨?_, fun b hb => by cases hb⟩
    intro s k r h
    simp only [exec] at h
    split at h
    · cases h
    · rename_i hok
      cases d with
      | false =>
        simp only at h
        obtain ⟨s', h1, h2⟩ := runOps_chain hΓ _ _ _ _ h
        exact ⟨.normal, _, h1, (region_reaches hΘ hΓ hok h2).prune E.K⟩
      | true =>
        simp only at h
        obtain ⟨s', h1, h2⟩ := draw_reaches hΘ hΓ hm (id := id) hok h
        exact ⟨.normal, _, h1, h2.prune E.K⟩
  | seq x y ihx ihy =>
    intro hlp
    have ihx := ihx fun p hp => hlp p (List.mem_append.2 (.inl hp))
    have ihy := ihy fun p hp => hlp p (List.mem_append.2 (.inr hp))
    refine ⟨?_, fun b hb => by cases hb⟩
    intro s k r h
    simp only [exec] at h
    obtain ⟨e, s1, h1, h2⟩ := ihx.1 _ _ _ h
    cases e with
    | normal =>
      obtain ⟨e, s2, h3, h4⟩ := ihy.1 _ _ _ h1
      refine ⟨e, s2, h3, fun w0 Mu ρ a w Q hs hQ => wp_seq ?_⟩
      exact h2 w0 Mu ρ a w _ hs fun a' w' ρ' hs' => h4 w0 Mu ρ' a' w' Q hs' hQ
    | exit i =>
      exact ⟨.exit i, s1, h1, fun w0 Mu ρ a w Q hs hQ => wp_seq (h2 w0 Mu ρ a w _ hs fun a' w' ρ' hs' => hQ a' w' ρ' hs')⟩
    | ret =>
      exact ⟨.ret, s1, h1, fun w0 Mu ρ a w Q hs hQ => wp_seq (h2 w0 Mu ρ a w _ hs fun a' w' ρ' hs' => hQ a' w' ρ' hs')⟩
  | cond c x y ihx ihy =>
    intro hlp
    have ihx := ihx fun p hp => hlp p (List.mem_append.2 (.inl hp))
    have ihy := ihy fun p hp => hlp p (List.mem_append.2 (.inr hp))
    refine ⟨?_, fun b hb => by cases hb⟩
    intro s k r h
    simp only [exec] at h
    split at h
    · rename_i t ht
      have hc : ∀ {w0 Mu ρ a w}, Sim w0 Mu ρ s a w → a.eval c = .bool t := by
        intro w0 Mu ρ a w hs
        have := relEv hs c
        rw [show evO s.T c = .s (.one (.bool t)) from ht] at this
        simpa [RelV, RelSV, RelAt] using this
      cases t with
      | true =>
        obtain ⟨e, s', h1, h2⟩ := ihx.1 _ _ _ h
        exact ⟨e, s', h1, fun w0 Mu ρ a w Q hs hQ => wp_cond_true (hc hs) (h2 w0 Mu ρ a w Q hs hQ)⟩
      | false =>
        obtain ⟨e, s', h1, h2⟩ := ihy.1 _ _ _ h
        exact ⟨e, s', h1, fun w0 Mu ρ a w Q hs hQ => wp_cond_false (hc hs) (h2 w0 Mu ρ a w Q hs hQ)⟩
    · cases h
  | block id c ih =>
    intro hlp
    have ih := ih (by
      intro p hp
      apply hlp p
      cases c <;> first | exact hp | exact .tail _ hp)
    refine ⟨?_, fun b hb => by cases hb⟩
    intro s k r h
    have key : exec E c s (fun e s' => match e with
      | .normal => k .normal s'
      | .exit i => (match Nat.beq i id with | true => k .normal s' | false => k (.exit i) s')
      | .ret => k .ret s') = some r → ∃ e s', k e s' = some r ∧ Reaches P (.block id c) s e s' := by
      intro h
      obtain ⟨e, s', h1, h2⟩ := ih.1 _ _ _ h
      cases e with
      | normal => exact ⟨.normal, s', h1, fun w0 Mu ρ a w Q hs hQ => wp_block (h2 w0 Mu ρ a w _ hs fun a' w' ρ' hs' => hQ a' w' ρ' hs')⟩
      | ret => exact ⟨.ret, s', h1, fun w0 Mu ρ a w Q hs hQ => wp_block (h2 w0 Mu ρ a w _ hs fun a' w' ρ' hs' => hQ a' w' ρ' hs')⟩
      | exit i =>
        simp only at h1
        split at h1
        · rename_i e
          have e := beqT e; subst e
          refine ⟨.normal, s', h1, fun w0 Mu ρ a w Q hs hQ => wp_block (h2 w0 Mu ρ a w _ hs fun a' w' ρ' hs' => ?_)⟩
          simp only [Exit.inBlock, if_true]; exact hQ a' w' ρ' hs'
        · rename_i e
          have e := beqN e
          refine ⟨.exit i, s', h1, fun w0 Mu ρ a w Q hs hQ => wp_block (h2 w0 Mu ρ a w _ hs fun a' w' ρ' hs' => ?_)⟩
          simp only [Exit.inBlock, if_neg e]; exact hQ a' w' ρ' hs'
    cases c with
    | loop body =>
      simp only [exec] at h
      split at h
      · rename_i L hL
        exact hlp (id, body) (by simp [loopsIn]) L hL R s k r h
      split at h
      · rename_i ν hν
        split at h
        · rename_i s0 hs0
          have hb : ∀ (s : AS) (k : X → AS → Option R) (r : R), exec E body s k = some r → ∃ e s', k e s' = some r ∧ Reaches P body s e s' := ih.2 body rfl
          obtain ⟨e, s', h1, h2⟩ := iter_rounds hb _ _ _ h
          obtain ⟨he, n, hw⟩ := rounds_wp h2
          have hl : ∀ w0 Mu ρ a w (Q : Exit → Act → World → Prop), Sim w0 Mu ρ s a w → (∀ a' w' ρ', Sim w0 Mu ρ' s' a' w' → Exit.inBlock id Q e.out a' w') → (Code.block id (.loop body)).wp P Q a w := by
            intro w0 Mu ρ a w Q hs hQ
            obtain ⟨ρ2, hs2⟩ := hs.nrm hs0
            exact wp_block (wp_loop_rounds n (hw w0 Mu ρ2 a w _ hs2 hQ))
          cases e with
          | normal => exact absurd rfl he
          | ret => exact ⟨.ret, s', h1, fun w0 Mu ρ a w Q hs hQ => hl w0 Mu ρ a w Q hs hQ⟩
          | exit i =>
            simp only at h1
            split at h1
            · rename_i e
              have e := beqT e; subst e
              refine ⟨.normal, s', h1, fun w0 Mu ρ a w Q hs hQ => hl w0 Mu ρ a w Q hs fun a' w' ρ' hs' => ?_⟩
              simp only [X.out, Exit.inBlock, if_true]; exact hQ a' w' ρ' hs'
            · rename_i e
              have e := beqN e
              refine ⟨.exit i, s', h1, fun w0 Mu ρ a w Q hs hQ => hl w0 Mu ρ a w Q hs fun a' w' ρ' hs' => ?_⟩
              simp only [X.out, Exit.inBlock, if_neg e]; exact hQ a' w' ρ' hs'
        · cases h
      · cases h
    | _ => exact key h
  | scope c ih =>
    intro hlp
    refine ⟨?_, fun b hb => by cases hb⟩
    intro s k r h
    simp only [exec] at h
    obtain ⟨e, s', h1, h2⟩ := (ih hlp).1 _ _ _ h
    refine ⟨e, s', h1, fun w0 Mu ρ a w Q hs hQ => wp_scope_straight (h2 w0 Mu ρ a w _ hs fun a' w' ρ' hs' => ?_)⟩
    cases e <;> exact hQ a' w' ρ' hs'
  | label l =>
    intro _
    refine ⟨?_, fun b hb => by cases hb⟩
    intro s k r h
    simp only [exec] at h
    exact ⟨.normal, s, h, fun w0 Mu ρ a w Q hs hQ => wp_label (hQ a w ρ hs)⟩
  | loop b ih =>
    intro hlp
    refine ⟨fun s k r h => by simp [exec] at h, fun b' hb => ?_⟩
    cases hb; exact (ih hlp).1
  | _ => exact fun _ => ⟨fun s k r h => by simp [exec] at h, fun b hb => by cases hb⟩

end

end Go.Eng

namespace Go.Eng
open Go

section
variable {P : Program}


def initAV (n : Nat) : PM → DV → Option AV
  | .val, .v v => some (.s v)
  | .view _ _, .lst _ _ _ => some (va (.own n))
  | .own _ _, .lst _ _ _ => some (va (.own n))
  | .mt, .obj l => some (va (.ptr n 0 .z (sizesL l)))
  | .mt, .nilp => some (va .nilp)
  | _, _ => none

def initIt : PM → DV → Option Item
  | .view k es, .lst _ _ xs => some (.view k es xs)
  | .own k es, .lst _ _ xs => some (.row k es xs)
  | .mt, .obj l => some (.obj l)
  | _, _ => none

theorem initIt_owned {p : PM} {d : DV} {it : Item} (h : initIt p d = some it) (ho : it.owned = true) : p.owned = true := by
  cases p with
  | val => cases d <;> cases h
  | view k es =>
    cases d with
    | lst k' es' xs => injection h with h; subst h; cases ho
    | _ => cases h
  | own k es => rfl
  | mt => rfl

theorem initT_spec : ∀ {ps : List PM} {ds : List DV} {i : Nat} {ts : List (Nat × AV)} {is : List (Nat × Item)}, initT i ps ds = some (ts, is) →
    ds.length = ps.length ∧ Nodup' is ∧ (∀ t, (t < i ∨ i + ps.length ≤ t) → findT t ts = .s (.one .dead) ∧ t ∉ putNames is) ∧
    ∀ (j : Nat) p d, ps[j]? = some p → ds[j]? = some d → initAV (i + j) p d = some (findT (i + j) ts) ∧ findI (i + j) is = initIt p d
  | [], [], i, ts, is, h => by
    simp only [initT] at h
    injection h with h; injection h with h1 h2; subst h1; subst h2
    exact ⟨rfl, trivial, fun t _ => ⟨rfl, by simp [putNames]⟩, by simp⟩
  | [], _ :: _, i, ts, is, h => by simp [initT] at h
  | _ :: _, [], i, ts, is, h => by simp [initT] at h
  | p :: ps, d :: ds, i, ts, is, h => by
    simp only [initT] at h
    split at h
    · rename_i ts' is' h'
      obtain ⟨g1, g2, g3, g4⟩ := initT_spec h'
      have main : ∀ (v : AV), ts = (i, v) :: ts' → initAV i p d = some v → ((initIt p d = none ∧ is = is') ∨ ∃ it, initIt p d = some it ∧ is = (i, it) :: is') →
          (d :: ds).length = (p :: ps).length ∧ Nodup' is ∧ (∀ t, (t < i ∨ i + (p :: ps).length ≤ t) → findT t ts = .s (.one .dead) ∧ t ∉ putNames is) ∧
            ∀ (j : Nat) q e, (p :: ps)[j]? = some q → (d :: ds)[j]? = some e → initAV (i + j) q e = some (findT (i + j) ts) ∧ findI (i + j) is = initIt q e := by
        intro v hts hav his
        subst hts
        have hi : i ∉ putNames is' := (g3 i (.inl (by omega))).2
        refine ⟨by simp [g1], ?_, ?_, ?_⟩
        · rcases his with ⟨_, rfl⟩ | ⟨it, _, rfl⟩
          · exact g2
          · exact ⟨hi, g2⟩
        · intro t ht
          simp only [List.length_cons] at ht
          have hne : t ≠ i := by omega
          obtain ⟨k1, k2⟩ := g3 t (by omega)
          refine ⟨by rw [findT_cons, if_neg hne]; exact k1, ?_⟩
          rcases his with ⟨_, rfl⟩ | ⟨it, _, rfl⟩
          · exact k2
          · simp [putNames, hne, k2]
        · intro j q e hq he
          cases j with
          | zero =>
            simp only [List.getElem?_cons_zero, Option.some.injEq] at hq he
            subst hq; subst he
            rw [Nat.add_zero, findT_cons, if_pos rfl]
            refine ⟨hav, ?_⟩
            rcases his with ⟨h1, rfl⟩ | ⟨it, h1, rfl⟩
            · rw [h1, findI_none hi]
            · rw [h1, findI_cons, if_pos rfl]
          | succ j =>
            simp only [List.getElem?_cons_succ] at hq he
            obtain ⟨k1, k2⟩ := g4 j q e hq he
            have hne : i + (j + 1) ≠ i := by omega
            rw [show i + (j + 1) = i + 1 + j by omega] at hne ⊢
            rw [findT_cons, if_neg hne]
            refine ⟨k1, ?_⟩
            rcases his with ⟨_, rfl⟩ | ⟨it, _, rfl⟩
            · exact k2
            · rw [findI_cons, if_neg hne]; exact k2
      split at h
      · split at h
        · injection h with h; injection h with h1 h2; subst h1; subst h2
          exact main _ rfl rfl (.inl ⟨rfl, rfl⟩)
        · cases h
      · split at h
        · injection h with h; injection h with h1 h2; subst h1; subst h2
          exact main _ rfl rfl (.inr ⟨_, rfl, rfl⟩)
        · cases h
      · split at h
        · injection h with h; injection h with h1 h2; subst h1; subst h2
          exact main _ rfl rfl (.inr ⟨_, rfl, rfl⟩)
        · cases h
      · split at h
        · injection h with h; injection h with h1 h2; subst h1; subst h2
          exact main _ rfl rfl (.inr ⟨_, rfl, rfl⟩)
        · cases h
      · injection h with h; injection h with h1 h2; subst h1; subst h2
        exact main _ rfl rfl (.inl ⟨rfl, rfl⟩)
      · cases h
    · cases h

theorem agree0 {ρ : Rho} {S : Sh} {ρ' : Rho} {S' : Sh} {l : List Nat} (h : l = []) : ∀ n ∈ l, Agree ρ ρ' S S' n := by
  subst h; simp

theorem sim_init {sig : Sig} {ds : List DV} {n : Nat} {ts : List (Nat × AV)} {is : List (Nat × Item)} {w : World} {vs : List Value} {ℓ : Nat → Option (Nat × Nat)} {τ : Nat → Nat}
    (hi : initT 0 sig.ps ds = some (ts, is)) (hA : ArgsRel w sig.ps ds vs ℓ τ) (hle : sig.ps.length ≤ n) :
    Sim w { blk := OwnB sig.ps ℓ, loc := ℓ, tot := τ, sh := AS.S { n := n, lo := sig.ps.length, tmps := ts, items := is } } { loc := ℓ, tot := τ } { n := n, lo := sig.ps.length, tmps := ts, items := is }
      { tmps := vs.toArray ++ Array.replicate (n - vs.toArray.size) undef, defers := [] } w := by
  obtain ⟨g1, g2, g3, g4⟩ := initT_spec hi
  simp only [Nat.zero_add] at g3 g4
  have hlen : vs.length = sig.ps.length := hA.lenV
  
  have hfind : ∀ m it, findI m is = some it → ∃ p d v, m < sig.ps.length ∧ sig.ps[m]? = some p ∧ ds[m]? = some d ∧ vs[m]? = some v ∧ initIt p d = some it ∧ ArgRel w p d v (ℓ m) (τ m) := by
    intro m it hm
    have hlt : m < sig.ps.length := by
      by_cases h : m < sig.ps.length
      · exact h
      · have := (g3 m (.inr (by omega))).2
        exact absurd (putNames_iff.2 ⟨it, findI_mem hm⟩) this
    have h1 := List.getElem?_eq_getElem hlt
    have h2 := List.getElem?_eq_getElem (l := ds) (i := m) (by rw [g1]; exact hlt)
    have h3 := List.getElem?_eq_getElem (l := vs) (i := m) (by rw [hlen]; exact hlt)
    obtain ⟨_, k2⟩ := g4 m _ _ h1 h2
    exact ⟨_, _, _, hlt, h1, h2, h3, by rw [← k2]; exact hm, hA.each m _ _ _ h1 h2 h3⟩
  have hS : ∀ m, AS.S { n := n, lo := sig.ps.length, tmps := ts, items := is } m = (findI m is).map Item.shape := fun m => rfl
  refine ⟨rfl, g2, ?_, ?_, ?_, ?_, ?_, ?_, Nat.le_refl _, fun _ _ _ => rfl, fun _ _ => ⟨rfl, rfl, .inl rfl⟩, ⟨rfl, rfl⟩, fun _ h => h.elim, rfl⟩
  · simp; omega
  · intro t
    show RelV _ _ (findT t ts) _
    by_cases ht : t < sig.ps.length
    · have h1 := List.getElem?_eq_getElem ht
      have h2 := List.getElem?_eq_getElem (l := ds) (i := t) (by rw [g1]; exact ht)
      have htv : t < vs.length := by rw [hlen]; exact ht
      have h3 := List.getElem?_eq_getElem htv
      have hget : (vs.toArray ++ Array.replicate (n - vs.toArray.size) undef).getD t undef = vs[t] := by
        rw [Array.getD_eq_getD_getElem?, Array.getElem?_append_left (by simpa using htv)]
        simp [htv]
      show RelV _ _ (findT t ts) ((vs.toArray ++ Array.replicate (n - vs.toArray.size) undef).getD t undef)
      rw [hget]
      obtain ⟨k1, k2⟩ := g4 t _ _ h1 h2
      have hrel := hA.each t _ _ _ h1 h2 h3
      revert k1 k2 hrel
      generalize sig.ps[t] = p
      generalize ds[t]'(by rw [g1]; exact ht) = d
      generalize vs[t] = v
      intro k1 k2 hrel
      cases p with
      | val =>
        cases d with
        | v sv =>
          obtain ⟨e1, e2, e3⟩ := hrel
          simp only [initAV, Option.some.injEq] at k1
          rw [← k1]
          exact RelSV.frame (agree0 e1) e2
        | _ => exact hrel.elim
      | view k es =>
        cases d with
        | lst k' es' xs =>
          obtain ⟨rfl, rfl, e0, m, e1, A, c, rfl, e2, e3, e4, e5⟩ := hrel
          simp only [initAV, Option.some.injEq] at k1
          rw [← k1]
          show RelAt _ _ (.own t) [_]
          simp only [RelAt]
          rw [hS, k2]
          simp only [initIt, Option.map_some, Item.shape]
          refine ⟨A, c, ?_, ?_, ?_⟩
          · rw [e1, rl_mul e0.1]
          · rw [e1, rl_mul e0.1]; exact e2
          · intro hpos
            refine e3 ?_
            rw [e1] at hpos
            exact Nat.pos_of_ne_zero fun h0 => by rw [h0] at hpos; simp at hpos
        | _ => exact hrel.elim
      | own k es =>
        cases d with
        | lst k' es' xs =>
          obtain ⟨rfl, rfl, e0, m, e1, c, rfl, e2, e3, e4, e5⟩ := hrel
          simp only [initAV, Option.some.injEq] at k1
          rw [← k1]
          show RelAt _ _ (.own t) [_]
          simp only [RelAt]
          rw [hS, k2]
          simp only [initIt, Option.map_some, Item.shape]
          exact ⟨c, by rw [e1, rl_mul e0.1], by rw [e1, rl_mul e0.1]; exact e2, e3, e4⟩
        | _ => exact hrel.elim
      | mt =>
        cases d with
        | obj l =>
          obtain ⟨e0, b, T, cs, e1, rfl, e2, e3⟩ := hrel
          simp only [initAV, Option.some.injEq] at k1
          rw [← k1]
          refine ⟨(b, 0), e1, rfl, ?_⟩
          intro sh hsh L hL
          rw [hS, k2] at hsh
          injection hsh with hsh; subst hsh
          simp [Item.shape, Shape.isObj]
        | nilp =>
          obtain ⟨rfl, _⟩ := hrel
          simp only [initAV, Option.some.injEq] at k1
          rw [← k1]
          rfl
        | _ => exact hrel.elim
    · rw [(g3 t (.inr (by omega))).1]; exact relDead _ _ _
  · intro m it hm
    obtain ⟨p, d, v, h0, h1, h2, h3, h4, hrel⟩ := hfind m it hm
    cases p with
    | val => simp [initIt] at h4
    | view k es =>
      cases d with
      | lst k' es' xs =>
        obtain ⟨rfl, rfl, e0, m, e1, A, c, rfl, e2, e3, e4, e5⟩ := hrel
        simp only [initIt, Option.some.injEq] at h4; subst h4
        exact ⟨e0, ⟨m, e1⟩, e4⟩
      | _ => exact hrel.elim
    | own k es =>
      cases d with
      | lst k' es' xs =>
        obtain ⟨rfl, rfl, e0, m, e1, c, rfl, e2, e3, e4, e5⟩ := hrel
        simp only [initIt, Option.some.injEq] at h4; subst h4
        exact ⟨e0, ⟨m, e1⟩, e5⟩
      | _ => exact hrel.elim
    | mt =>
      cases d with
      | obj l =>
        obtain ⟨e0, b, T, cs, e1, rfl, e2, e3⟩ := hrel
        simp only [initIt, Option.some.injEq] at h4; subst h4
        exact ⟨b, T, cs, e1, e2, e3.frame (agree0 e0)⟩
      | nilp => simp [initIt] at h4
      | _ => exact hrel.elim
  · intro m it q hm ho hq
    obtain ⟨p, d, v, h0, h1, h2, h3, h4, hrel⟩ := hfind m it hm
    right
    exact ⟨m, p, q, h1, initIt_owned h4 ho, hq, rfl⟩
  · intro m m' it it' q r hm hm' ho hne hq hr
    obtain ⟨p, d, v, h0, h1, h2, h3, h4, hrel⟩ := hfind m it hm
    exact hA.sep m m' p q r hne h1 (initIt_owned h4 ho) hq hr
  · intro m it q hm hq
    obtain ⟨p, d, v, h0, h1, h2, h3, h4, hrel⟩ := hfind m it hm
    cases p with
    | val => simp [initIt] at h4
    | view k es =>
      cases d with
      | lst k' es' xs =>
        obtain ⟨rfl, rfl, e0, m, e1, A, c, rfl, e2, e3, e4, e5⟩ := hrel
        exact e5 q hq
      | _ => exact hrel.elim
    | own k es =>
      cases d with
      | lst k' es' xs =>
        obtain ⟨rfl, rfl, e0, m, e1, c, rfl, e2, e3, e4, e5⟩ := hrel
        rcases e5 with ⟨e5, _⟩ | ⟨b, T, sp, e5, e6, _⟩
        · rw [show ℓ _ = some q from hq] at e5; cases e5
        · rw [show ℓ _ = some q from hq] at e5; injection e5 with e5; subst e5
          exact (Array.getElem?_eq_some_iff.1 e6).1
      | _ => exact hrel.elim
    | mt =>
      cases d with
      | obj l =>
        obtain ⟨e0, b, T, cs, e1, rfl, e2, e3⟩ := hrel
        rw [show ℓ _ = some q from hq] at e1; injection e1 with e1; subst e1
        exact (Array.getElem?_eq_some_iff.1 e2).1
      | nilp => simp [initIt] at h4
      | _ => exact hrel.elim

end

end Go.Eng

namespace Go.Eng
open Go

section
variable {P : Program} {w0 : World} {Mu : MuT} {ρ : Rho} {s : AS} {a : Act} {w : World}


def resRun (tmps : Array Value) (r : ResultVar) : Sem Value := match r with
  | .tmp t => pure (tmps.getD t undef)
  | .cell a t => do loadVar t (← asAddr (tmps.getD a undef))

theorem results_eq (fn : Func) (tmps : Array Value) (w : World) {Xs : List Value} (h : (fn.results.toList.mapM (resRun tmps)).run P w = .ok Xs w) :
    (results fn tmps).run P w = .ok (resVal Xs) w := by
  have e : results fn tmps = (do let vs ← fn.results.mapM (resRun tmps); pure (if h : vs.size = 1 then vs[0] else .tuple vs)) := rfl
  rw [e, Array.mapM_eq_mapM_toList]
  simp only [Sem.run_bind, map_eq_pure_bind, h, Result.andThen_ok, Sem.run_pure]
  cases Xs with
  | nil => rfl
  | cons x l => cases l with
    | nil => rfl
    | cons y l => rfl

theorem resSV_spec {Θ : Types} (hΘ : TypesOk P Θ) (hs : Sim w0 Mu ρ s a w) : ∀ {rv : List ResultVar} {vs : List SV}, resSV Θ s rv = some vs →
    ∃ Xs : List Value, Xs.length = rv.length ∧ vs.length = rv.length ∧ (∀ (i : Nat) sv X, vs[i]? = some sv → Xs[i]? = some X → RelSV ρ s.S sv X) ∧ (rv.mapM (resRun a.tmps)).run P w = .ok Xs w := by
  intro rv
  induction rv with
  | nil =>
    intro vs h
    simp only [resSV] at h; injection h with h; subst h
    exact ⟨[], rfl, rfl, by simp, by simp⟩
  | cons r rv ih =>
    intro vs h
    simp only [resSV] at h
    split at h
    · rename_i vs' h'
      obtain ⟨Xs, g1, g2, g3, g4⟩ := ih h'
      have main : ∀ sv X, RelSV ρ s.S sv X → (resRun a.tmps r).run P w = .ok X w → vs = sv :: vs' → ∃ Xs : List Value, Xs.length = (r :: rv).length ∧ vs.length = (r :: rv).length ∧ (∀ (i : Nat) sv X, vs[i]? = some sv → Xs[i]? = some X → RelSV ρ s.S sv X) ∧ ((r :: rv).mapM (resRun a.tmps)).run P w = .ok Xs w := by
        rintro sv X h1 h2 rfl
        refine ⟨X :: Xs, by simp [g1], by simp [g2], ?_, ?_⟩
        · intro i sv' X' e1 e2
          cases i with
          | zero =>
            simp only [List.getElem?_cons_zero, Option.some.injEq] at e1 e2
            subst e1; subst e2; exact h1
          | succ i => exact g3 i sv' X' (by simpa using e1) (by simpa using e2)
        · rw [List.mapM_cons]
          simp only [Sem.run_bind, h2, Result.andThen_ok, g4, Sem.run_pure]
      cases r with
      | tmp t =>
        simp only at h
        split at h
        · rename_i v hv
          injection h with h
          have := hs.rel t
          rw [hv] at this
          exact main v _ this (by simp [resRun]) h.symm
        · cases h
      | cell b t =>
        simp only at h
        split at h
        · rename_i ti n b' o z ht hT
          split at h
          · rename_i it hi
            split at h
            · rename_i hz
              split at h
              · rename_i v hv
                injection h with h
                have := hs.rel b
                rw [hT] at this
                simp only [RelV, RelSV, RelAt, List.cons.injEq, and_true] at this
                obtain ⟨p, e1, e2, e3⟩ := this
                obtain ⟨y, h4, h5⟩ := load_sound (hΘ t ti ht) (hs.hold n it hi) (S_of hi) e1 e3 (ble_iff.1 hz) hv
                refine main v y h5 ?_ h.symm
                simp only [resRun, Sem.run_bind, e2]
                simp [asAddr, h4]
              · cases h
            · cases h
          · cases h
        · cases h
    · cases h


def locU (ρ : Rho) : List Nat → Option (Nat × Nat)
  | [n] => ρ.loc n
  | _ => none
def totU (ρ : Rho) : List Nat → Nat
  | [n] => ρ.tot n
  | _ => 0

theorem outOf_ok (hs : Sim w0 Mu ρ s a w) {r : RM} (hr : ∀ k es, r = .fresh k es → PosK k es) {v : SV} {X : Value} (hv : RelSV ρ s.S v X) {o : DV} {u : List Nat} (h : outOf s.I r v = some (o, u)) :
    ∃ t, ResRel w r o X (locU ρ u) t ∧ (u = [] ∨ ∃ n it, u = [n] ∧ s.I n = some it ∧ it.owned = true) := by
  unfold outOf at h
  split at h
  · split at h
    · rename_i hn
      injection h with h; injection h with h1 h2; subst h1; subst h2
      exact ⟨totU ρ [], ⟨hn, hv.frame (agree0 hn), rfl⟩, .inl rfl⟩
    · cases h
  · rename_i k es a'
    have hpos := hr k es rfl
    split at h
    · injection h with h; injection h with h1 h2; subst h1; subst h2
      simp only [RelSV, RelAt, List.cons.injEq, and_true] at hv
      refine ⟨totU ρ [], ⟨rfl, rfl, hpos, 0, by simp, 0, by rw [hv]; rfl, Nat.le_refl _, fun _ => rfl, by simp, .inl ⟨rfl, rfl, rfl⟩⟩, .inl rfl⟩
    · rename_i n
      split at h
      · rename_i k' es' xs hi
        split at h
        · rename_i hb
          simp only [Bool.and_eq_true] at hb
          have e1 := rkEq_iff.1 hb.1; have e2 := beqT hb.2
          subst e1; subst e2
          injection h with h; injection h with h1 h2; subst h1; subst h2
          obtain ⟨f1, ⟨m, f2⟩, f3⟩ := hs.hold n _ hi
          simp only [RelSV, RelAt, S_of hi, Item.shape] at hv
          obtain ⟨c, g1, g2, g3, g4⟩ := hv
          rw [f2, rl_mul f1.1] at g1 g2
          injection g1 with g1
          exact ⟨totU ρ [n], ⟨rfl, rfl, f1, m, f2, c, g1, g2, g3, g4, f3⟩, .inr ⟨n, _, rfl, hi, rfl⟩⟩
        · cases h
      · cases h
    · rename_i n b o es2 len cap
      split at h
      · rename_i k' m xs c hi
        split at h
        · rename_i hb
          simp only [Bool.and_eq_true] at hb
          obtain ⟨b1, b2, b3, b4, b5, b6, b7⟩ := hb
          have b1 := rkEq_iff.1 b1
          have b2 := beqT b2; have b3 := beqT b3; have b4 := beqT b4; have b5 := beqT b5; have b6 := beqT b6; have b7 := ble_iff.1 b7
          injection h with h; injection h with h1 h2; subst h1; subst h2
          obtain ⟨bb, T, cs, f1, f2, f3⟩ := hs.hold n _ hi
          obtain ⟨c1, c2, f4, f5, f6⟩ := f3
          simp only [RelAt] at f5
          simp only [RelL] at f6
          subst f6
          obtain ⟨f5, f7⟩ := f5
          simp only [RelSV, RelAt, List.cons.injEq, and_true] at hv
          obtain ⟨A, c', g1, g2, g3, g4, _⟩ := hv
          have g3 := g3 c rfl
          subst g3
          obtain ⟨p, g5, g6⟩ := g4 (by omega)
          have f1' := f1
          rw [g5] at f1'
          injection f1' with f1'
          subst f1'
          rw [b4] at g6
          rw [List.append_nil] at f4
          refine ⟨xs.length, ⟨rfl, rfl, hpos, xs.length, by rw [b2, Nat.mul_one], c', ?_, by omega, ?_, by rw [b2]; omega, .inr ⟨bb, T, [], ?_, ?_, by simp⟩⟩, .inr ⟨n, _, rfl, hi, rfl⟩⟩
          · rw [g1, show locU ρ [n] = some (bb, 0) from g5, g6, f7, b5]; rfl
          · intro hnone
            rw [show locU ρ [n] = some (bb, 0) from g5] at hnone; cases hnone
          · exact g5
          · rw [f2, f4, f5, b1, List.append_nil]; rfl
        · cases h
      · cases h
    · cases h
  · rename_i a'
    split at h
    · injection h with h; injection h with h1 h2; subst h1; subst h2
      simp only [RelSV, RelAt, List.cons.injEq, and_true] at hv
      exact ⟨totU ρ [], ⟨hv, rfl⟩, .inl rfl⟩
    · rename_i n b o z
      split at h
      · rename_i l hi
        split at h
        · rename_i hn hz
          injection h with h; injection h with h1 h2; subst h1; subst h2
          simp only [RelSV, RelAt, List.cons.injEq, and_true] at hv
          obtain ⟨p, g1, g2, g3⟩ := hv
          obtain ⟨b, T, cs, f1, f2, f3⟩ := hs.hold n _ hi
          rw [f1] at g1; injection g1 with g1; subst g1
          exact ⟨totU ρ [n], ⟨hn, b, T, cs, f1, g2, f2, f3.frame (agree0 hn)⟩, .inr ⟨n, _, rfl, hi, rfl⟩⟩
        · cases h
      · cases h
    · cases h
  · cases h

theorem outsOf_spec {I : Nat → Option Item} : ∀ {rs : List RM} {vs : List SV} {os : List DV} {us : List Nat}, outsOf I rs vs = some (os, us) →
    os.length = rs.length ∧ vs.length = rs.length ∧ ∃ U : List (List Nat), U.length = rs.length ∧ us = U.flatten ∧ (∀ (j : Nat) r v o u, rs[j]? = some r → vs[j]? = some v → os[j]? = some o → U[j]? = some u → outOf I r v = some (o, u)) ∧
      (∀ (i j : Nat) u u' n, i ≠ j → U[i]? = some u → U[j]? = some u' → n ∈ u → n ∉ u')
  | [], [], os, us, h => by
    simp only [outsOf] at h
    injection h with h; injection h with h1 h2; subst h1; subst h2
    exact ⟨rfl, rfl, [], rfl, rfl, by simp, by simp⟩
  | [], _ :: _, os, us, h => by simp [outsOf] at h
  | _ :: _, [], os, us, h => by simp [outsOf] at h
  | r :: rs, v :: vs, os, us, h => by
    simp only [outsOf] at h
    split at h
    · rename_i d u ds us' h1 h2
      split at h
      · rename_i hd
        injection h with h; injection h with e1 e2; subst e1; subst e2
        obtain ⟨g1, g2, U, g3, g4, g5, g6⟩ := outsOf_spec h2
        refine ⟨by simp [g1], by simp [g2], u :: U, by simp [g3], by simp [g4], ?_, ?_⟩
        · intro j r' v' o' u' a1 a2 a3 a4
          cases j with
          | zero =>
            simp only [List.getElem?_cons_zero, Option.some.injEq] at a1 a2 a3 a4
            subst a1; subst a2; subst a3; subst a4; exact h1
          | succ j => exact g5 j r' v' o' u' (by simpa using a1) (by simpa using a2) (by simpa using a3) (by simpa using a4)
        · have hmem : ∀ (j : Nat) u', U[j]? = some u' → ∀ n ∈ u', n ∈ us' := by
            intro j u' hj n hn
            rw [g4]; exact List.mem_flatten.2 ⟨u', List.mem_of_getElem? hj, hn⟩
          intro i j u1 u2 n hne a1 a2 hn hn'
          cases i with
          | zero =>
            cases j with
            | zero => exact hne rfl
            | succ j =>
              simp only [List.getElem?_cons_zero, Option.some.injEq] at a1
              subst a1
              exact disj_iff.1 hd n hn (hmem j u2 (by simpa using a2) n hn')
          | succ i =>
            cases j with
            | zero =>
              simp only [List.getElem?_cons_zero, Option.some.injEq] at a2
              subst a2
              exact disj_iff.1 hd n hn' (hmem i u1 (by simpa using a1) n hn)
            | succ j => exact g6 i j u1 u2 n (by omega) (by simpa using a1) (by simpa using a2) hn hn'
      · cases h
    · cases h

theorem mutOuts_ok (hs : Sim w0 Mu ρ s a w) {lo : Nat} (hlo : s.lo = lo) : ∀ {ps : List PM} {ds ms : List DV} {i : Nat}, i + ps.length ≤ lo → mutOuts s.I i ps ds = some ms → MutRel w Mu.loc i ps ds ms
  | [], [], ms, i, _, h => by
    simp only [mutOuts] at h
    injection h with h; exact h.symm
  | [], _ :: _, _, _, _, h => by simp [mutOuts] at h
  | _ :: _, [], _, _, _, h => by simp [mutOuts] at h
  | p :: ps, d :: ds, ms, i, hle, h => by
    simp only [mutOuts] at h
    split at h
    · rename_i r h'
      simp only [List.length_cons] at hle
      have ih := mutOuts_ok hs hlo (by omega) h'
      split at h
      · rename_i l0
        split at h
        · rename_i l hi
          split at h
          · rename_i hf hn
            injection h with h; subst h
            obtain ⟨b, T, cs, f1, f2, f3⟩ := hs.hold i _ hi
            refine ⟨l, r, rfl, hn, (formEq_forms hf).symm, ⟨b, T, cs, ?_, f2, f3.frame (agree0 hn)⟩, ih⟩
            rw [← (hs.pin i (.inl (by omega))).1]; exact f1
          · cases h
        · cases h
      · injection h with h; subst h
        exact ⟨r, rfl, ih⟩
      · cases h
      · rename_i hx hy hz
        injection h with h; subst h
        cases p with
        | mt => exact (hx rfl).elim
        | _ => exact ih
    · cases h

theorem mut_named {I : Nat → Option Item} {l0 : List At} : ∀ {ps : List PM} {ds ms : List DV} {i j : Nat}, mutOuts I i ps ds = some ms → ps[j]? = some .mt → ds[j]? = some (.obj l0) →
    ∃ l, I (i + j) = some (.obj l) ∧ i + j ∈ mutNames i ps ds
  | [], _, _, _, _, _, h, _ => by simp at h
  | _ :: _, [], _, _, _, _, _, h => by simp at h
  | p :: ps, d :: ds, ms, i, j, h, h1, h2 => by
    simp only [mutOuts] at h
    split at h
    · rename_i r h'
      cases j with
      | zero =>
        simp only [List.getElem?_cons_zero, Option.some.injEq] at h1 h2
        subst h1; subst h2
        simp only at h
        split at h
        · rename_i l hi
          exact ⟨l, hi, by simp [mutNames]⟩
        · cases h
      | succ j =>
        obtain ⟨l, g1, g2⟩ := mut_named (j := j) h' (by simpa using h1) (by simpa using h2)
        rw [show i + (j + 1) = i + 1 + j by omega]
        refine ⟨l, g1, ?_⟩
        unfold mutNames
        split
        · rename_i e1 e2
          injection e1 with _ e1; injection e2 with _ e2; subst e1; subst e2
          exact .tail _ g2
        · rename_i e1 e2
          injection e1 with _ e1; injection e2 with _ e2; subst e1; subst e2
          exact g2
        · rename_i hne; exact absurd rfl (hne _ _ _ _ rfl)
    · cases h


theorem call_contract {E : Env} (hΘ : TypesOk P E.Θ) (hΓ : CtxOk P E.Γ) (hm : P.follows .mixedOrders = true) {g n : Nat} {fn : Func} {sig : Sig} {body : Code} {rv : List ResultVar}
    (hf : P.funcs[g]? = some fn) (hb : fn.body = some body) (hn : fn.ntmps = n) (hrv : fn.results.toList = rv) (hname : fn.name ≠ "runtime.NumGoroutine") (hsig : sigOk sig = true) (hle : sig.ps.length ≤ n) (hlp : LoopsOk P E.lp body) :
    Contract P g { sig := sig, impl := fun _ ds k => call E sig n body rv ds k } := by
  intro R ds k r h
  simp only at h
  unfold call at h
  split at h
  · rename_i ts is hi
    obtain ⟨e, s', h1, h2⟩ := (exec_sound hΘ hΓ hm body hlp).1 _ _ _ h
    have key : ∃ vs os us ms, e ≠ .exit 0 ∧ (∀ i, e ≠ .exit i) ∧ resSV E.Θ s' rv = some vs ∧ outsOf s'.I sig.rs vs = some (os, us) ∧ mutOuts s'.I 0 sig.ps ds = some ms ∧ disj us (mutNames 0 sig.ps ds) = true ∧ k (os ++ ms) = some r ∧ s'.lo = sig.ps.length := by
      unfold retK at h1
      split at h1
      · cases h1
      · rename_i he
        split at h1
        · cases h1
        · rename_i hlo
          split at h1
          · rename_i vs hvs
            split at h1
            · rename_i os us ms ho hmm
              split at h1
              · rename_i hd
                exact ⟨vs, os, us, ms, fun h => he _ h, fun i h => he i h, hvs, ho, hmm, hd, h1, beqT hlo⟩
              · cases h1
            · cases h1
          · cases h1
    obtain ⟨vs, os, us, ms, _, he, hvs, ho, hmo, hd, hk, hlo⟩ := key
    refine ⟨os ++ ms, hk, ?_⟩
    intro w xs ℓ τ hA
    subst hn
    refine .inl ⟨⟨fn, hf, by rw [hb]; rfl, hname⟩, ?_⟩
    refine calls_of_wp hf hb ?_
    have hs0 := sim_init hi hA hle
    refine reaches_iff.1 h2 w _ _ _ _ _ hs0 ?_
    intro a' w' ρ' hs
    obtain ⟨Xs, x1, x2, x3, x4⟩ := resSV_spec hΘ hs hvs
    have hpost : a'.defers = [] ∧ ∃ v, (results fn a'.tmps).run P w' = .ok v w' ∧ ∃ v', Ending.returned v = .returned v' ∧ Post w w' sig ds (os ++ ms) ℓ v' := by
      refine ⟨hs.defers, resVal Xs, results_eq fn _ _ (by rw [hrv]; exact x4), resVal Xs, rfl, ?_⟩
      obtain ⟨o1, o2, U, o3, o4, o5, o6⟩ := outsOf_spec ho
      have hrs : ∀ k es, ∀ r ∈ sig.rs, r = .fresh k es → PosK k es := by
        intro k es r hr e
        simp only [sigOk, Bool.and_eq_true, List.all_eq_true] at hsig
        have := hsig.2.2 r hr
        rw [e] at this
        exact posK_iff this
      have hU0 : ∀ (j : Nat) u, U[j]? = some u → ∃ t r v o X, sig.rs[j]? = some r ∧ vs[j]? = some v ∧ os[j]? = some o ∧ Xs[j]? = some X ∧ j < sig.rs.length ∧ ResRel w' r o X (locU ρ' u) t ∧ (u = [] ∨ ∃ n it, u = [n] ∧ s'.I n = some it ∧ it.owned = true) := by
        intro j u hu
        have hj : j < sig.rs.length := by rw [← o3]; exact (List.getElem?_eq_some_iff.1 hu).1
        have e1 := List.getElem?_eq_getElem hj
        have e2 := List.getElem?_eq_getElem (l := vs) (i := j) (by omega)
        have e3 := List.getElem?_eq_getElem (l := os) (i := j) (by omega)
        have e4 := List.getElem?_eq_getElem (l := Xs) (i := j) (by omega)
        obtain ⟨t, this⟩ := outOf_ok hs (r := sig.rs[j]) (fun k es e => hrs k es _ (List.getElem_mem hj) e) (x3 j _ _ e2 e4) (o5 j _ _ _ _ e1 e2 e3 hu)
        exact ⟨t, _, _, _, _, e1, e2, e3, e4, hj, this⟩
      obtain ⟨totF, hU⟩ : ∃ totF : Nat → Nat, ∀ (j : Nat) u, U[j]? = some u → ∃ r v o X, sig.rs[j]? = some r ∧ vs[j]? = some v ∧ os[j]? = some o ∧ Xs[j]? = some X ∧ j < sig.rs.length ∧ ResRel w' r o X (locU ρ' u) (totF j) ∧ (u = [] ∨ ∃ n it, u = [n] ∧ s'.I n = some it ∧ it.owned = true) := by
        refine Classical.axiomOfChoice (r := fun (j : Nat) (t : Nat) => ∀ u, U[j]? = some u → ∃ r v o X, sig.rs[j]? = some r ∧ vs[j]? = some v ∧ os[j]? = some o ∧ Xs[j]? = some X ∧ j < sig.rs.length ∧ ResRel w' r o X (locU ρ' u) t ∧ (u = [] ∨ ∃ n it, u = [n] ∧ s'.I n = some it ∧ it.owned = true)) fun j => ?_
        cases hu : U[j]? with
        | none => exact ⟨0, fun u h => by cases h⟩
        | some u0 =>
          obtain ⟨t, ht⟩ := hU0 j u0 hu
          exact ⟨t, fun u h => by injection h with h; subst h; exact ht⟩
      refine ⟨⟨Xs, os, ms, fun j => locU ρ' ((U[j]?).getD []), totF, rfl, rfl, o1, by omega, ?_, ?_, ?_, ?_⟩, hs.mono, hs.frame, hs.still⟩
      · intro j r' o' X' a1 a2 a3
        have hj : j < U.length := by rw [o3]; exact (List.getElem?_eq_some_iff.1 a1).1
        have hu := List.getElem?_eq_getElem hj
        obtain ⟨r2, v2, o2', X2, b1, b2, b3, b4, _, b5, _⟩ := hU j _ hu
        rw [a1] at b1; injection b1 with b1; subst b1
        rw [a2] at b3; injection b3 with b3; subst b3
        rw [a3] at b4; injection b4 with b4; subst b4
        simp only [hu]; exact b5
      · intro j q hq
        have hq : locU ρ' ((U[j]?).getD []) = some q := hq
        cases hu : U[j]? with
        | none => rw [hu] at hq; cases hq
        | some u =>
          rw [hu] at hq
          obtain ⟨_, _, _, _, _, _, _, _, hj, _, b6⟩ := hU j u hu
          rcases b6 with rfl | ⟨m, it, rfl, b7, b8⟩
          · cases hq
          · have hq : ρ'.loc m = some q := hq
            refine ⟨hj, hs.lt m it q b7 hq, ?_⟩
            rcases hs.own m it q b7 b8 hq with h | ⟨i, p, q', c1, c2, c3, c4⟩
            · exact .inl h
            · right
              cases p with
              | val => cases c2
              | view k es => cases c2
              | own k es => exact ⟨i, k, es, q', c1, c3, c4⟩
              | mt =>
                exfalso
                
                have hil := (List.getElem?_eq_some_iff.1 c1).1
                have hdl := List.getElem?_eq_getElem (l := ds) (i := i) (by rw [hA.lenD]; exact hil)
                have hxl := List.getElem?_eq_getElem (l := xs) (i := i) (by rw [hA.lenV]; exact hil)
                have hrel := hA.each i _ _ _ c1 hdl hxl
                obtain ⟨l0, hd0⟩ : ∃ l0, ds[i]? = some (.obj l0) := by
                  rw [hdl]
                  revert hrel
                  generalize ds[i]'(by rw [hA.lenD]; exact hil) = d0
                  intro hrel
                  cases d0 with
                  | obj l => exact ⟨l, rfl⟩
                  | nilp => rw [hrel.2] at c3; cases c3
                  | _ => exact hrel.elim
                obtain ⟨l, hl, hin⟩ := mut_named hmo c1 hd0
                rw [Nat.zero_add] at hl hin
                have hne : m ≠ i := by
                  intro e; subst e
                  have hmem : m ∈ us := by rw [o4]; exact List.mem_flatten.2 ⟨_, List.mem_of_getElem? hu, .head _⟩
                  exact disj_iff.1 hd m hmem hin
                have hpin : ρ'.loc i = ℓ i := (hs.pin i (.inl (by rw [hlo]; exact hil))).1
                exact hs.sep m i it _ q q' b7 hl b8 hne hq (by rw [hpin]; exact c3) c4.symm
      · intro i j q r' hne hq hr'
        have hq : locU ρ' ((U[i]?).getD []) = some q := hq
        have hr' : locU ρ' ((U[j]?).getD []) = some r' := hr'
        cases hu : U[i]? with
        | none => rw [hu] at hq; cases hq
        | some u =>
          cases hu' : U[j]? with
          | none => rw [hu'] at hr'; cases hr'
          | some u' =>
            rw [hu] at hq; rw [hu'] at hr'
            obtain ⟨_, _, _, _, _, _, _, _, _, _, b6⟩ := hU i u hu
            obtain ⟨_, _, _, _, _, _, _, _, _, _, d6⟩ := hU j u' hu'
            rcases b6 with rfl | ⟨m, it, rfl, b7, b8⟩
            · cases hq
            · rcases d6 with rfl | ⟨m', it', rfl, d7, d8⟩
              · cases hr'
              · have hmm : m ≠ m' := fun e => o6 i j _ _ m hne hu hu' (.head _) (by rw [e]; exact .head _)
                exact hs.sep m m' it it' q r' b7 d7 b8 hmm hq hr'
      · exact mutOuts_ok hs hlo (by omega) hmo
    cases e with
    | normal => exact hpost
    | ret => exact hpost
    | exit i => exact absurd rfl (he i)
  · cases h

end

end Go.Eng

namespace Go.Eng
open Go

inductive Leaf where
  | i (x : Int)
  | b (x : Bool)
  | l (x : List Int)
  | ll (x : List (List Int))

inductive Hole where
  | int (k : IntKind)
  | bool
  | ints (k : IntKind) (m : Nat)
  | flt (f : FloatKind)
  | fix (a : At)
  
  | slcE (n b es : Nat)
  | slcA (n b es : Nat)

inductive HV where
  | one (h : Hole)
  | agg (l : List Hole)

inductive ISh where
  | obj (l : List Hole)
  | row (k : RK) (es : Nat)
  | view (k : RK) (es : Nat)
  | tab (l : List Hole)
  | dview (k : RK) (es : Nat)
  | mp (kk : MK) (vk : IntKind)

structure Shp where
  n : Nat
  lo : Nat
  slots : List (Nat × HV)
  items : List (Nat × ISh)

def At.eqb : At → At → Bool
  | .own n, .own m => Nat.beq n m
  | .nils, .nils => true
  | .nilp, .nilp => true
  | .mapv n, .mapv m => Nat.beq n m
  | .dead, .dead => true
  | .ptr n b .z z, .ptr m c .z y => Nat.beq n m && (Nat.beq b c && Nat.beq z y)
  | _, _ => false

theorem At.eqb_eq {a c : At} (h : a.eqb c = true) : a = c := by
  unfold At.eqb at h
  split at h
  · rw [beqT h]
  · rfl
  · rfl
  · rw [beqT h]
  · rfl
  · simp only [Bool.and_eq_true] at h
    rw [beqT h.1, beqT h.2.1, beqT h.2.2]
  · cases h

def takeH : Hole → At → Option (List Leaf)
  | .int k, .int k' x => match kindEq k k' with | true => some [.i x] | false => none
  | .bool, .bool x => some [.b x]
  | .ints k m, .ints k' m' xs => match kindEq k k' && Nat.beq m m' with | true => some [.l xs] | false => none
  | .flt f, .flt f' x => match fltEq f f' with | true => some [.i x] | false => none
  | .fix a, c => match a.eqb c with | true => some [] | false => none
  | .slcE n b es, .slc n' b' o es' len cap => match o, cap with
    | .el i es2 off, none => match off with
      | 0 => match Nat.beq n n' && (Nat.beq b b' && (Nat.beq es es' && Nat.beq es es2)) with | true => some [.i (i : Int), .i (len : Int)] | false => none
      | _ => none
    | _, _ => none
  | .slcA n b es, .slc n' b' o es' len cap => match o, cap with
    | .at e, none => match Nat.beq n n' && (Nat.beq b b' && Nat.beq es es') with | true => some [.i (e : Int), .i (len : Int)] | false => none
    | _, _ => none
  | _, _ => none

def fillH : Hole → List Leaf → At × List Leaf
  | .int k, .i x :: r => (.int k x, r)
  | .bool, .b x :: r => (.bool x, r)
  | .ints k m, .l xs :: r => (.ints k m xs, r)
  | .flt f, .i x :: r => (.flt f x, r)
  | .fix a, r => (a, r)
  | .slcE n b es, .i x :: .i y :: r => (.slc n b (.el x.toNat es 0) es y.toNat none, r)
  | .slcA n b es, .i x :: .i y :: r => (.slc n b (.at x.toNat) es y.toNat none, r)
  | _, r => (.dead, r)

theorem takeH_fill {h : Hole} {a : At} {ls : List Leaf} (r : List Leaf) (e : takeH h a = some ls) : fillH h (ls ++ r) = (a, r) := by
  unfold takeH at e
  split at e
  · split at e
    · rename_i hk
      injection e with e; subst e; rw [kindEq_iff.1 hk]; rfl
    · cases e
  · injection e with e; subst e; rfl
  · split at e
    · rename_i hk
      simp only [Bool.and_eq_true] at hk
      injection e with e; subst e; rw [kindEq_iff.1 hk.1, beqT hk.2]; rfl
    · cases e
  · split at e
    · rename_i hk
      injection e with e; subst e; rw [fltEq_iff.1 hk]; rfl
    · cases e
  · split at e
    · rename_i hk
      injection e with e; subst e; rw [At.eqb_eq hk]; rfl
    · cases e
  · split at e
    · split at e
      · split at e
        · rename_i hk
          simp only [Bool.and_eq_true] at hk
          injection e with e; subst e
          rw [← beqT hk.1, ← beqT hk.2.1, ← beqT hk.2.2.1, ← beqT hk.2.2.2]
          simp [fillH]
        · cases e
      · cases e
    · cases e
  · split at e
    · split at e
      · rename_i hk
        simp only [Bool.and_eq_true] at hk
        injection e with e; subst e
        rw [← beqT hk.1, ← beqT hk.2.1, ← beqT hk.2.2]
        simp [fillH]
      · cases e
    · cases e
  · cases e

def takeHs : List Hole → List At → Option (List Leaf)
  | [], [] => some []
  | h :: hs, a :: az => match takeH h a with
    | some l => match takeHs hs az with
      | some m => some (l ++ m)
      | none => none
    | none => none
  | _, _ => none

def fillHs : List Hole → List Leaf → List At × List Leaf
  | [], r => ([], r)
  | h :: hs, r => match fillH h r with
    | (a, r) => match fillHs hs r with
      | (az, r) => (a :: az, r)

theorem takeHs_fill : ∀ {hs : List Hole} {az : List At} {ls : List Leaf} (r : List Leaf), takeHs hs az = some ls → fillHs hs (ls ++ r) = (az, r)
  | [], [], ls, r, e => by simp only [takeHs] at e; injection e with e; subst e; rfl
  | [], _ :: _, _, _, e => by simp [takeHs] at e
  | _ :: _, [], _, _, e => by simp [takeHs] at e
  | h :: hs, a :: az, ls, r, e => by
    simp only [takeHs] at e
    split at e
    · rename_i l h1
      split at e
      · rename_i m h2
        injection e with e; subst e
        simp only [fillHs, List.append_assoc, takeH_fill _ h1, takeHs_fill r h2]
      · cases e
    · cases e

def takeV : HV → AV → Option (List Leaf)
  | .one h, .s (.one a) => takeH h a
  | .agg hs, .s (.agg l) => takeHs hs l
  | _, _ => none

def fillV : HV → List Leaf → AV × List Leaf
  | .one h, r => match fillH h r with | (a, r) => (.s (.one a), r)
  | .agg hs, r => match fillHs hs r with | (l, r) => (.s (.agg l), r)

theorem takeV_fill {h : HV} {v : AV} {ls : List Leaf} (r : List Leaf) (e : takeV h v = some ls) : fillV h (ls ++ r) = (v, r) := by
  unfold takeV at e
  split at e
  · simp only [fillV, takeH_fill r e]
  · simp only [fillV, takeHs_fill r e]
  · cases e

def takeSl : List (Nat × HV) → List (Nat × AV) → Option (List Leaf)
  | [], [] => some []
  | (t, h) :: hs, (u, a) :: az => match Nat.beq t u, takeV h a with
    | true, some l => match takeSl hs az with
      | some m => some (l ++ m)
      | none => none
    | _, _ => none
  | _, _ => none

def fillSl : List (Nat × HV) → List Leaf → List (Nat × AV) × List Leaf
  | [], r => ([], r)
  | (t, h) :: hs, r => match fillV h r with
    | (a, r) => match fillSl hs r with
      | (az, r) => ((t, a) :: az, r)

theorem takeSl_fill : ∀ {hs : List (Nat × HV)} {az : List (Nat × AV)} {ls : List Leaf} (r : List Leaf), takeSl hs az = some ls → fillSl hs (ls ++ r) = (az, r)
  | [], [], ls, r, e => by simp only [takeSl] at e; injection e with e; subst e; rfl
  | [], _ :: _, _, _, e => by simp [takeSl] at e
  | _ :: _, [], _, _, e => by simp [takeSl] at e
  | (t, h) :: hs, (u, a) :: az, ls, r, e => by
    simp only [takeSl] at e
    split at e
    · rename_i l hb h1
      split at e
      · rename_i m h2
        injection e with e; subst e
        have := beqT hb; subst this
        simp only [fillSl, List.append_assoc, takeV_fill _ h1, takeSl_fill r h2]
      · cases e
    · cases e

def takeIS : ISh → Item → Option (List Leaf)
  | .obj hs, .obj l => takeHs hs l
  | .tab hs, .tab l => takeHs hs l
  | .row k es, .row k' es' xs => match rkEq k k' && Nat.beq es es' with | true => some [.l xs] | false => none
  | .view k es, .view k' es' xs => match rkEq k k' && Nat.beq es es' with | true => some [.l xs] | false => none
  | .dview k es, .dview k' es' xs => match rkEq k k' && Nat.beq es es' with | true => some [.ll xs] | false => none
  | .mp kk vk, .mp kk' vk' l => match mkEq kk kk' && kindEq vk vk' with | true => some [.ll l] | false => none
  | _, _ => none

def fillI : ISh → List Leaf → Item × List Leaf
  | .obj hs, r => match fillHs hs r with | (l, r) => (.obj l, r)
  | .tab hs, r => match fillHs hs r with | (l, r) => (.tab l, r)
  | .row k es, .l xs :: r => (.row k es xs, r)
  | .view k es, .l xs :: r => (.view k es xs, r)
  | .dview k es, .ll xs :: r => (.dview k es xs, r)
  | .mp kk vk, .ll l :: r => (.mp kk vk l, r)
  | _, r => (.obj [], r)

theorem takeI_fill {h : ISh} {v : Item} {ls : List Leaf} (r : List Leaf) (e : takeIS h v = some ls) : fillI h (ls ++ r) = (v, r) := by
  unfold takeIS at e
  split at e
  · simp only [fillI, takeHs_fill r e]
  · simp only [fillI, takeHs_fill r e]
  · split at e
    · rename_i hk
      simp only [Bool.and_eq_true] at hk
      injection e with e; subst e; rw [rkEq_iff.1 hk.1, beqT hk.2]; rfl
    · cases e
  · split at e
    · rename_i hk
      simp only [Bool.and_eq_true] at hk
      injection e with e; subst e; rw [rkEq_iff.1 hk.1, beqT hk.2]; rfl
    · cases e
  · split at e
    · rename_i hk
      simp only [Bool.and_eq_true] at hk
      injection e with e; subst e; rw [rkEq_iff.1 hk.1, beqT hk.2]; rfl
    · cases e
  · split at e
    · rename_i hk
      simp only [Bool.and_eq_true] at hk
      injection e with e; subst e; rw [mkEq_iff.1 hk.1, kindEq_iff.1 hk.2]; rfl
    · cases e
  · cases e

def takeIs : List (Nat × ISh) → List (Nat × Item) → Option (List Leaf)
  | [], [] => some []
  | (t, h) :: hs, (u, a) :: az => match Nat.beq t u, takeIS h a with
    | true, some l => match takeIs hs az with
      | some m => some (l ++ m)
      | none => none
    | _, _ => none
  | _, _ => none

def fillIs : List (Nat × ISh) → List Leaf → List (Nat × Item) × List Leaf
  | [], r => ([], r)
  | (t, h) :: hs, r => match fillI h r with
    | (a, r) => match fillIs hs r with
      | (az, r) => ((t, a) :: az, r)

theorem takeIs_fill : ∀ {hs : List (Nat × ISh)} {az : List (Nat × Item)} {ls : List Leaf} (r : List Leaf), takeIs hs az = some ls → fillIs hs (ls ++ r) = (az, r)
  | [], [], ls, r, e => by simp only [takeIs] at e; injection e with e; subst e; rfl
  | [], _ :: _, _, _, e => by simp [takeIs] at e
  | _ :: _, [], _, _, e => by simp [takeIs] at e
  | (t, h) :: hs, (u, a) :: az, ls, r, e => by
    simp only [takeIs] at e
    split at e
    · rename_i l hb h1
      split at e
      · rename_i m h2
        injection e with e; subst e
        have := beqT hb; subst this
        simp only [fillIs, List.append_assoc, takeI_fill _ h1, takeIs_fill r h2]
      · cases e
    · cases e

def proj (σ : Shp) (s : AS) : Option (List Leaf) := match Nat.beq σ.n s.n && Nat.beq σ.lo s.lo, takeSl σ.slots s.tmps, takeIs σ.items s.items with
  | true, some a, some b => some (a ++ b)
  | _, _, _ => none

def fill (σ : Shp) (ls : List Leaf) : AS := match fillSl σ.slots ls with
  | (ts, r) => { n := σ.n, lo := σ.lo, tmps := ts, items := (fillIs σ.items r).1 }

theorem proj_fill {σ : Shp} {s : AS} {ls : List Leaf} (h : proj σ s = some ls) : fill σ ls = s := by
  unfold proj at h
  split at h
  · rename_i a b hn ha hb
    injection h with h; subst h
    simp only [Bool.and_eq_true] at hn
    have e1 := beqT hn.1; have e2 := beqT hn.2
    have h3 := takeIs_fill [] hb
    rw [List.append_nil] at h3
    simp only [fill, takeSl_fill b ha, h3, e1, e2]
  · cases h

def mkL (ν : Nrm) (σ : Shp) (F : (R : Type) → List Leaf → (X → AS → Option R) → Option R) : LoopFn := fun R s k =>
  match nrm ν s with
  | some s' => match proj σ s' with
    | some ls => F R ls k
    | none => none
  | none => none

def roundsOf {R : Type} (E : Env) (ν : Nrm) (id : Nat) (body : Code) (k : X → AS → Option R) (fuel : Nat) (s : AS) : Option R := iter ν (fun s k => exec E body s k) id k fuel s

theorem loopOk_of {P : Program} {E : Env} (hΘ : TypesOk P E.Θ) (hΓ : CtxOk P E.Γ) (hm : P.follows .mixedOrders = true) {ν : Nrm} {σ : Shp} {id : Nat} {body : Code} {F : (R : Type) → List Leaf → (X → AS → Option R) → Option R}
    (hlp : LoopsOk P E.lp body) (h : ∀ R ls k r, F R ls k = some r → ∃ fuel, roundsOf E ν id body k fuel (fill σ ls) = some r) : LoopOk P (mkL ν σ F) id body := by
  intro R s k r hk
  unfold mkL at hk
  split at hk
  · rename_i s' hn
    split at hk
    · rename_i ls hp
      obtain ⟨fuel, hf⟩ := h R ls k r hk
      rw [proj_fill hp] at hf
      have hb : ∀ (s : AS) (k : X → AS → Option R) (r : R), exec E body s k = some r → ∃ e s', k e s' = some r ∧ Reaches P body s e s' := (exec_sound hΘ hΓ hm body hlp).1
      obtain ⟨e, s'', h1, h2⟩ := iter_rounds hb _ _ _ hf
      obtain ⟨he, n, hw⟩ := rounds_wp h2
      have hl : ∀ w0 Mu ρ a w (Q : Exit → Act → World → Prop), Sim w0 Mu ρ s a w → (∀ a' w' ρ', Sim w0 Mu ρ' s'' a' w' → Exit.inBlock id Q e.out a' w') → (Code.block id (.loop body)).wp P Q a w := by
        intro w0 Mu ρ a w Q hs hQ
        obtain ⟨ρ2, hs2⟩ := hs.nrm hn
        exact wp_block (wp_loop_rounds n (hw w0 Mu ρ2 a w _ hs2 hQ))
      cases e with
      | normal => exact absurd rfl he
      | ret => exact ⟨.ret, s'', h1, fun w0 Mu ρ a w Q hs hQ => hl w0 Mu ρ a w Q hs hQ⟩
      | exit i =>
        simp only at h1
        split at h1
        · rename_i e
          have e := beqT e; subst e
          refine ⟨.normal, s'', h1, fun w0 Mu ρ a w Q hs hQ => hl w0 Mu ρ a w Q hs fun a' w' ρ' hs' => ?_⟩
          simp only [X.out, Exit.inBlock, if_true]; exact hQ a' w' ρ' hs'
        · rename_i e
          have e := beqN e
          refine ⟨.exit i, s'', h1, fun w0 Mu ρ a w Q hs hQ => hl w0 Mu ρ a w Q hs fun a' w' ρ' hs' => ?_⟩
          simp only [X.out, Exit.inBlock, if_neg e]; exact hQ a' w' ρ' hs'
    · cases hk
  · cases hk

theorem Contract.refine {P : Program} {g : Nat} {sig : Sig} {impl : (R : Type) → List DV → (List DV → Option R) → Option R}
    (h : ∀ R ds (k : List DV → Option R) r, impl R ds k = some r → ∃ impl', Contract P g { sig := sig, impl := impl' } ∧ impl' R ds k = some r) : Contract P g { sig := sig, impl := impl } := by
  intro R ds k r hk
  obtain ⟨impl', h1, h2⟩ := h R ds k r hk
  exact h1 R ds k r h2

end Go.Eng

namespace Go.Eng
open Go

def takeInts (k : IntKind) : List Int → List Value → Option (List Value)
  | [], cs => some cs
  | x :: xs, c :: cs => match c with
    | .int k' y => match kindEq k k' && decide (x = y) with | true => takeInts k xs cs | false => none
    | _ => none
  | _ :: _, [] => none

theorem takeInts_eq {k : IntKind} : ∀ {xs : List Int} {cs r : List Value}, takeInts k xs cs = some r → cs = xs.map (Value.int k) ++ r
  | [], cs, r, h => by
    have h : some cs = some r := h
    injection h with h
  | x :: xs, [], r, h => by simp [takeInts] at h
  | x :: xs, c :: cs, r, h => by
    simp only [takeInts] at h
    split at h
    · rename_i k' y
      split at h
      · rename_i hb
        simp only [Bool.and_eq_true, decide_eq_true_eq] at hb
        rw [takeInts_eq h, kindEq_iff.1 hb.1, hb.2]; rfl
      · cases h
    · cases h

def relLB : List At → List Value → Bool
  | [], [] => true
  | a :: l, cs => match a with
    | .ints k m xs => match takeInts k xs cs with
      | some r => Nat.beq xs.length m && relLB l r
      | none => false
    | a => match cs with
      | c :: r => (match a, c with
        | .int k x, .int k' y => kindEq k k' && decide (x = y)
        | .bool x, .bool y => (match x, y with | true, true => true | false, false => true | _, _ => false)
        | .flt f x, .float f' y => fltEq f' f && Nat.beq y x.toNat
        | .nils, .slice none 0 0 => true
        | .nilp, .pointer none => true
        | .dead, v => v.oneCell'
        | _, _ => false) && relLB l r
      | [] => false
  | [], _ :: _ => false

theorem relLB_rel : ∀ {l : List At} {cs : List Value}, relLB l cs = true → RelL rho0 sh0 l cs
  | [], [], _ => rfl
  | [], _ :: _, h => by simp [relLB] at h
  | a :: l, cs, h => by
    simp only [relLB] at h
    split at h
    · rename_i k m xs
      split at h
      · rename_i r hr
        simp only [Bool.and_eq_true] at h
        exact ⟨_, r, takeInts_eq hr, ⟨rfl, beqT h.1⟩, relLB_rel h.2⟩
      · cases h
    · split at h
      · rename_i c r
        simp only [Bool.and_eq_true] at h
        refine ⟨[c], r, rfl, ?_, relLB_rel h.2⟩
        have h1 := h.1
        split at h1
        · simp only [Bool.and_eq_true, decide_eq_true_eq] at h1
          rw [kindEq_iff.1 h1.1, h1.2]; rfl
        · split at h1
          · rfl
          · rfl
          · cases h1
        · simp only [Bool.and_eq_true] at h1
          rw [fltEq_iff.1 h1.1, beqT h1.2]; rfl
        · rfl
        · rfl
        · exact ⟨_, rfl, h1⟩
        · cases h1
      · cases h

def nilB {α : Type} : List α → Bool
  | [] => true
  | _ => false

theorem nilB_eq {α : Type} {l : List α} (h : nilB l = true) : l = [] := by cases l <;> simp_all [nilB]

def fieldsB : List (Nat × Nat) → List (Nat × Nat) → Bool
  | [], [] => true
  | (a, b) :: l, (c, d) :: m => Nat.beq a c && (Nat.beq b d && fieldsB l m)
  | _, _ => false

theorem fieldsB_eq : ∀ {l m : List (Nat × Nat)}, fieldsB l m = true → l = m
  | [], [], _ => rfl
  | [], _ :: _, h => by simp [fieldsB] at h
  | _ :: _, [], h => by simp [fieldsB] at h
  | (a, b) :: l, (c, d) :: m, h => by
    simp only [fieldsB, Bool.and_eq_true] at h
    rw [beqT h.1, beqT h.2.1, fieldsB_eq h.2.2]

def tdB : TD → TypeDesc → Bool
  | .int k, .int k' => kindEq k' k
  | .bool, .bool => true
  | .slice e, .slice e' => Nat.beq e' e
  | .str, .string => true
  | .flt f, .float f' => fltEq f' f
  | .map k e, .map k' e' => Nat.beq k' k && Nat.beq e' e
  | .ptr, .pointer _ => true
  | .array m e, .array m' e' => Nat.beq m' m && Nat.beq e' e
  | .struct fs, .struct fields => fieldsB (fields.toList.map (fun f => (f.type, f.offset))) fs
  | .other, .struct _ => false
  | .other, .array _ _ => false
  | .other, _ => true
  | _, _ => false

theorem tdB_desc {a : TD} {d : TypeDesc} (h : tdB a d = true) : TDesc a d := by
  unfold tdB at h
  split at h
  · exact kindEq_iff.1 h
  · trivial
  · exact beqT h
  · trivial
  · exact fltEq_iff.1 h
  · simp only [Bool.and_eq_true] at h; exact ⟨beqT h.1, beqT h.2⟩
  · trivial
  · simp only [Bool.and_eq_true] at h; exact ⟨beqT h.1, beqT h.2⟩
  · exact fieldsB_eq h
  · cases h
  · cases h
  · rename_i h1 h2
    cases d <;> first | trivial | (exact (h1 _ rfl).elim) | (exact (h2 _ _ rfl).elim)
  · cases h

def cmpB (P : Program) (t : Nat) (ti : TI) : Bool := match ti.d with
  | .struct _ => !(P.stoodInHeld t) && (!(P.eqGuardType P.depth t) && (P.fieldsOf t).toList.all fun f => f.name != "_")
  | _ => true

theorem cmpB_ok {P : Program} {t : Nat} {ti : TI} (h : cmpB P t ti = true) : ∀ fs, ti.d = .struct fs → P.stoodInHeld t = false ∧ P.eqGuardType P.depth t = false ∧ ∀ f ∈ (P.fieldsOf t).toList, f.name ≠ "_" := by
  intro fs hd
  unfold cmpB at h
  rw [hd] at h
  simp only [Bool.and_eq_true, Bool.not_eq_true', List.all_eq_true, bne_iff_ne, ne_eq] at h
  exact h

def zB (P : Program) (t : Nat) (ti : TI) : Bool := match ti.d with
  | .int k => match P.info? t with
    | some i => match i.zero with
      | some (.int k' z) => kindEq k' k && decide (z = 0)
      | _ => false
    | none => false
  | _ => true

theorem zB_ok {P : Program} {t : Nat} {ti : TI} (h : zB P t ti = true) : ∀ k, ti.d = .int k → ∃ i, P.info? t = some i ∧ i.zero = some (.int k 0) := by
  intro k hd
  unfold zB at h
  rw [hd] at h
  simp only at h
  split at h
  · rename_i i hi
    split at h
    · rename_i k' z hz
      simp only [Bool.and_eq_true, decide_eq_true_eq] at h
      have := kindEq_iff.1 h.1
      subst this
      rw [h.2] at hz
      exact ⟨i, hi, hz⟩
    · cases h
  · cases h

def tyB (P : Program) (t : Nat) (ti : TI) : Bool :=
  match P.info? t, P.underlying t with
  | some i, some d => match i.zero with
    | some z => (Nat.beq i.size ti.size && Nat.beq i.bytes ti.bytes) && (nilB (namesL ti.zero) && (relLB ti.zero z.cells.toList && (tdB ti.d d && (cmpB P t ti && zB P t ti))))
    | none => false
  | _, _ => false

theorem tyB_ok {P : Program} {t : Nat} {ti : TI} (h : tyB P t ti = true) : TyOk P t ti := by
  unfold tyB at h
  split at h
  · rename_i i d h1 h2
    split at h
    · rename_i z hz
      simp only [Bool.and_eq_true] at h
      obtain ⟨⟨a1, a2⟩, a3, a4, a5, a6, a7⟩ := h
      exact ⟨⟨i, h1, beqT a1, beqT a2, nilB_eq a3, z, hz, relLB_rel a4⟩, ⟨d, h2, tdB_desc a5⟩, cmpB_ok a6, zB_ok a7⟩
    · cases h
  · cases h

def tysB (P : Program) : Types → Bool
  | [] => true
  | (t, ti) :: l => tyB P t ti && tysB P l

theorem tysB_ok {P : Program} : ∀ {Θ : Types}, tysB P Θ = true → TypesOk P Θ
  | [], _, t, ti, h => by simp [findTy] at h
  | (u, v) :: l, h, t, ti, hf => by
    simp only [tysB, Bool.and_eq_true] at h
    simp only [findTy] at hf
    split at hf
    · rename_i e; injection hf with hf; subst hf; rw [beqT e]; exact tyB_ok h.1
    · exact tysB_ok h.2 t ti hf

structure FnOk (P : Program) (g : Nat) (fn : Func) (n : Nat) (body : Code) (rv : List ResultVar) : Prop where
  look : P.funcs[g]? = some fn
  body : fn.body = some body
  n : fn.ntmps = n
  rv : fn.results.toList = rv
  name : fn.name ≠ "runtime.NumGoroutine"

theorem ctxOk_nil {P : Program} : CtxOk P [] := fun g fi h => by simp [findF] at h

theorem ctxOk_cons {P : Program} {g : Nat} {fi : FI} {Γ : Ctx} {fn : Func} {n : Nat} {body : Code} {rv : List ResultVar} (_hf : FnOk P g fn n body rv) (hs : sigOk fi.sig = true) (hc : Contract P g fi) (h : CtxOk P Γ) : CtxOk P ((g, fi) :: Γ) := by
  intro g' fi' hg
  simp only [findF] at hg
  split at hg
  · rename_i e
    injection hg with hg; subst hg
    have e := beqT e; subst e
    exact ⟨hc, hs⟩
  · exact h g' fi' hg

theorem ctxOk_ext {P : Program} {g : Nat} {fi : FI} {Γ : Ctx} (hs : sigOk fi.sig = true) (hc : Contract P g fi) (h : CtxOk P Γ) : CtxOk P ((g, fi) :: Γ) := by
  intro g' fi' hg
  simp only [findF] at hg
  split at hg
  · rename_i e
    injection hg with hg; subst hg
    have e := beqT e; subst e
    exact ⟨hc, hs⟩
  · exact h g' fi' hg

end Go.Eng

namespace Go.Eng
open Go

@[reducible] def nI (n : Nat) : Int := (n : Int)


def bodyIn (id : Nat) : List (Nat × Code) → Code
  | [] => .skip
  | (u, c) :: l => match Nat.beq id u with | true => c | false => bodyIn id l

def AllOk (P : Program) (lp : List (Nat × LoopFn)) : List (Nat × Code) → Prop
  | [] => True
  | p :: l => (∀ L, findL p.1 lp = some L → LoopOk P L p.1 p.2) ∧ AllOk P lp l

theorem loopsOk_of {P : Program} {lp : List (Nat × LoopFn)} {c : Code} {l : List (Nat × Code)} (h : loopsIn c = l) (ho : AllOk P lp l) : LoopsOk P lp c := by
  intro p hp
  rw [h] at hp
  clear h
  induction l with
  | nil => cases hp
  | cons q l ih =>
    rcases List.mem_cons.1 hp with e | hp
    · subst e; exact ho.1
    · exact ih ho.2 hp

theorem allOk_skip {P : Program} {lp : List (Nat × LoopFn)} {id : Nat} {c : Code} {l : List (Nat × Code)} (hL : findL id lp = none) (ho : AllOk P lp l) : AllOk P lp ((id, c) :: l) := by
  refine ⟨fun L' h' => ?_, ho⟩
  rw [show findL (id, c).1 lp = none from hL] at h'
  cases h'

theorem allOk_cons {P : Program} {lp : List (Nat × LoopFn)} {L : LoopFn} {id : Nat} {c : Code} {l : List (Nat × Code)} (hL : findL id lp = some L) (h : LoopOk P L id c) (ho : AllOk P lp l) : AllOk P lp ((id, c) :: l) := by
  refine ⟨fun L' h' => ?_, ho⟩
  rw [show findL (id, c).1 lp = some L from hL] at h'
  injection h' with h'; subst h'; exact h

end Go.Eng

namespace Go.Eng
open Go

theorem law_calls {P : Program} {E : Env} (hΘ : TypesOk P E.Θ) (hΓ : CtxOk P E.Γ) (hm : P.follows .mixedOrders = true) {f : Nat} {fn : Func} {n : Nat} {body : Code} {rv : List ResultVar} (ok : FnOk P f fn n body rv) (hlp : LoopsOk P E.lp body)
    {args : Array Value} {W : World} {s0 : AS} {ρ : Rho} {Mu : MuT} (hMu : ∀ b, ¬ Mu b) (hs : Sim W Mu ρ s0 { tmps := args ++ Array.replicate (n - args.size) undef, defers := [] } W)
    (he : exec E body s0 (retK E.Θ { ps := [], rs := [.val] } [] rv some) = some [.v (.one (.bool true))]) :
    Calls P f args W fun e W' => e = .returned (.bool true) ∧ Still W W' ∧ W.heap.size ≤ W'.heap.size ∧ ∀ b, b < W.heap.size → W'.heap[b]? = W.heap[b]? := by
  obtain ⟨e, s', h1, h2⟩ := (exec_sound hΘ hΓ hm body hlp).1 _ _ _ he
  have key : ∃ vs os us ms, (∀ i, e ≠ .exit i) ∧ resSV E.Θ s' rv = some vs ∧ outsOf s'.I [.val] vs = some (os, us) ∧ mutOuts s'.I 0 [] [] = some ms ∧ some (os ++ ms) = some [.v (.one (.bool true))] := by
    unfold retK at h1
    split at h1
    · cases h1
    · rename_i he
      split at h1
      · cases h1
      · split at h1
        · rename_i vs hvs
          split at h1
          · rename_i os us ms ho hmm
            split at h1
            · exact ⟨vs, os, us, ms, fun i h => he i h, hvs, ho, hmm, h1⟩
            · cases h1
          · cases h1
        · cases h1
  obtain ⟨vs, os, us, ms, hx, hvs, ho, hmo, hk⟩ := key
  have hms : ms = [] := by simp only [mutOuts] at hmo; injection hmo with hmo; exact hmo.symm
  subst hms
  rw [List.append_nil] at hk
  injection hk with hk
  subst hk
  obtain ⟨o1, o2, U, o3, o4, o5, o6⟩ := outsOf_spec ho
  obtain ⟨v, rfl⟩ : ∃ v, vs = [v] := by
    cases vs with
    | nil => simp at o2
    | cons v l => cases l with
      | nil => exact ⟨v, rfl⟩
      | cons _ _ => simp at o2
  obtain ⟨u, rfl⟩ : ∃ u, U = [u] := by
    cases U with
    | nil => simp at o3
    | cons v l => cases l with
      | nil => exact ⟨v, rfl⟩
      | cons _ _ => simp at o3
  have hv := o5 0 _ _ _ _ rfl rfl rfl rfl
  have hv : v = .one (.bool true) := by
    simp only [outOf] at hv
    split at hv
    · injection hv with hv; injection hv with h1 h2; injection h1
    · cases hv
  subst hv
  have hn := ok.n
  subst hn
  refine calls_of_wp ok.look ok.body ?_
  refine reaches_iff.1 h2 W _ _ _ _ _ hs ?_
  intro a' W' ρ' hs'
  obtain ⟨Xs, x1, x2, x3, x4⟩ := resSV_spec hΘ hs' hvs
  have hpost : a'.defers = [] ∧ ∃ v, (results fn a'.tmps).run P W' = .ok v W' ∧ (Ending.returned v = .returned (.bool true) ∧ Still W W' ∧ W.heap.size ≤ W'.heap.size ∧ ∀ b, b < W.heap.size → W'.heap[b]? = W.heap[b]?) := by
    refine ⟨hs'.defers, resVal Xs, results_eq fn _ _ (by rw [ok.rv]; exact x4), ?_, hs'.still, hs'.mono, fun b hb => hs'.frame b hb (hMu b)⟩
    obtain ⟨X, rfl⟩ : ∃ X, Xs = [X] := by
      have : Xs.length = 1 := by rw [x1, ← x2]; rfl
      cases Xs with
      | nil => simp at this
      | cons v l => cases l with
        | nil => exact ⟨v, rfl⟩
        | cons _ _ => simp at this
    have := x3 0 _ X rfl rfl
    simp only [RelSV, RelAt, List.cons.injEq, and_true] at this
    rw [this]; rfl
  cases e with
  | normal => exact hpost
  | ret => exact hpost
  | exit i => exact absurd rfl (hx i)

end Go.Eng

namespace Go.Eng
open Go Go.ChangeShapes Go.WideShapes Go.RowKit

section
variable {H : Type} {enc : TypeId × Value → H} {P : Program}


theorem post_of_law {f : Func} {s : ChangeSpec} {apart fresh handsOn again : Bool} {W W' : World} {args : Array Value} {ds gs : List (DataW H)} {before : List MemPlace} {tb : TypeId}
    (hl : laidOutB P = true) (hres : f.resultTypes = #[tb]) (htb : P.underlying tb = some .bool) (hvs : s.vars = [])
    (hts : ∀ t ∈ f.params.toList, P.readableRec t = true ∧ t < P.types.size)
    (hfn : (s.fn H (ds ++ gs)).results = [.lit (.bool true)] ∧ (s.fn H (ds ++ gs)).args = ds ∧ (s.fn H (ds ++ gs)).vars = [])
    (hW : DataW.Whole enc P f.params.toList s.vars apart W args.toList ds gs before)
    (hst : Still W W') (hsz : W.heap.size ≤ W'.heap.size) (hbl : ∀ b, b < W.heap.size → W'.heap[b]? = W.heap[b]?) :
    s.post enc P f apart fresh handsOn again W args (.bool true) W' := by
  obtain ⟨W2, hW2, hB⟩ : ∃ W2 : World, W2.heap = W'.heap ∧ Below W.heap.size W W2 := ⟨{ W' with tape := W.tape }, rfl, ⟨hst.1, rfl, hst.2, hsz, hbl⟩⟩
  have hlt : ∀ p ∈ before, p.block < W.heap.size := fun p hp => hW.lt p hp
  have hW0 := hW
  obtain ⟨p, q, hA, hV, rfl, hz, hn⟩ := hW
  rw [hvs] at hV
  obtain ⟨rfl, rfl⟩ := trodVars_none hV
  rw [List.append_nil] at hlt hz hn
  have hargs2 : ∀ sp : Nat → Bool, (∀ b, b < W.heap.size → sp b = true) → ∀ {ts : List TypeId} {vs : List Value} {ds : List (DataW H)} {p : List MemPlace}, (∀ t ∈ ts, P.readableRec t = true ∧ t < P.types.size) → (∀ x ∈ p, x.block < W.heap.size) →
      DataW.TrodAll enc P W 0 (fun _ => true) true ts vs ds p → DataW.TrodAll enc P W' 0 sp true ts vs ds p := by
    intro sp hsp ts
    induction ts with
    | nil =>
      intro vs ds p _ _ h
      obtain ⟨rfl, rfl, rfl⟩ := trodAll_nil h
      exact trodAll_mk0
    | cons t ts ih =>
      intro vs ds p ht hp h
      obtain ⟨v, vs1, d, ds1, a, b, rfl, rfl, rfl, h1, h2⟩ := trodAll_cons h
      have r1 := WideElems.Trod_stays hl (ht t (.head _)).1 (ht t (.head _)).2 h1 (fun x hx => hB.same (hp x (by simp [hx]))) (sp' := sp) (fun x hx => hsp _ (hp x (by simp [hx])))
      exact ⟨a, b, DataW.Trod.of_heap hW2 r1, ih (fun u hu => ht u (.tail _ hu)) (fun x hx => hp x (by simp [hx])) h2, rfl⟩
  have hres2 : ∀ (b : Nat) (sp : Nat → Bool) (hd : Bool), DataW.TrodAll enc P W' b sp hd f.resultTypes.toList ((Value.bool true).resultList f.resultTypes.size) (s.fn H (ds ++ [])).results [] := by
    intro b sp hd
    rw [hres, hfn.1]
    exact trodAll_mk1 (shut_bool htb true)
  have hvar2 : ∀ sp, DataW.TrodVars enc P W' sp s.vars (s.fn H (ds ++ [])).vars [] := by
    intro sp; rw [hvs, hfn.2.2]; rfl
  refine ⟨ds, [], p ++ [], [], p, [], hW0, hres2 _ _ _, ?_, hvar2 _, ?_, fun _ => ⟨?_, [.lit (.bool true)] ++ ds, [], ([] ++ p) ++ [], ⟨[] ++ p, [], ?_, ?_, rfl, ?_, ?_⟩, ?_⟩⟩
  · rw [hfn.2.1]
    exact hargs2 _ (fun b hb => by simpa using hb) hts hlt hA
  · refine ⟨hst.1, hst.2, fun i hi => ?_⟩
    rw [hbl i hi]
    split <;> simp_all
  · exact ok_one hres rfl (okWide_bool_mk htb true)
  · have h1 := hres2 0 (fun _ => true) true
    rw [hfn.1] at h1
    exact trodAll_append (hargs2 _ (fun _ _ => rfl) hts hlt hA) h1
  · rw [hvs]; rfl
  · intro b off hp
    rw [List.append_nil, List.nil_append] at hp
    have := hB.frozen (p := ⟨b, off, none⟩) (hlt _ hp)
    have e : W'.frozen? ⟨b, off, none⟩ = W2.frozen? ⟨b, off, none⟩ := by unfold World.frozen?; rw [hW2]
    rw [e, this]
    exact hz b off hp
  · intro ha
    rw [List.append_nil, List.nil_append]
    exact hn ha
  · intro x hx _
    simpa using hx


def IntEl (H : Type) (enc : TypeId × Value → H) (P : Program) (e : Nat) (k : IntKind) (es : Nat) : Prop :=
  P.cellsOf e = es ∧ ∀ (w : World) base sp hd n cs (x : DataW H × List MemPlace), DataW.trod enc P w base sp hd n e cs = some x → ∃ ys : List Int, cs = ys.map (Value.int k) ∧ ys.length = es ∧ ∀ y ∈ ys, (Lit.int k y).wf = true

theorem intEl_int {e : Nat} {k : IntKind} (he : P.underlying e = some (.int k)) (hc : P.cellsOf e = 1) : IntEl H enc P e k 1 := by
  refine ⟨hc, fun w base sp hd n cs x h => ?_⟩
  obtain ⟨m, rfl, _, hw⟩ := DataW.trod_int he h
  exact ⟨[m], rfl, rfl, by simpa using hw⟩

theorem chunks {k : IntKind} {es : Nat} (hpos : 0 < es) : ∀ (n : Nat) (cs : List Value), cs.length = n * es → (∀ i, i < n → ∃ ys : List Int, (cs.drop (i * es)).take es = ys.map (Value.int k) ∧ ys.length = es ∧ ∀ y ∈ ys, (Lit.int k y).wf = true) →
    ∃ ys : List Int, cs = ys.map (Value.int k) ∧ ys.length = n * es ∧ ∀ y ∈ ys, (Lit.int k y).wf = true
  | 0, cs, h, _ => by
    have : cs = [] := List.eq_nil_of_length_eq_zero (by simpa using h)
    exact ⟨[], by simp [this], by simp, by simp⟩
  | n + 1, cs, h, hh => by
    obtain ⟨ys, e1, e2, e3⟩ := hh 0 (by omega)
    obtain ⟨zs, f1, f2, f3⟩ := chunks hpos n (cs.drop es) (by rw [List.length_drop, h, Nat.succ_mul]; omega) (fun i hi => by
      obtain ⟨ys, e1, e2, e3⟩ := hh (i + 1) (by omega)
      refine ⟨ys, ?_, e2, e3⟩
      rw [List.drop_drop, ← e1, Nat.succ_mul, Nat.add_comm])
    refine ⟨ys ++ zs, ?_, by rw [List.length_append, e2, f2, Nat.succ_mul]; omega, ?_⟩
    · rw [List.map_append, ← f1, ← e1]; simp
    · intro y hy
      rcases List.mem_append.1 hy with hy | hy
      · exact e3 y hy
      · exact f3 y hy

theorem intEl_array {t e n : Nat} {k : IntKind} {es : Nat} (ht : P.underlying t = some (.array n e)) (hc : P.cellsOf t = n * es) (hpos : 0 < es) (he : IntEl H enc P e k es) : IntEl H enc P t k (n * es) := by
  refine ⟨hc, fun w base sp hd m cs x h => ?_⟩
  obtain ⟨xs, m', rfl, rfl, hl, hlen, hf⟩ := DataW.trod_array ht h
  rw [hc] at hl
  refine chunks hpos n cs hl fun i hi => ?_
  have h1 := hf i hi
  rw [he.1, List.getElem?_eq_getElem (by omega)] at h1
  exact he.2 _ _ _ _ _ _ _ h1

theorem cells?_get {w : World} {base : Nat} {a : Addr} {n : Nat} {cs : List Value} (h : w.cells? base a n = some cs) : cs.length = n ∧ ∀ i, i < n → w.cell? (a.add i) = cs[i]? := by
  unfold World.cells? at h
  split at h
  · exact ⟨by simpa using mapM_some_length h, fun i hi => mapM_some_get h i i (by simp [hi])⟩
  · cases h

theorem open_view {t e : Nat} {k : IntKind} {es : Nat} (ht : P.underlying t = some (.slice e)) (hpos : 0 < es) (he : IntEl H enc P e k es) {w : World} {base : Nat} {sp : Nat → Bool} {hd : Bool} {fuel : Nat} {cs : List Value} {x : DataW H × List MemPlace}
    (h : DataW.trod enc P w base sp hd fuel t cs = some x) :
    ∃ (xs : List Int) (len c : Nat) (A : Option Addr) (loc : Option (Nat × Nat)), cs = [.slice A len c] ∧ len ≤ c ∧ xs.length = len * es ∧ ViewAt (.one k) xs loc w ∧ (0 < xs.length → A = loc.map (adr · 0)) ∧ (∀ p, loc = some p → p.1 < w.heap.size) ∧
      (∀ y ∈ xs, (Lit.int k y).wf = true) ∧ ((x.1 = .nil ∧ len = 0) ∨ ∃ elems spare, x.1 = .slice elems spare ∧ elems.length = len) := by
  rcases DataW.trod_slice ht h with ⟨rfl, rfl⟩ | ⟨a, len, cap, elems, rest, n, rfl, rfl, rfl, hb, hlc, hcm, hel, hget, _, _⟩
  · exact ⟨[], 0, 0, none, none, rfl, Nat.le_refl _, by simp, fun i x hx => by simp at hx, fun h => absurd h (by simp), (fun p hp => by cases hp), by simp, .inl ⟨rfl, rfl⟩⟩
  · rw [he.1] at hget
    have key : ∀ i, i < len → ∃ ys : List Int, ys.length = es ∧ (∀ y ∈ ys, (Lit.int k y).wf = true) ∧ ∀ j, j < es → w.cell? ((a.add (i * es)).add j) = (ys[j]?).map (Value.int k) := by
      intro i hi
      have h1 := hget i hi
      rw [List.getElem?_eq_getElem (by omega), Option.bind_eq_some_iff] at h1
      obtain ⟨cs', h2, h3⟩ := h1
      obtain ⟨ys, e1, e2, e3⟩ := he.2 _ _ _ _ _ _ _ h3
      obtain ⟨_, g2⟩ := cells?_get h2
      refine ⟨ys, e2, e3, fun j hj => ?_⟩
      rw [g2 j hj, e1, List.getElem?_map]
    have build : ∀ m, m ≤ len → ∃ xs : List Int, xs.length = m * es ∧ (∀ y ∈ xs, (Lit.int k y).wf = true) ∧ ∀ i x, xs[i]? = some x → w.cell? (a.add i) = some (.int k x) := by
      intro m
      induction m with
      | zero => intro _; exact ⟨[], by simp, by simp, by simp⟩
      | succ m ih =>
        intro hm
        obtain ⟨xs, h1, h2, h3⟩ := ih (by omega)
        obtain ⟨ys, g1, g2, g3⟩ := key m (by omega)
        have hspot : a.spot = none := by
          by_cases h0 : m = 0
          · subst h0
            have := g3 0 hpos
            rw [List.getElem?_eq_getElem (by omega)] at this
            simpa [Addr.add] using World.cell?_spot this
          · have hx : 0 < xs.length := by rw [h1]; exact Nat.mul_pos (by omega) hpos
            have := h3 0 _ (List.getElem?_eq_getElem hx)
            simpa [Addr.add] using World.cell?_spot this
        obtain ⟨b, off, spot⟩ := a
        simp only at hspot
        subst hspot
        refine ⟨xs ++ ys, by rw [List.length_append, h1, g1, Nat.succ_mul], ?_, ?_⟩
        · intro y hy
          rcases List.mem_append.1 hy with hy | hy
          · exact h2 y hy
          · exact g2 y hy
        · intro i x hx
          rw [List.getElem?_append] at hx
          split at hx
          · exact h3 i x hx
          · have hi : i - xs.length < es := by
              have := (List.getElem?_eq_some_iff.1 hx).1; omega
            have := g3 (i - xs.length) hi
            rw [hx, add_plain, add_plain] at this
            rw [add_plain]
            rw [show off + i = off + m * es + (i - xs.length) by rw [h1]; omega]
            exact this
    obtain ⟨xs, h1, h2, h3⟩ := build len (Nat.le_refl _)
    refine ⟨xs, len, cap, some a, if 0 < xs.length then some (a.block, a.off) else none, rfl, hlc, h1, ?_, ?_, ?_, h2, .inr ⟨elems.map (·.1), rest.map (·.1), rfl, by simpa using hel⟩⟩
    · intro i x hx
      have hp : 0 < xs.length := by have := (List.getElem?_eq_some_iff.1 hx).1; omega
      rw [if_pos hp]
      refine ⟨_, rfl, ?_⟩
      have hs : a.spot = none := by simpa [Addr.add] using World.cell?_spot (h3 0 _ (List.getElem?_eq_getElem hp))
      have := h3 i x hx
      obtain ⟨b, off, spot⟩ := a
      simp only at hs; subst hs
      rw [add_plain] at this
      exact this
    · intro hp
      rw [if_pos hp]
      have hs : a.spot = none := by simpa [Addr.add] using World.cell?_spot (h3 0 _ (List.getElem?_eq_getElem hp))
      obtain ⟨b, off, spot⟩ := a
      simp only at hs; subst hs
      rfl
    · intro p hp
      split at hp
      · rename_i hpos'
        injection hp with hp; subst hp
        have h4 := h3 0 _ (List.getElem?_eq_getElem hpos')
        unfold World.cell? at h4
        have e : (a.add 0).block = a.block := by simp [Addr.add]
        rw [e] at h4
        cases hh : w.heap[a.block]? with
        | none => rw [hh] at h4; cases h4
        | some o => exact (Array.getElem?_eq_some_iff.1 hh).1
      · cases hp


def RelArgs (ρ : Rho) (S : Sh) : List AV → List Value → Prop
  | [], [] => True
  | a :: l, v :: vs => RelV ρ S a v ∧ RelArgs ρ S l vs
  | _, _ => False

theorem relArgs_find {ρ : Rho} {S : Sh} : ∀ {l : List AV} {vs : List Value} (i t : Nat), RelArgs ρ S l vs → i ≤ t → RelV ρ S (findT t (numT i l)) (vs.getD (t - i) undef)
  | [], [], i, t, _, _ => trivial
  | [], _ :: _, _, _, h, _ => h.elim
  | _ :: _, [], _, _, h, _ => h.elim
  | a :: l, v :: vs, i, t, ⟨h1, h2⟩, hle => by
    show RelV ρ S (findT t ((i, a) :: numT (i + 1) l)) _
    rw [findT_cons]
    by_cases e : t = i
    · subst e
      rw [if_pos rfl, Nat.sub_self]; exact h1
    · rw [if_neg e]
      have := relArgs_find (i + 1) t h2 (by omega)
      rw [show t - i = (t - (i + 1)) + 1 by omega]
      exact this

theorem sim_startD {W : World} {s0 : AS} {ρ : Rho} {avs : List AV} {args : Array Value} {n : Nat} (hn : s0.n = n) (hargs : args.size ≤ n) (ht : s0.tmps = numT 0 avs) (nd : Nodup' s0.items)
    (hv : ∀ m it, s0.I m = some it → it.owned = false ∧ HoldI ρ s0.S m W it) (hlt : ∀ m p, ρ.loc m = some p → p.1 < W.heap.size) (hout : ∀ b, ρ.out b → b < W.heap.size) (hr : RelArgs ρ s0.S avs args.toList) :
    Sim W { blk := fun _ => False, loc := ρ.loc, tot := ρ.tot, sh := s0.S, out := ρ.out } ρ s0 { tmps := args ++ Array.replicate (n - args.size) undef, defers := [] } W := by
  refine ⟨rfl, nd, by simp [hn]; omega, ?_, fun m it hi => (hv m it hi).2, ?_, ?_, ?_, Nat.le_refl _, fun _ _ _ => rfl, fun m hm => ⟨rfl, rfl, .inl rfl⟩, ⟨rfl, rfl⟩, fun b hb => ⟨hout b hb, id⟩, rfl⟩
  · intro t
    have h1 := relArgs_find 0 t hr (Nat.zero_le _)
    unfold AS.T
    rw [ht]
    by_cases h : t < args.size
    · have : (args ++ Array.replicate (n - args.size) undef).getD t undef = args.toList.getD (t - 0) undef := by
        simp [Array.getD_eq_getD_getElem?, List.getD_eq_getElem?_getD, Array.getElem?_append, h]
      simp only [this]; exact h1
    · have : (args ++ Array.replicate (n - args.size) undef).getD t undef = args.toList.getD (t - 0) undef := by
        simp [Array.getD_eq_getD_getElem?, List.getD_eq_getElem?_getD, Array.getElem?_append, h, Array.getElem?_replicate]
        split <;> rfl
      simp only [this]; exact h1
  · intro m it p hi ho
    rw [(hv m it hi).1] at ho; cases ho
  · intro m m' it it' p q hi hi' ho
    rw [(hv m it hi).1] at ho; cases ho
  · intro m it p _ hp; exact hlt m p hp

theorem open_arr {t e n : Nat} {k : IntKind} {r : Reach} {b0 : Nat} {w : World} {base : Nat} {sp : Nat → Bool} {hd : Bool} {v : Value} {d : DataW H} {ps : List MemPlace} (ht : P.underlying t = some (.array n e)) (he : P.underlying e = some (.int k)) (hc : P.cellsOf e = 1) (hct : P.cellsOf t = n)
    (hval : Value.okWide P w r b0 t v) (h : DataW.Trod enc P w base sp hd t v d ps) : ∃ xs : List Int, v = .agg (xs.map (Value.int k)).toArray ∧ xs.length = n ∧ ∀ y ∈ xs, (Lit.int k y).wf = true := by
  unfold Value.okWide at hval
  rw [ht] at hval
  obtain ⟨cs, rfl, hs, _⟩ := hval
  obtain ⟨fuel, h⟩ := h
  have h1 := (intEl_array (H := H) (enc := enc) ht (by rw [hct, Nat.mul_one]) (by omega) (intEl_int he hc)).2 _ _ _ _ _ _ _ h
  obtain ⟨ys, e1, e2, e3⟩ := h1
  refine ⟨ys, ?_, by simpa using e2, e3⟩
  simp only [Value.cells] at e1
  rw [← e1]

theorem rel_own {ρ : Rho} {S : Sh} {m es len c : Nat} {A : Option Addr} {xs : List Int} {loc : Option (Nat × Nat)} {cs : List Value} (hS : S m = some (.view es xs.length)) (h1 : cs = [.slice A len c]) (h2 : len ≤ c) (h3 : xs.length = len * es) (h5 : 0 < xs.length → A = loc.map (adr · 0)) (hpos : 0 < es) (hloc : ρ.loc m = loc := by rfl) :
    RelAt ρ S (.own m) cs := by
  simp only [RelAt, hS]
  rw [h3, rl_mul hpos, hloc]
  exact ⟨A, c, h1, h2, by rw [← h3]; exact h5⟩

def locOf (l : List (Nat × Option (Nat × Nat))) (m : Nat) : Option (Nat × Nat) := match l with
  | [] => none
  | (u, p) :: r => match Nat.beq m u with | true => p | false => locOf r m

end
end Go.Eng

namespace Go.Eng
open Go Go.ChangeShapes Go.WideShapes Go.RowKit
end Go.Eng

namespace Go.Eng
open Go Go.ChangeShapes Go.WideShapes Go.RowKit

section
variable {P : Program} {H : Type} {enc : TypeId × Value → H}

structure RowOf (k : IntKind) (es : Nat) (w : World) (a : Addr) (i : Nat) (el : Option (DataW H)) (row : List Int) : Prop where
  ex : ∃ A m c pl, w.cell? (a.add i) = some (.slice A m c) ∧ row.length = m * es ∧ m ≤ c ∧ (0 < m → A = pl.map (adr · 0)) ∧ ViewAt (.one k) row pl w ∧ (∀ q, pl = some q → q.1 < w.heap.size) ∧
    ∃ d, el = some d ∧ ((d = .nil ∧ m = 0) ∨ ∃ elems spare, d = .slice elems spare ∧ elems.length = m)
  wf : ∀ y ∈ row, (Lit.int k y).wf = true

end
end Go.Eng

namespace Go.Eng
open Go Go.ChangeShapes Go.WideShapes Go.RowKit

section
variable {H : Type} {enc : TypeId × Value → H} {P : Program}

end
end Go.Eng

