/- A part of the proof: SealCounts: for any key, number and texts whose data stay within 1,048,576: the boxes of a sealer have numbers that rise by one, each opens by its number, and behind the last number there is none. -/
import Derived.Test.YtiaddnmloonhgaaSealCountsUptoSaidT3
set_option linter.unusedVariables false
set_option linter.unusedSimpArgs false

/- The engine: what a piece of code does not look at stays as it is. -/
namespace Go.Eng
open Go

def partI (K : List Nat) : List (Nat × Item) → List (Nat × Item)
  | [] => []
  | (n, it) :: l => match memN n K with | true => (n, it) :: partI K l | false => partI K l
def partO (K : List Nat) : List (Nat × Item) → List (Nat × Item)
  | [] => []
  | (n, it) :: l => match memN n K with | true => partO K l | false => (n, it) :: partO K l

theorem find_partI {K : List Nat} {n : Nat} : ∀ {l : List (Nat × Item)}, findI n (partI K l) = if n ∈ K then findI n l else none
  | [] => by simp [partI, findI]
  | (u, it) :: l => by
    simp only [partI]
    split
    · rename_i h
      rw [findI_cons, findI_cons, find_partI (l := l)]
      by_cases e : n = u
      · subst e; simp [memN_iff.1 h]
      · simp [e]
    · rename_i h
      rw [findI_cons, find_partI (l := l)]
      by_cases e : n = u
      · subst e; simp [memN_false.1 h]
      · simp [e]
theorem find_partO {K : List Nat} {n : Nat} : ∀ {l : List (Nat × Item)}, findI n (partO K l) = if n ∈ K then none else findI n l
  | [] => by simp [partO, findI]
  | (u, it) :: l => by
    simp only [partO]
    split
    · rename_i h
      rw [findI_cons, find_partO (l := l)]
      by_cases e : n = u
      · subst e; simp [memN_iff.1 h]
      · simp [e]
    · rename_i h
      rw [findI_cons, findI_cons, find_partO (l := l)]
      by_cases e : n = u
      · subst e; simp [memN_false.1 h]
      · simp [e]
theorem names_partI {K : List Nat} {n : Nat} : ∀ {l : List (Nat × Item)}, n ∈ putNames (partI K l) → n ∈ putNames l ∧ n ∈ K
  | [], h => by cases h
  | (u, it) :: l, h => by
    simp only [partI] at h
    split at h
    · rename_i hk
      rcases List.mem_cons.1 h with e | h
      · subst e; exact ⟨.head _, memN_iff.1 hk⟩
      · have := names_partI h; exact ⟨.tail _ this.1, this.2⟩
    · have := names_partI h; exact ⟨.tail _ this.1, this.2⟩
theorem names_partO {K : List Nat} {n : Nat} : ∀ {l : List (Nat × Item)}, n ∈ putNames (partO K l) → n ∈ putNames l ∧ n ∉ K
  | [], h => by cases h
  | (u, it) :: l, h => by
    simp only [partO] at h
    split at h
    · have := names_partO h; exact ⟨.tail _ this.1, this.2⟩
    · rename_i hk
      rcases List.mem_cons.1 h with e | h
      · subst e; exact ⟨.head _, memN_false.1 hk⟩
      · have := names_partO h; exact ⟨.tail _ this.1, this.2⟩
theorem nodup_partI {K : List Nat} : ∀ {l : List (Nat × Item)}, Nodup' l → Nodup' (partI K l)
  | [], _ => trivial
  | (u, it) :: l, ⟨h1, h2⟩ => by
    simp only [partI]
    split
    · exact ⟨fun h => h1 (names_partI h).1, nodup_partI h2⟩
    · exact nodup_partI h2
theorem nodup_partO {K : List Nat} : ∀ {l : List (Nat × Item)}, Nodup' l → Nodup' (partO K l)
  | [], _ => trivial
  | (u, it) :: l, ⟨h1, h2⟩ => by
    simp only [partO]
    split
    · exact nodup_partO h2
    · exact ⟨fun h => h1 (names_partO h).1, nodup_partO h2⟩

/-- values that may stand beside what stays -/
def sideA (Fr : List (Nat × Item)) : At → Bool
  | .ptr n b o z => match findI n Fr with
    | none => true
    | some it => match o, it with | .z, .obj _ => true | _, _ => false
  | a => disj a.names (putNames Fr)
def sideV (Fr : List (Nat × Item)) : AV → Bool
  | .s (.one a) => sideA Fr a
  | v => disj v.names (putNames Fr)
def sideT (Fr : List (Nat × Item)) : List (Nat × AV) → Bool
  | [] => true
  | (_, v) :: l => sideV Fr v && sideT Fr l
/-- what is not its own was there before -/
def sideI (lo : Nat) (is : List (Nat × Item)) : List (Nat × Item) → Bool
  | [] => true
  | (n, it) :: l => (match it.own? with | true => true | false => memN n (putNames is) && (Nat.blt n lo || Nat.ble hiN n)) && sideI lo is l

def pinsN (lo : Nat) : List Nat → Bool
  | [] => true
  | n :: l => (Nat.blt n lo || Nat.ble hiN n) && pinsN lo l

theorem pinsN_mem {lo n : Nat} : ∀ {l : List Nat}, pinsN lo l = true → n ∈ l → n < lo ∨ hiN ≤ n
  | m :: l, h, hm => by
    simp only [pinsN, Bool.and_eq_true, Bool.or_eq_true] at h
    rcases List.mem_cons.1 hm with e | hm
    · subst e
      rcases h.1 with h | h
      · left
        have := ble_iff.1 (show Nat.ble (n + 1) lo = true from h); omega
      · right; exact ble_iff.1 h
    · exact pinsN_mem h.2 hm

theorem sideT_mem {Fr : List (Nat × Item)} {t : Nat} {v : AV} : ∀ {l : List (Nat × AV)}, sideT Fr l = true → (t, v) ∈ l → sideV Fr v = true
  | (u, x) :: l, h, hm => by
    simp only [sideT, Bool.and_eq_true] at h
    rcases List.mem_cons.1 hm with e | hm
    · injection e with e1 e2; subst e2; exact h.1
    · exact sideT_mem h.2 hm
theorem sideI_mem {lo : Nat} {is : List (Nat × Item)} {n : Nat} {it : Item} : ∀ {l : List (Nat × Item)}, sideI lo is l = true → (n, it) ∈ l → it.owned = false → n ∈ putNames is ∧ (n < lo ∨ hiN ≤ n)
  | (u, x) :: l, h, hm, ho => by
    simp only [sideI, Bool.and_eq_true] at h
    rcases List.mem_cons.1 hm with e | hm
    · injection e with e1 e2; subst e1; subst e2
      have h1 := h.1
      cases it with
      | view k es xs =>
        simp only [Item.own?, Bool.and_eq_true, Bool.or_eq_true] at h1
        refine ⟨memN_iff.1 h1.1, ?_⟩
        rcases h1.2 with h | h
        · left
          have := ble_iff.1 (show Nat.ble (n + 1) lo = true from h); omega
        · right; exact ble_iff.1 h
      | dview k es xs =>
        simp only [Item.own?, Bool.and_eq_true, Bool.or_eq_true] at h1
        refine ⟨memN_iff.1 h1.1, ?_⟩
        rcases h1.2 with h | h
        · left
          have := ble_iff.1 (show Nat.ble (n + 1) lo = true from h); omega
        · right; exact ble_iff.1 h
      | _ => cases ho
    · exact sideI_mem h.2 hm ho

theorem nodup_apart {l m : List (Nat × Item)} : Nodup' (l ++ m) → Nodup' l ∧ Nodup' m ∧ ∀ n ∈ putNames l, n ∉ putNames m := by
  induction l with
  | nil => intro h; exact ⟨trivial, h, by simp [putNames]⟩
  | cons x l ih =>
    obtain ⟨u, v⟩ := x
    rintro ⟨h1, h2⟩
    obtain ⟨g1, g2, g3⟩ := ih h2
    have h1 : u ∉ putNames (l ++ m) := h1
    rw [putNames_append, List.mem_append, not_or] at h1
    refine ⟨⟨h1.1, g1⟩, g2, fun n hn => ?_⟩
    rcases List.mem_cons.1 hn with e | hn
    · subst e; exact h1.2
    · exact g3 n hn

theorem find_app {l m : List (Nat × Item)} {n : Nat} {it : Item} (h : findI n (l ++ m) = some it) : findI n l = some it ∨ (findI n l = none ∧ findI n m = some it) := by
  rw [findI_append] at h
  cases hl : findI n l with
  | some x => rw [hl] at h; exact .inl h
  | none => rw [hl] at h; exact .inr ⟨rfl, h⟩

theorem none_of {l : List (Nat × Item)} {n : Nat} (h : findI n l = none) : n ∉ putNames l := findI_none_iff.1 h

theorem find_names {l : List (Nat × Item)} {n : Nat} {it : Item} (h : findI n l = some it) : n ∈ putNames l := putNames_iff.2 ⟨it, findI_mem h⟩

theorem reaches_frame {P : Program} {c : Code} {s1 s' : AS} {e : X} (h : Reaches P c s1 e s') {Fr : List (Nat × Item)} (hlo : s'.lo = s1.lo) (hnd : Nodup' (s1.items ++ Fr)) (hnd' : Nodup' (s'.items ++ Fr))
    (hpin : pinsN s1.lo (putNames Fr) = true) (hcl : allIn (putSays' Fr) (putNames Fr) = true) (ht : sideT Fr s'.tmps = true) (hi : disj (putSays' s'.items) (putNames Fr) = true) (hv : sideI s'.lo s1.items s'.items = true) :
    Reaches P c { s1 with items := s1.items ++ Fr } e { s' with items := s'.items ++ Fr } := by
  refine reaches_iff.2 fun w0 Mu ρ a w Q hs hQ => ?_
  obtain ⟨n1, n2, n3⟩ := nodup_apart hnd
  obtain ⟨n1', n2', n3'⟩ := nodup_apart hnd'
  rw [disj_iff] at hi
  rw [allIn_iff] at hcl
  -- the whole at the start
  have hI1 : ∀ n it, s1.I n = some it → AS.I { s1 with items := s1.items ++ Fr } n = some it := by
    intro n it h
    show findI n (s1.items ++ Fr) = some it
    rw [findI_append, show findI n s1.items = some it from h]
  have hIF : ∀ n it, findI n Fr = some it → AS.I { s1 with items := s1.items ++ Fr } n = some it := by
    intro n it h
    show findI n (s1.items ++ Fr) = some it
    rw [findI_append, findI_none (fun hm => n3 n hm (find_names h))]; exact h
  have hS1 : ∀ n, s1.S n = AS.S { s1 with items := s1.items ++ Fr } n ∨ s1.S n = none := by
    intro n
    unfold AS.S
    cases hh : s1.I n with
    | none => exact .inr rfl
    | some it => left; rw [hI1 n it hh]
  let Mu1 : MuT := { blk := fun b => ∃ n it p, s1.I n = some it ∧ it.owned = true ∧ ρ.loc n = some p ∧ p.1 = b, loc := ρ.loc, tot := ρ.tot, sh := s1.S, out := ρ.out }
  have hs1 : Sim w Mu1 ρ s1 a w := by
    refine ⟨hs.defers, n1, hs.size, ?_, ?_, ?_, ?_, ?_, Nat.le_refl _, fun _ _ _ => rfl, fun n _ => ⟨rfl, rfl, .inl rfl⟩, ⟨rfl, rfl⟩, fun b hb => ⟨Nat.lt_of_lt_of_le (hs.out b hb).1 hs.mono, ?_⟩, rfl⟩
    · intro t
      exact (hs.rel t).frame fun n _ => ⟨rfl, rfl, hS1 n⟩
    · intro n it hh
      exact (hs.hold n it (hI1 n it hh)).frame ⟨rfl, rfl⟩ (fun m _ => ⟨rfl, rfl, hS1 m⟩) (fun _ _ => rfl) (fun b hb => ⟨hb, rfl⟩)
    · intro n it p hh ho hp; exact .inr ⟨n, it, p, hh, ho, hp, rfl⟩
    · intro n m it it' p q h1 h2 ho hne hp hq; exact hs.sep n m it it' p q (hI1 _ _ h1) (hI1 _ _ h2) ho hne hp hq
    · intro n it p h1 hp; exact hs.lt n it p (hI1 _ _ h1) hp
    · rintro ⟨n, it, p, k1, k2, k3, k4⟩
      rcases hs.own n it p (hI1 _ _ k1) k2 k3 with h2 | h2
      · have := (hs.out b hb).1; omega
      · exact (hs.out b hb).2 (k4 ▸ h2)
  refine reaches_iff.1 h w Mu1 ρ a w Q hs1 fun a' w' ρ' hs' => hQ a' w' ρ' ?_
  -- the whole at the end
  have hFpin : ∀ n, n ∈ putNames Fr → ρ'.loc n = ρ.loc n ∧ ρ'.tot n = ρ.tot n := by
    intro n hn
    have := hs'.pin n (by rw [hlo]; exact pinsN_mem hpin hn)
    exact ⟨this.1, this.2.1⟩
  have hI' : ∀ n it, AS.I { s' with items := s'.items ++ Fr } n = some it → s'.I n = some it ∨ (n ∉ putNames s'.items ∧ findI n Fr = some it) := by
    intro n it hh
    rcases find_app (show findI n (s'.items ++ Fr) = some it from hh) with h1 | ⟨h1, h2⟩
    · exact .inl h1
    · exact .inr ⟨none_of h1, h2⟩
  have hSout : ∀ n, n ∉ putNames Fr → AS.S { s' with items := s'.items ++ Fr } n = s'.S n := by
    intro n hn
    unfold AS.S
    show (findI n (s'.items ++ Fr)).map Item.shape = (findI n s'.items).map Item.shape
    rw [findI_append]
    cases hh : findI n s'.items with
    | some it => rfl
    | none => rw [findI_none hn]
  have hSin : ∀ n, n ∈ putNames Fr → AS.S { s' with items := s'.items ++ Fr } n = AS.S { s1 with items := s1.items ++ Fr } n := by
    intro n hn
    unfold AS.S
    show (findI n (s'.items ++ Fr)).map Item.shape = (findI n (s1.items ++ Fr)).map Item.shape
    rw [findI_append, findI_append, findI_none (fun hm => n3 n hm hn), findI_none (fun hm => n3' n hm hn)]
  have hne : ∀ n m p q it, n ∈ putNames s1.items → s1.I n = some it → it.owned = true → ρ.loc n = some p → m ∈ putNames Fr → ρ.loc m = some q → p.1 ≠ q.1 := by
    intro n m p q it hn h1 ho hp hm hq
    obtain ⟨it', h2⟩ := putNames_iff.1 hm
    cases hf : findI m Fr with
    | none => exact absurd hm (none_of hf)
    | some jt => exact hs.sep n m it jt p q (hI1 n it h1) (hIF m jt hf) ho (fun e => n3 n hn (e ▸ hm)) hp hq
  have hagree : ∀ n, n ∉ putNames Fr → Agree ρ' ρ' s'.S (AS.S { s' with items := s'.items ++ Fr }) n := fun n hn => ⟨rfl, rfl, .inl (hSout n hn)⟩
  have hFheap : ∀ n q, n ∈ putNames Fr → ρ.loc n = some q → w'.heap[q.1]? = w.heap[q.1]? ∧ q.1 < w.heap.size := by
    intro n q hn hq
    have hlt : q.1 < w.heap.size := by
      cases hf : findI n Fr with
      | none => exact absurd hn (none_of hf)
      | some jt => exact hs.lt n jt q (hIF n jt hf) hq
    refine ⟨hs'.frame q.1 hlt ?_, hlt⟩
    rintro ⟨m, it, p, h1, h2, h3, h4⟩
    exact hne m n p q it (find_names h1) h1 h2 h3 hn hq h4
  refine ⟨hs'.defers, hnd', hs'.size, ?_, ?_, ?_, ?_, ?_, Nat.le_trans hs.mono hs'.mono, ?_, ?_, ?_, fun b hb => hs.out b (show ρ.out b from (show ρ'.out = ρ.out from hs'.outp) ▸ hb), (show ρ'.out = ρ.out from hs'.outp).trans hs.outp⟩
  · intro t
    show RelV ρ' _ (findT t s'.tmps) _
    have hr := hs'.rel t
    rcases findT_mem (t := t) (l := s'.tmps) with e | hm
    · rw [e]; exact relDead _ _ _
    · have hsd := sideT_mem ht hm
      change RelV ρ' s'.S (findT t s'.tmps) _ at hr
      revert hr hsd
      generalize findT t s'.tmps = v
      intro hsd hr
      have plain : disj v.names (putNames Fr) = true → RelV ρ' (AS.S { s' with items := s'.items ++ Fr }) v (a'.tmps.getD t undef) :=
        fun hd => hr.frame fun n hn => hagree n (disj_iff.1 hd n hn)
      unfold sideV at hsd
      split at hsd
      · rename_i at0
        unfold sideA at hsd
        split at hsd
        · rename_i n b o z
          split at hsd
          · rename_i hf
            exact hr.frame fun m hm => by
              have : m = n := by simpa [AV.names, SV.names, At.names] using hm
              subst this; exact hagree m (none_of hf)
          · rename_i it hf
            split at hsd
            · rename_i l
              simp only [RelV, RelSV, RelAt] at hr ⊢
              obtain ⟨p, r1, r2, r3⟩ := hr
              refine ⟨p, r1, r2, ?_⟩
              intro sh hsh L hL
              rw [hSin n (find_names hf)] at hsh
              have : AS.S { s1 with items := s1.items ++ Fr } n = some (Item.obj l).shape := S_of (hIF n _ hf)
              rw [this] at hsh
              injection hsh with hsh
              subst hsh
              intro hc; simp [Item.shape, Shape.isObj] at hc
            · cases hsd
        · exact plain hsd
      · exact plain hsd
  · intro n it hh
    rcases hI' n it hh with h1 | ⟨h1, h2⟩
    · refine (hs'.hold n it h1).frame ⟨rfl, rfl⟩ (fun m hm => hagree m (hi m (putSays'_mem (findI_mem h1) hm))) (fun _ _ => rfl) (fun b hb => ⟨hb, rfl⟩)
    · have hnF := find_names h2
      have hl := hFpin n hnF
      refine (hs.hold n it (hIF n it h2)).frame hl (fun m hm => ?_) (fun p hp => (hFheap n p hnF hp).1) (fun b hb => ⟨(show ρ'.out = ρ.out from hs'.outp).symm ▸ hb, hs'.frame b (Nat.lt_of_lt_of_le (hs.out b hb).1 hs.mono) (hs1.out b hb).2⟩)
      have hmF := hcl m (putSays'_mem (findI_mem h2) hm)
      exact ⟨(hFpin m hmF).1, (hFpin m hmF).2, .inl (hSin m hmF)⟩
  · intro n it p hh ho hp
    rcases hI' n it hh with h1 | ⟨h1, h2⟩
    · rcases hs'.own n it p h1 ho hp with g | ⟨m, jt, q, g1, g2, g3, g4⟩
      · exact .inl (Nat.le_trans hs.mono g)
      · rw [← g4]; exact hs.own m jt q (hI1 m jt g1) g2 g3
    · rw [(hFpin n (find_names h2)).1] at hp
      exact hs.own n it p (hIF n it h2) ho hp
  · intro n m it it' p q hh hh' ho hnm hp hq
    rcases hI' n it hh with h1 | ⟨h1, h2⟩
    · rcases hI' m it' hh' with k1 | ⟨k1, k2⟩
      · exact hs'.sep n m it it' p q h1 k1 ho hnm hp hq
      · have hmF := find_names k2
        rw [(hFpin m hmF).1] at hq
        have hlt := (hFheap m q hmF hq).2
        rcases hs'.own n it p h1 ho hp with g | ⟨n', jt, q', g1, g2, g3, g4⟩
        · omega
        · rw [← g4]; exact hne n' m q' q jt (find_names g1) g1 g2 g3 hmF hq
    · have hnF := find_names h2
      rw [(hFpin n hnF).1] at hp
      rcases hI' m it' hh' with k1 | ⟨k1, k2⟩
      · have hlt := (hFheap n p hnF hp).2
        cases ho' : it'.owned with
        | true =>
          rcases hs'.own m it' q k1 ho' hq with g | ⟨n', jt, q', g1, g2, g3, g4⟩
          · omega
          · rw [← g4]; exact (hne n' n q' p jt (find_names g1) g1 g2 g3 hnF hp).symm
        | false =>
          obtain ⟨hm1, hpm⟩ := sideI_mem hv (findI_mem k1) ho'
          cases hf : findI m s1.items with
          | none => exact absurd hm1 (none_of hf)
          | some jt =>
            have hq' : ρ.loc m = some q := by
              have e : ρ'.loc m = ρ.loc m := (hs'.pin m hpm).1
              rw [← e]; exact hq
            exact hs.sep n m it jt p q (hIF n it h2) (hI1 m jt hf) ho hnm hp hq'
      · rw [(hFpin m (find_names k2)).1] at hq
        exact hs.sep n m it it' p q (hIF n it h2) (hIF m it' k2) ho hnm hp hq
  · intro n it p hh hp
    rcases hI' n it hh with h1 | ⟨h1, h2⟩
    · exact hs'.lt n it p h1 hp
    · rw [(hFpin n (find_names h2)).1] at hp
      exact Nat.lt_of_lt_of_le (hFheap n p (find_names h2) hp).2 hs'.mono
  · intro b hb hnb
    rw [hs'.frame b (Nat.lt_of_lt_of_le hb hs.mono) ?_]
    · exact hs.frame b hb hnb
    · rintro ⟨m, it, p, h1, h2, h3, h4⟩
      rcases hs.own m it p (hI1 m it h1) h2 h3 with g | g
      · omega
      · exact hnb (h4 ▸ g)
  · intro n hn
    have hn' : n < s'.lo ∨ hiN ≤ n := hn
    obtain ⟨g1, g2, g3⟩ := hs'.pin n hn'
    obtain ⟨k1, k2, k3⟩ := hs.pin n (by rw [← hlo]; exact hn')
    refine ⟨g1.trans k1, g2.trans k2, ?_⟩
    by_cases hF : n ∈ putNames Fr
    · rw [hSin n hF]; exact k3
    · rw [hSout n hF]
      rcases g3 with g3 | g3
      · rw [g3]
        rcases hS1 n with e | e
        · change s1.S n = _ ∨ s1.S n = none; rw [e]; exact k3
        · exact .inr e
      · exact .inr g3
  · exact ⟨hs'.still.1.trans hs.still.1, hs'.still.2.trans hs.still.2⟩

/-! ### loops -/

theorem loop_reach {P : Program} {E : Env} (hΘ : TypesOk P E.Θ) (hΓ : CtxOk P E.Γ) (hm : P.follows .mixedOrders = true) {ν : Nrm} {σ : Shp} {id : Nat} {body : Code} {F : (R : Type) → List Leaf → (X → AS → Option R) → Option R}
    (hlp : LoopsOk P E.lp body) (h : ∀ R ls k r, F R ls k = some r → ∃ fuel, roundsOf E ν id body k fuel (fill σ ls) = some r) {R : Type} {ls : List Leaf} {k : X → AS → Option R} {r : R} (hk : F R ls k = some r) :
    ∃ e s', k e s' = some r ∧ Reaches P (.block id (.loop body)) (fill σ ls) e s' := by
  obtain ⟨fuel, hf⟩ := h R ls k r hk
  have hb : ∀ (s : AS) (k : X → AS → Option R) (r : R), exec E body s k = some r → ∃ e s', k e s' = some r ∧ Reaches P body s e s' := (exec_sound hΘ hΓ hm body hlp).1
  obtain ⟨e, s'', h1, h2⟩ := iter_rounds hb _ _ _ hf
  obtain ⟨he, n, hw⟩ := rounds_wp h2
  have hl : ∀ w0 Mu ρ a w (Q : Exit → Act → World → Prop), Sim w0 Mu ρ (fill σ ls) a w → (∀ a' w' ρ', Sim w0 Mu ρ' s'' a' w' → Exit.inBlock id Q e.out a' w') → (Code.block id (.loop body)).wp P Q a w := by
    intro w0 Mu ρ a w Q hs hQ
    exact wp_block (wp_loop_rounds n (hw w0 Mu ρ a w _ hs hQ))
  cases e with
  | normal => exact absurd rfl he
  | ret => exact ⟨.ret, s'', h1, fun w0 Mu ρ a w Q hs hQ => hl w0 Mu ρ a w Q hs hQ⟩
  | exit i =>
    simp only at h1
    split at h1
    · rename_i e
      have e := beqT e; subst e
      refine ⟨.normal, s'', h1, fun w0 Mu ρ a w Q hs hQ => hl w0 Mu ρ a w Q hs fun a' w' ρ' hs' => ?_⟩
      simp only [X.out, Exit.inBlock, if_true]; exact hQ a' w' ρ' hs'
    · rename_i e
      have e := beqN e
      refine ⟨.exit i, s'', h1, fun w0 Mu ρ a w Q hs hQ => hl w0 Mu ρ a w Q hs fun a' w' ρ' hs' => ?_⟩
      simp only [X.out, Exit.inBlock, if_neg e]; exact hQ a' w' ρ' hs'

def extraN (K : List Nat) (lo : Nat) : List (Nat × Item) → List Nat
  | [] => []
  | (n, _) :: l => match (Nat.blt n lo || Nat.ble hiN n) && !(memN n K) with | true => n :: extraN K lo l | false => extraN K lo l

def backOk (Fr is : List (Nat × Item)) (lo : Nat) (s' : AS) : Bool :=
  Nat.beq s'.lo lo && (nodupN (putNames s'.items ++ putNames Fr) && (sideT Fr s'.tmps && (disj (putSays' s'.items) (putNames Fr) && sideI s'.lo is s'.items)))

/-- a loop, from what it makes of the leaves at its head; what else hangs on what was handed in stays -/
def mkLF (ν : Nrm) (σ : Shp) (F : (R : Type) → List Leaf → (X → AS → Option R) → Option R) : LoopFn := fun R s k =>
  match nrm { slots := ν.slots, items := ν.items ++ extraN (ν.items ++ rowNames ν.slots) s.lo s.items } s with
  | some s2 => match proj σ { n := s2.n, lo := s2.lo, tmps := s2.tmps, items := partO (extraN (ν.items ++ rowNames ν.slots) s.lo s.items) s2.items } with
    | some ls => match pinsN s2.lo (putNames (partI (extraN (ν.items ++ rowNames ν.slots) s.lo s.items) s2.items)) && allIn (putSays' (partI (extraN (ν.items ++ rowNames ν.slots) s.lo s.items) s2.items)) (putNames (partI (extraN (ν.items ++ rowNames ν.slots) s.lo s.items) s2.items)) with
      | true => F R ls fun e s' => match backOk (partI (extraN (ν.items ++ rowNames ν.slots) s.lo s.items) s2.items) (partO (extraN (ν.items ++ rowNames ν.slots) s.lo s.items) s2.items) s2.lo s' with
        | true => k e { n := s'.n, lo := s'.lo, tmps := s'.tmps, items := s'.items ++ partI (extraN (ν.items ++ rowNames ν.slots) s.lo s.items) s2.items }
        | false => none
      | false => none
    | none => none
  | none => none

theorem loopOkF_of {P : Program} {E : Env} (hΘ : TypesOk P E.Θ) (hΓ : CtxOk P E.Γ) (hm : P.follows .mixedOrders = true) {ν : Nrm} {σ : Shp} {id : Nat} {body : Code} {F : (R : Type) → List Leaf → (X → AS → Option R) → Option R}
    (hlp : LoopsOk P E.lp body) (h : ∀ R ls k r, F R ls k = some r → ∃ fuel, roundsOf E ν id body k fuel (fill σ ls) = some r) : LoopOk P (mkLF ν σ F) id body := by
  intro R s k r hk
  unfold mkLF at hk
  generalize hX : extraN (ν.items ++ rowNames ν.slots) s.lo s.items = X at hk
  split at hk
  · rename_i s2 hn
    split at hk
    · rename_i ls hp
      split at hk
      · rename_i hb
        rw [Bool.and_eq_true] at hb
        obtain ⟨e, s', h1, h2⟩ := loop_reach hΘ hΓ hm hlp h hk
        rw [proj_fill hp] at h2
        split at h1
        · rename_i hbk
          simp only [backOk, Bool.and_eq_true] at hbk
          obtain ⟨b1, b2, b3, b4, b5⟩ := hbk
          refine ⟨e, _, h1, reaches_iff.2 fun w0 Mu ρ a w Q hs hQ => ?_⟩
          obtain ⟨ρ2, hs2⟩ := hs.nrm hn
          have hnd := hs2.nd
          have hnd2 : Nodup' (partO X s2.items ++ partI X s2.items) := nodup_append (nodup_partO hnd) (nodup_partI hnd) fun n h1 h2 => (names_partO h1).2 (names_partI h2).2
          have heq : Eqv s2 { n := s2.n, lo := s2.lo, tmps := s2.tmps, items := partO X s2.items ++ partI X s2.items } := by
            refine ⟨rfl, rfl, rfl, ?_⟩
            funext n
            show findI n s2.items = findI n (partO X s2.items ++ partI X s2.items)
            rw [findI_append, find_partO, find_partI]
            by_cases h : n ∈ X
            · simp [h]
            · simp only [h, if_false]
              cases findI n s2.items <;> rfl
          have hs3 := hs2.eqv heq hnd2
          refine reaches_iff.1 (reaches_frame h2 (beqT b1) hnd2 (nodup'_of ?_) hb.1 hb.2 b3 b4 b5) w0 Mu ρ2 a w Q hs3 hQ
          rw [putNames_append]; exact nodupN_iff.1 b2
        · cases h1
      · cases hk
    · cases hk
  · cases hk

/-! ### a function that is handed all -/

def svAVs : List SV → List AV
  | [] => []
  | v :: l => .s v :: svAVs l

def retN {R : Type} (Θ : Types) (np : Nat) (rv : List ResultVar) (k : List DV → Option R) (e : X) (s : AS) : Option R :=
  match e with
  | .exit _ => none
  | _ => match Nat.beq s.lo np with
   | false => none
   | true => match resSV Θ s rv with
    | some vs => k [.fr (svAVs vs) s.items]
    | none => none

def callN {R : Type} (E : Env) (np n : Nat) (body : Code) (rv : List ResultVar) (ds : List DV) (k : List DV → Option R) : Option R :=
  match ds with
  | [.fr avs its] => match Nat.beq avs.length np && Nat.ble np n with
    | true => exec E body { n := n, lo := np, tmps := numT 0 avs, items := its } (retN E.Θ np rv k)
    | false => none
  | _ => none

theorem svAVs_length : ∀ {l : List SV}, (svAVs l).length = l.length
  | [] => rfl
  | _ :: l => by simp [svAVs, svAVs_length (l := l)]
theorem svAVs_get : ∀ {l : List SV} {t : Nat}, (svAVs l)[t]? = (l[t]?).map AV.s
  | [], t => rfl
  | v :: l, 0 => rfl
  | v :: l, t + 1 => by simp [svAVs, svAVs_get (l := l)]

theorem inl_contract {P : Program} {E : Env} (hΘ : TypesOk P E.Θ) (hΓ : CtxOk P E.Γ) (hm : P.follows .mixedOrders = true) {g n np : Nat} {fn : Func} {body : Code} {rv : List ResultVar} (ok : FnOk P g fn n body rv) (hlp : LoopsOk P E.lp body) :
    Contract P g { sig := { ps := [], rs := [] }, impl := fun _ ds k => callN E np n body rv ds k, kind := .inl np } := by
  intro R ds k r h
  simp only at h
  unfold callN at h
  split at h
  · rename_i avs its
    split at h
    · rename_i hnp
      rw [Bool.and_eq_true] at hnp
      have hlen := beqT hnp.1
      have hle := ble_iff.1 hnp.2
      obtain ⟨e, s', h1, h2⟩ := (exec_sound hΘ hΓ hm body hlp).1 _ _ _ h
      have key : ∃ vs, (∀ i, e ≠ .exit i) ∧ resSV E.Θ s' rv = some vs ∧ k [.fr (svAVs vs) s'.items] = some r ∧ s'.lo = np := by
        unfold retN at h1
        split at h1
        · cases h1
        · rename_i he
          split at h1
          · cases h1
          · rename_i hlo
            split at h1
            · rename_i vs hvs
              exact ⟨vs, fun i h => he i h, hvs, h1, beqT hlo⟩
            · cases h1
      obtain ⟨vs, he, hvs, hk, hlo⟩ := key
      refine ⟨_, hk, ?_⟩
      intro avs' its' e1
      injection e1 with e1 _; injection e1 with e1 e2; subst e1; subst e2
      refine ⟨_, _, rfl, fun w Mu ρ xs hxl hs0 => ⟨⟨fn, ok.look, by rw [ok.body]; rfl, ok.name⟩, ?_⟩⟩
      have hn := ok.n
      subst hn
      refine calls_of_wp ok.look ok.body ?_
      have hs1 : Sim w Mu ρ { n := fn.ntmps, lo := np, tmps := numT 0 avs, items := its } { tmps := xs.toArray ++ Array.replicate (fn.ntmps - xs.toArray.size) undef, defers := [] } w := by
        refine ⟨rfl, hs0.nd, by simp; omega, ?_, hs0.hold, hs0.own, hs0.sep, hs0.lt, hs0.mono, hs0.frame, hs0.pin, hs0.still, hs0.out, hs0.outp⟩
        intro t
        have hr := hs0.rel t
        by_cases ht : t < xs.length
        · have e : (xs.toArray ++ Array.replicate (fn.ntmps - xs.toArray.size) undef).getD t undef = xs.toArray.getD t undef := by
            rw [Array.getD_eq_getD_getElem?, Array.getElem?_append_left (by simpa using ht), Array.getD_eq_getD_getElem?]
          show RelV ρ _ _ ((xs.toArray ++ Array.replicate (fn.ntmps - xs.toArray.size) undef).getD t undef)
          rw [e]; exact hr
        · have e : AS.T { n := fn.ntmps, lo := np, tmps := numT 0 avs, items := its } t = .s (.one .dead) := by
            show findT t (numT 0 avs) = _
            rw [numT_find avs 0 t (Nat.zero_le _), Nat.sub_zero, List.getElem?_eq_none (by omega)]; rfl
          rw [e]; exact relDead _ _ _
      refine reaches_iff.1 h2 w Mu ρ _ _ _ hs1 ?_
      intro a' w' ρ' hs
      obtain ⟨Xs, x1, x2, x3, x4⟩ := resSV_spec hΘ hs hvs
      have hpost : a'.defers = [] ∧ ∃ v, (results fn a'.tmps).run P w' = .ok v w' ∧ ∃ Xs ρ', Ending.returned v = .returned (resVal Xs) ∧ Xs.length = (svAVs vs).length ∧
          Sim w Mu ρ' { n := (svAVs vs).length, lo := np, tmps := numT 0 (svAVs vs), items := s'.items } { tmps := Xs.toArray, defers := [] } w' := by
        refine ⟨hs.defers, resVal Xs, results_eq fn _ _ (by rw [ok.rv]; exact x4), Xs, ρ', rfl, by rw [svAVs_length]; omega, ?_⟩
        refine ⟨rfl, hs.nd, by rw [svAVs_length]; simp; omega, ?_, hs.hold, hs.own, hs.sep, hs.lt, hs.mono, hs.frame, by rw [← hlo]; exact hs.pin, hs.still, hs.out, hs.outp⟩
        intro t
        show RelV ρ' _ (findT t (numT 0 (svAVs vs))) _
        rw [numT_find _ 0 t (Nat.zero_le _), Nat.sub_zero, svAVs_get]
        by_cases ht : t < vs.length
        · have hv := List.getElem?_eq_getElem ht
          have hX := List.getElem?_eq_getElem (l := Xs) (i := t) (by omega)
          have e : (Xs.toArray).getD t undef = Xs[t]'(by omega) := by
            rw [Array.getD_eq_getD_getElem?]; simp [hX]
          rw [hv]
          show RelV ρ' _ (.s vs[t]) ((Xs.toArray).getD t undef)
          rw [e]
          exact x3 t _ _ hv hX
        · rw [List.getElem?_eq_none (by omega)]; exact relDead _ _ _
      cases e with
      | normal => exact hpost
      | ret => exact hpost
      | exit i => exact absurd rfl (he i)
    · cases h
  · cases h

end Go.Eng

/- The document's small functions. -/
namespace Go.Proofs.Ytiaddnmloonhgaa
open Go Go.Eng
set_option maxRecDepth 100000
def I93 : (R : Type) → List DV → (List DV → Option R) → Option R := fun _ ds k => match ds with
  | [.v (.one (.int .u32 x)), .v (.one (.int .u64 n))] => bif decide (0 ≤ n) && decide (n ≤ 32) then k [.v (.one (.int .u32 (rotl x n)))] else none
  | _ => none
theorem c93 : Contract Try.prog 93 { sig := S93, impl := I93 } := by
  refine Contract.refine fun R ds k r h => ⟨_, f93_contract 0 ctxOk_nil, ?_⟩
  unfold I93 at h
  split at h
  · rename_i x n
    rw [f93_raw_eq]
    cases hb : decide (0 ≤ n) && decide (n ≤ 32) with
    | true =>
      rw [hb] at h
      simp only [Bool.and_eq_true, decide_eq_true_eq] at hb
      obtain ⟨m, rfl⟩ : ∃ m : Nat, n = m := ⟨n.toNat, by omega⟩
      have e : IntKind.u64.wrap (32 - (m : Int)) = 32 - (m : Int) := by
        rw [show (32 : Int) - (m : Int) = ((32 - m : Nat) : Int) by omega]; exact wrapU64 (by omega)
      unfold f93_raw
      dsimp only
      rw [e, decide_eq_true hb.1, decide_eq_true (show (0 : Int) ≤ 32 - (m : Int) by omega)]
      exact h
    | false => rw [hb] at h; cases h
  · cases h
def Q93 : Ctx := [(93, { sig := S93, impl := I93 })]
theorem Q93_ok : CtxOk Try.prog Q93 := ctxOk_cons ok93 rfl c93 ctxOk_nil
end Go.Proofs.Ytiaddnmloonhgaa

/- What rime/rimeref12.quarter comes to. MADE BY PROGRAM (wip/tools/mkfn.py, EngGen.lean). -/
namespace Go.Proofs.Ytiaddnmloonhgaa
open Go Go.Eng
set_option maxRecDepth 100000
set_option linter.unusedVariables false

noncomputable def f46_raw {R : Type} (N : Nat) (s : List Int) (a : Int) (b : Int) (c : Int) (d : Int) (k : List DV → Option R) : Option R :=
 bif Decidable.decide (0 ≤ a) && Decidable.decide (a < nI (rowLen 1 s)) then
 bif Decidable.decide (0 ≤ b) && Decidable.decide (b < nI (rowLen 1 s)) then
 bif Decidable.decide (0 ≤ a) && Decidable.decide (a < nI (rowLen 1 s)) then
 let v0 : Int := IntKind.u32.wrap (s.getD (mulE a.toNat 1) 0 + s.getD (mulE b.toNat 1) 0);
 let v1 : List Int := s.set (mulE a.toNat 1) v0;
 bif Decidable.decide (0 ≤ d) && Decidable.decide (d < nI (rowLen 1 v1)) then
 bif Decidable.decide (0 ≤ a) && Decidable.decide (a < nI (rowLen 1 v1)) then
 bif Decidable.decide (0 ≤ d) && Decidable.decide (d < nI (rowLen 1 v1)) then
 let v2 : Int := xorI IntKind.u32 (v1.getD (mulE d.toNat 1) 0) (v1.getD (mulE a.toNat 1) 0);
 let v3 : List Int := v1.set (mulE d.toNat 1) (rotl v2 16);
 bif Decidable.decide (0 ≤ c) && Decidable.decide (c < nI (rowLen 1 v3)) then
 bif Decidable.decide (0 ≤ d) && Decidable.decide (d < nI (rowLen 1 v3)) then
 bif Decidable.decide (0 ≤ c) && Decidable.decide (c < nI (rowLen 1 v3)) then
 let v4 : Int := IntKind.u32.wrap (v3.getD (mulE c.toNat 1) 0 + v3.getD (mulE d.toNat 1) 0);
 let v5 : List Int := v3.set (mulE c.toNat 1) v4;
 bif Decidable.decide (0 ≤ b) && Decidable.decide (b < nI (rowLen 1 v5)) then
 bif Decidable.decide (0 ≤ c) && Decidable.decide (c < nI (rowLen 1 v5)) then
 bif Decidable.decide (0 ≤ b) && Decidable.decide (b < nI (rowLen 1 v5)) then
 let v6 : Int := xorI IntKind.u32 (v5.getD (mulE b.toNat 1) 0) (v5.getD (mulE c.toNat 1) 0);
 let v7 : List Int := v5.set (mulE b.toNat 1) (rotl v6 12);
 bif Decidable.decide (0 ≤ a) && Decidable.decide (a < nI (rowLen 1 v7)) then
 bif Decidable.decide (0 ≤ b) && Decidable.decide (b < nI (rowLen 1 v7)) then
 bif Decidable.decide (0 ≤ a) && Decidable.decide (a < nI (rowLen 1 v7)) then
 let v8 : Int := IntKind.u32.wrap (v7.getD (mulE a.toNat 1) 0 + v7.getD (mulE b.toNat 1) 0);
 let v9 : List Int := v7.set (mulE a.toNat 1) v8;
 bif Decidable.decide (0 ≤ d) && Decidable.decide (d < nI (rowLen 1 v9)) then
 bif Decidable.decide (0 ≤ a) && Decidable.decide (a < nI (rowLen 1 v9)) then
 bif Decidable.decide (0 ≤ d) && Decidable.decide (d < nI (rowLen 1 v9)) then
 let v10 : Int := xorI IntKind.u32 (v9.getD (mulE d.toNat 1) 0) (v9.getD (mulE a.toNat 1) 0);
 let v11 : List Int := v9.set (mulE d.toNat 1) (rotl v10 8);
 bif Decidable.decide (0 ≤ c) && Decidable.decide (c < nI (rowLen 1 v11)) then
 bif Decidable.decide (0 ≤ d) && Decidable.decide (d < nI (rowLen 1 v11)) then
 bif Decidable.decide (0 ≤ c) && Decidable.decide (c < nI (rowLen 1 v11)) then
 let v12 : Int := IntKind.u32.wrap (v11.getD (mulE c.toNat 1) 0 + v11.getD (mulE d.toNat 1) 0);
 let v13 : List Int := v11.set (mulE c.toNat 1) v12;
 bif Decidable.decide (0 ≤ b) && Decidable.decide (b < nI (rowLen 1 v13)) then
 bif Decidable.decide (0 ≤ c) && Decidable.decide (c < nI (rowLen 1 v13)) then
 bif Decidable.decide (0 ≤ b) && Decidable.decide (b < nI (rowLen 1 v13)) then
 let v14 : Int := xorI IntKind.u32 (v13.getD (mulE b.toNat 1) 0) (v13.getD (mulE c.toNat 1) 0);
 let v15 : List Int := v13.set (mulE b.toNat 1) (rotl v14 7);
 k [DV.fr [] [(0, Item.row (.one IntKind.u32) 1 v15)]]
 else Option.none
 else Option.none
 else Option.none
 else Option.none
 else Option.none
 else Option.none
 else Option.none
 else Option.none
 else Option.none
 else Option.none
 else Option.none
 else Option.none
 else Option.none
 else Option.none
 else Option.none
 else Option.none
 else Option.none
 else Option.none
 else Option.none
 else Option.none
 else Option.none
 else Option.none
 else Option.none
else Option.none


noncomputable def E46 (N : Nat) : Env := { Θ := Th, Γ := Q93, K := K46, ν := N46, fuel := 60, lp := [] }


theorem f46_contract (N : Nat) (hΓ : CtxOk Try.prog Q93) : Contract Try.prog 46 { sig := { ps := [], rs := [] }, impl := fun _ ds k => callN (E46 N) 5 110 B46 R46 ds k, kind := .inl 5 } :=
  inl_contract (E := E46 N) thOk hΓ mixed ok46 (loopsOk_of (l := []) (by kernel_rfl) trivial)
theorem f46_raw_eq {R : Type} (N : Nat) (s : List Int) (a : Int) (b : Int) (c : Int) (d : Int) (k : List DV → Option R) : callN (E46 N) 5 110 B46 R46 [.fr [va (.own 0), vi .i64 a, vi .i64 b, vi .i64 c, vi .i64 d] [(0, .row (.one .u32) 1 s)]] k = f46_raw N s a b c d k := by kernel_rfl
end Go.Proofs.Ytiaddnmloonhgaa

/- The document's quarter round, and numbers of four bytes. -/
namespace Go.Eng
open Go
theorem Contract.refineK {P : Program} {g : Nat} {fi : FI}
    (h : ∀ R ds (k : List DV → Option R) r, fi.impl R ds k = some r → ∃ impl' : (R : Type) → List DV → (List DV → Option R) → Option R, Contract P g { sig := fi.sig, impl := impl', kind := fi.kind } ∧ impl' R ds k = some r) : Contract P g fi := by
  intro R ds k r hk
  obtain ⟨impl', h1, h2⟩ := h R ds k r hk
  exact h1 R ds k r h2
end Go.Eng
namespace Go.Proofs.Ytiaddnmloonhgaa
open Go Go.Eng
set_option maxRecDepth 100000

def I46 : (R : Type) → List DV → (List DV → Option R) → Option R := fun _ ds k => match ds with
  | [.fr [.s (.one (.own 0)), .s (.one (.int .i64 a)), .s (.one (.int .i64 b)), .s (.one (.int .i64 c)), .s (.one (.int .i64 d))] [(0, .row (.one .u32) 1 s)]] =>
    cond (Nat.beq s.length 16 && (in16 a && (in16 b && (in16 c && in16 d)))) (k [.fr [] [(0, .row (.one .u32) 1 (quarterL s a.toNat b.toNat c.toNat d.toNat))]]) none
  | _ => none
def F46 : FI := { sig := { ps := [], rs := [] }, impl := I46, kind := .inl 5 }

theorem c46 : Contract Try.prog 46 F46 := by
  refine Contract.refineK fun R ds k r h => ⟨_, f46_contract 0 Q93_ok, ?_⟩
  unfold F46 at h
  simp only at h
  unfold I46 at h
  split at h
  · rename_i a b c d s
    refine (f46_raw_eq 0 s a b c d k).trans ?_
    cases hb : (Nat.beq s.length 16 && (in16 a && (in16 b && (in16 c && in16 d)))) with
    | true =>
      rw [hb] at h
      simp only [Bool.and_eq_true] at hb
      obtain ⟨hl, ha, hb, hc, hd⟩ := hb
      have hl := Nat.eq_of_beq_eq_true hl
      have ha : (decide (0 ≤ a) && decide (a < nI 16)) = true := ha
      have hb : (decide (0 ≤ b) && decide (b < nI 16)) = true := hb
      have hc : (decide (0 ≤ c) && decide (c < nI 16)) = true := hc
      have hd : (decide (0 ≤ d) && decide (d < nI 16)) = true := hd
      have e : ∀ l : List Int, rowLen 1 l = l.length := fun _ => rfl
      unfold f46_raw
      dsimp only
      simp only [e, List.length_set, hl, ha, hb, hc, hd, cond_true]
      exact h
    | false => rw [hb] at h; cases h
  · cases h

/-- a number of four bytes -/
def lowU (b : List Int) : Int := orI .u32 (orI .u32 (orI .u32 (IntKind.u32.wrap (b.getD 0 0)) (shlI .u32 (IntKind.u32.wrap (b.getD 1 0)) 8)) (shlI .u32 (IntKind.u32.wrap (b.getD 2 0)) 16)) (shlI .u32 (IntKind.u32.wrap (b.getD 3 0)) 24)
def I45 : (R : Type) → List DV → (List DV → Option R) → Option R := fun _ ds k => match ds with
  | [.lst (.one .u8) 1 b] => cond (Nat.ble 4 b.length) (k [.v (.one (.int .u32 (lowU b)))]) none
  | _ => none
theorem c45 : Contract Try.prog 45 { sig := S45, impl := I45 } := by
  refine Contract.refine fun R ds k r h => ⟨_, f45_contract 0 ctxOk_nil, ?_⟩
  unfold I45 at h
  split at h
  · rename_i b
    rw [f45_raw_eq]
    cases hb : Nat.ble 4 b.length with
    | true =>
      rw [hb] at h
      have hb := Nat.le_of_ble_eq_true hb
      have e : nI (rowLen 1 b) = (b.length : Int) := rfl
      unfold f45_raw
      rw [e, decide_eq_true (show (0 : Int) < (b.length : Int) by omega), decide_eq_true (show (1 : Int) < (b.length : Int) by omega), decide_eq_true (show (2 : Int) < (b.length : Int) by omega), decide_eq_true (show (3 : Int) < (b.length : Int) by omega)]
      exact h
    | false => rw [hb] at h; cases h
  · cases h
def Q19 : Ctx := (45, { sig := S45, impl := I45 }) :: (46, F46) :: Q93
theorem Q19_ok : CtxOk Try.prog Q19 := ctxOk_cons ok45 rfl c45 (ctxOk_cons ok46 rfl c46 Q93_ok)
end Go.Proofs.Ytiaddnmloonhgaa

/- What rime/rimeref12.Block comes to. MADE BY PROGRAM (wip/tools/mkfn.py, EngGen.lean). -/
namespace Go.Proofs.Ytiaddnmloonhgaa
open Go Go.Eng
set_option maxRecDepth 100000
set_option linter.unusedVariables false

def f19_0_sh : Shp := { n := 89, lo := 3, slots := [(1, .one (.int IntKind.u32)), (3, .one (.fix (At.ptr 3 0 Off.z 32))), (5, .one (.fix (At.ptr 5 0 Off.z 12))), (6, .one (.fix (At.ptr 6 0 Off.z 64))), (7, .one (.fix (At.own 1000007))), (8, .one (.int IntKind.i64))], items := [(1000007, .row (.one IntKind.u32) 1), (3, .obj [.ints IntKind.u8 32]), (5, .obj [.ints IntKind.u8 12]), (6, .obj [.ints IntKind.u8 64])] }
def f19_0_ex1 : Shp := { n := 89, lo := 3, slots := [(16, .one (.bool)), (1, .one (.int IntKind.u32)), (3, .one (.fix (At.ptr 3 0 Off.z 32))), (5, .one (.fix (At.ptr 5 0 Off.z 12))), (6, .one (.fix (At.ptr 6 0 Off.z 64))), (7, .one (.fix (At.own 1000007))), (8, .one (.int IntKind.i64))], items := [(1000007, .row (.one IntKind.u32) 1), (3, .obj [.ints IntKind.u8 32]), (5, .obj [.ints IntKind.u8 12]), (6, .obj [.ints IntKind.u8 64])] }
noncomputable def f19_0_st {R : Type} (N : Nat) (self : Int → Int → List Int → List Int → List Int → List Int → Option R) (k1 : Bool → Int → Int → List Int → List Int → List Int → List Int → Option R) (x1 : Int) (x2 : Int) (x3 : List Int) (x4 : List Int) (x5 : List Int) (x6 : List Int) : Option R :=
 bif Decidable.decide (x2 < 8) then
 let v0 : Int := IntKind.i64.wrap (4 * x2);
 bif loOk (Option.some v0) (hiInt Option.none 32) then
 let v1 : List Int := Go.Eng.sub x4 (plusO Off.z 1 (Option.some v0)) (mulE (Go.Eng.subN (hiNat Option.none 32) (Option.some v0)) 1);
 bif Nat.ble 4 v1.length then
 let v2 : List Int := (zerosOf (1 * 1)).set 0 (lowU v1);
 bif ((2 * (rowLen 1 x3 + rowLen 1 v2) + 192) * 4).ble big48 && (rowLen 1 x3 + rowLen 1 v2).ble big48 then
 let v3 : Int := IntKind.i64.wrap (x2 + 1);
 let v4 : List Int := x3 ++ v2;
 self x1 v3 v4 x4 x5 x6
 else Option.none
 else Option.none
 else Option.none
else k1 (Decidable.decide (x2 < 8)) x1 x2 x3 x4 x5 x6
noncomputable def f19_0_lp {R : Type} (N : Nat) (k1 : Bool → Int → Int → List Int → List Int → List Int → List Int → Option R) : Nat → Int → Int → List Int → List Int → List Int → List Int → Option R
 | 0, _, _, _, _, _, _ => none
 | n + 1, x1, x2, x3, x4, x5, x6 => f19_0_st N (f19_0_lp N k1 n) k1 x1 x2 x3 x4 x5 x6
noncomputable def f19_0_F (N : Nat) : (R : Type) → List Leaf → (X → AS → Option R) → Option R := fun _ ls K => match ls with
 | [.i x1, .i x2, .l x3, .l x4, .l x5, .l x6] => f19_0_lp N (fun y1 y2 y3 y4 y5 y6 y7 => K (X.normal) (fill f19_0_ex1 [.b y1, .i y2, .i y3, .l y4, .l y5, .l y6, .l y7])) N x1 x2 x3 x4 x5 x6
 | _ => none
def f19_2_sh : Shp := { n := 89, lo := 3, slots := [(5, .one (.fix (At.ptr 5 0 Off.z 12))), (6, .one (.fix (At.ptr 6 0 Off.z 64))), (7, .one (.fix (At.own 1000007))), (9, .one (.int IntKind.i64))], items := [(1000007, .row (.one IntKind.u32) 1), (5, .obj [.ints IntKind.u8 12]), (6, .obj [.ints IntKind.u8 64])] }
def f19_2_ex1 : Shp := { n := 89, lo := 3, slots := [(31, .one (.bool)), (5, .one (.fix (At.ptr 5 0 Off.z 12))), (6, .one (.fix (At.ptr 6 0 Off.z 64))), (7, .one (.fix (At.own 1000007))), (9, .one (.int IntKind.i64))], items := [(1000007, .row (.one IntKind.u32) 1), (5, .obj [.ints IntKind.u8 12]), (6, .obj [.ints IntKind.u8 64])] }
noncomputable def f19_2_st {R : Type} (N : Nat) (self : Int → List Int → List Int → List Int → Option R) (k1 : Bool → Int → List Int → List Int → List Int → Option R) (x1 : Int) (x2 : List Int) (x3 : List Int) (x4 : List Int) : Option R :=
 bif Decidable.decide (x1 < 3) then
 let v0 : Int := IntKind.i64.wrap (4 * x1);
 bif loOk (Option.some v0) (hiInt Option.none 12) then
 let v1 : List Int := Go.Eng.sub x3 (plusO Off.z 1 (Option.some v0)) (mulE (Go.Eng.subN (hiNat Option.none 12) (Option.some v0)) 1);
 bif Nat.ble 4 v1.length then
 let v2 : List Int := (zerosOf (1 * 1)).set 0 (lowU v1);
 bif ((2 * (rowLen 1 x2 + rowLen 1 v2) + 192) * 4).ble big48 && (rowLen 1 x2 + rowLen 1 v2).ble big48 then
 let v3 : Int := IntKind.i64.wrap (x1 + 1);
 let v4 : List Int := x2 ++ v2;
 self v3 v4 x3 x4
 else Option.none
 else Option.none
 else Option.none
else k1 (Decidable.decide (x1 < 3)) x1 x2 x3 x4
noncomputable def f19_2_lp {R : Type} (N : Nat) (k1 : Bool → Int → List Int → List Int → List Int → Option R) : Nat → Int → List Int → List Int → List Int → Option R
 | 0, _, _, _, _ => none
 | n + 1, x1, x2, x3, x4 => f19_2_st N (f19_2_lp N k1 n) k1 x1 x2 x3 x4
noncomputable def f19_2_F (N : Nat) : (R : Type) → List Leaf → (X → AS → Option R) → Option R := fun _ ls K => match ls with
 | [.i x1, .l x2, .l x3, .l x4] => f19_2_lp N (fun y1 y2 y3 y4 y5 => K (X.normal) (fill f19_2_ex1 [.b y1, .i y2, .l y3, .l y4, .l y5])) N x1 x2 x3 x4
 | _ => none
def f19_4_sh : Shp := { n := 89, lo := 3, slots := [(6, .one (.fix (At.ptr 6 0 Off.z 64))), (7, .one (.fix (At.own 1000007))), (10, .one (.fix (At.own 41))), (11, .one (.int IntKind.i64))], items := [(1000007, .row (.one IntKind.u32) 1), (6, .obj [.ints IntKind.u8 64]), (41, .row (.one IntKind.u32) 1)] }
def f19_4_ex1 : Shp := { n := 89, lo := 3, slots := [(46, .one (.bool)), (6, .one (.fix (At.ptr 6 0 Off.z 64))), (7, .one (.fix (At.own 1000007))), (10, .one (.fix (At.own 41))), (11, .one (.int IntKind.i64))], items := [(1000007, .row (.one IntKind.u32) 1), (6, .obj [.ints IntKind.u8 64]), (41, .row (.one IntKind.u32) 1)] }
noncomputable def f19_4_st {R : Type} (N : Nat) (self : Int → List Int → List Int → List Int → Option R) (k1 : Bool → Int → List Int → List Int → List Int → Option R) (x1 : Int) (x2 : List Int) (x3 : List Int) (x4 : List Int) : Option R :=
 bif Decidable.decide (x1 < 10) then
 bif x4.length.beq 16 && (in16 0 && (in16 4 && (in16 8 && in16 12))) then
 bif (quarterL x4 (Int.toNat 0) (Int.toNat 4) (Int.toNat 8) (Int.toNat 12)).length.beq 16 && (in16 1 && (in16 5 && (in16 9 && in16 13))) then
 bif (quarterL (quarterL x4 (Int.toNat 0) (Int.toNat 4) (Int.toNat 8) (Int.toNat 12)) (Int.toNat 1) (Int.toNat 5) (Int.toNat 9) (Int.toNat 13)).length.beq 16 && (in16 2 && (in16 6 && (in16 10 && in16 14))) then
 bif (quarterL (quarterL (quarterL x4 (Int.toNat 0) (Int.toNat 4) (Int.toNat 8) (Int.toNat 12)) (Int.toNat 1) (Int.toNat 5) (Int.toNat 9) (Int.toNat 13)) (Int.toNat 2) (Int.toNat 6) (Int.toNat 10) (Int.toNat 14)).length.beq 16 && (in16 3 && (in16 7 && (in16 11 && in16 15))) then
 bif (quarterL (quarterL (quarterL (quarterL x4 (Int.toNat 0) (Int.toNat 4) (Int.toNat 8) (Int.toNat 12)) (Int.toNat 1) (Int.toNat 5) (Int.toNat 9) (Int.toNat 13)) (Int.toNat 2) (Int.toNat 6) (Int.toNat 10) (Int.toNat 14)) (Int.toNat 3) (Int.toNat 7) (Int.toNat 11) (Int.toNat 15)).length.beq 16 && (in16 0 && (in16 5 && (in16 10 && in16 15))) then
 bif (quarterL (quarterL (quarterL (quarterL (quarterL x4 (Int.toNat 0) (Int.toNat 4) (Int.toNat 8) (Int.toNat 12)) (Int.toNat 1) (Int.toNat 5) (Int.toNat 9) (Int.toNat 13)) (Int.toNat 2) (Int.toNat 6) (Int.toNat 10) (Int.toNat 14)) (Int.toNat 3) (Int.toNat 7) (Int.toNat 11) (Int.toNat 15)) (Int.toNat 0) (Int.toNat 5) (Int.toNat 10) (Int.toNat 15)).length.beq 16 && (in16 1 && (in16 6 && (in16 11 && in16 12))) then
 bif (quarterL (quarterL (quarterL (quarterL (quarterL (quarterL x4 (Int.toNat 0) (Int.toNat 4) (Int.toNat 8) (Int.toNat 12)) (Int.toNat 1) (Int.toNat 5) (Int.toNat 9) (Int.toNat 13)) (Int.toNat 2) (Int.toNat 6) (Int.toNat 10) (Int.toNat 14)) (Int.toNat 3) (Int.toNat 7) (Int.toNat 11) (Int.toNat 15)) (Int.toNat 0) (Int.toNat 5) (Int.toNat 10) (Int.toNat 15)) (Int.toNat 1) (Int.toNat 6) (Int.toNat 11) (Int.toNat 12)).length.beq 16 && (in16 2 && (in16 7 && (in16 8 && in16 13))) then
 bif (quarterL (quarterL (quarterL (quarterL (quarterL (quarterL (quarterL x4 (Int.toNat 0) (Int.toNat 4) (Int.toNat 8) (Int.toNat 12)) (Int.toNat 1) (Int.toNat 5) (Int.toNat 9) (Int.toNat 13)) (Int.toNat 2) (Int.toNat 6) (Int.toNat 10) (Int.toNat 14)) (Int.toNat 3) (Int.toNat 7) (Int.toNat 11) (Int.toNat 15)) (Int.toNat 0) (Int.toNat 5) (Int.toNat 10) (Int.toNat 15)) (Int.toNat 1) (Int.toNat 6) (Int.toNat 11) (Int.toNat 12)) (Int.toNat 2) (Int.toNat 7) (Int.toNat 8) (Int.toNat 13)).length.beq 16 && (in16 3 && (in16 4 && (in16 9 && in16 14))) then
 let v0 : Int := IntKind.i64.wrap (x1 + 1);
 self v0 x2 x3 (quarterL (quarterL (quarterL (quarterL (quarterL (quarterL (quarterL (quarterL x4 (Int.toNat 0) (Int.toNat 4) (Int.toNat 8) (Int.toNat 12)) (Int.toNat 1) (Int.toNat 5) (Int.toNat 9) (Int.toNat 13)) (Int.toNat 2) (Int.toNat 6) (Int.toNat 10) (Int.toNat 14)) (Int.toNat 3) (Int.toNat 7) (Int.toNat 11) (Int.toNat 15)) (Int.toNat 0) (Int.toNat 5) (Int.toNat 10) (Int.toNat 15)) (Int.toNat 1) (Int.toNat 6) (Int.toNat 11) (Int.toNat 12)) (Int.toNat 2) (Int.toNat 7) (Int.toNat 8) (Int.toNat 13)) (Int.toNat 3) (Int.toNat 4) (Int.toNat 9) (Int.toNat 14))
 else Option.none
 else Option.none
 else Option.none
 else Option.none
 else Option.none
 else Option.none
 else Option.none
 else Option.none
else k1 (Decidable.decide (x1 < 10)) x1 x2 x3 x4
noncomputable def f19_4_lp {R : Type} (N : Nat) (k1 : Bool → Int → List Int → List Int → List Int → Option R) : Nat → Int → List Int → List Int → List Int → Option R
 | 0, _, _, _, _ => none
 | n + 1, x1, x2, x3, x4 => f19_4_st N (f19_4_lp N k1 n) k1 x1 x2 x3 x4
noncomputable def f19_4_F (N : Nat) : (R : Type) → List Leaf → (X → AS → Option R) → Option R := fun _ ls K => match ls with
 | [.i x1, .l x2, .l x3, .l x4] => f19_4_lp N (fun y1 y2 y3 y4 y5 => K (X.normal) (fill f19_4_ex1 [.b y1, .i y2, .l y3, .l y4, .l y5])) N x1 x2 x3 x4
 | _ => none
def f19_6_sh : Shp := { n := 89, lo := 3, slots := [(6, .one (.fix (At.ptr 6 0 Off.z 64))), (7, .one (.fix (At.own 1000007))), (10, .one (.fix (At.own 41))), (12, .one (.fix (At.ptr 12 0 Off.z 64))), (13, .one (.int IntKind.i64))], items := [(1000007, .row (.one IntKind.u32) 1), (6, .obj [.ints IntKind.u8 64]), (12, .obj [.ints IntKind.u8 64]), (41, .row (.one IntKind.u32) 1)] }
def f19_6_ex1 : Shp := { n := 89, lo := 3, slots := [(66, .one (.bool)), (6, .one (.fix (At.ptr 6 0 Off.z 64))), (7, .one (.fix (At.own 1000007))), (10, .one (.fix (At.own 41))), (12, .one (.fix (At.ptr 12 0 Off.z 64))), (13, .one (.int IntKind.i64))], items := [(1000007, .row (.one IntKind.u32) 1), (6, .obj [.ints IntKind.u8 64]), (12, .obj [.ints IntKind.u8 64]), (41, .row (.one IntKind.u32) 1)] }
noncomputable def f19_6_st {R : Type} (N : Nat) (self : Int → List Int → List Int → List Int → List Int → Option R) (k1 : Bool → Int → List Int → List Int → List Int → List Int → Option R) (x1 : Int) (x2 : List Int) (x3 : List Int) (x4 : List Int) (x5 : List Int) : Option R :=
 bif Decidable.decide (x1 < 64) then
 let v0 : Int := IntKind.i64.wrap (x1.tdiv 4);
 bif Decidable.decide (0 ≤ v0) && Decidable.decide (v0 < nI (rowLen 1 x5)) then
 bif Decidable.decide (0 ≤ v0) && Decidable.decide (v0 < nI (rowLen 1 x2)) then
 let v1 : Int := IntKind.i64.wrap (8 * x1.tmod 4);
 let v2 : Int := IntKind.u64.wrap v1;
 bif Decidable.decide (0 ≤ v2) then
 bif Decidable.decide (0 ≤ x1) && Decidable.decide (x1 < 64) then
 let v3 : Int := IntKind.i64.wrap (x1 + 1);
 let v4 : Int := IntKind.u32.wrap (x5.getD (mulE v0.toNat 1) 0 + x2.getD (mulE v0.toNat 1) 0);
 let v5 : Int := shrI IntKind.u32 v4 v2;
 let v6 : Int := IntKind.u8.wrap v5;
 let v7 : List Int := x4.set (mulE x1.toNat 1) v6;
 self v3 x2 x3 v7 x5
 else Option.none
 else Option.none
 else Option.none
 else Option.none
else k1 (Decidable.decide (x1 < 64)) x1 x2 x3 x4 x5
noncomputable def f19_6_lp {R : Type} (N : Nat) (k1 : Bool → Int → List Int → List Int → List Int → List Int → Option R) : Nat → Int → List Int → List Int → List Int → List Int → Option R
 | 0, _, _, _, _, _ => none
 | n + 1, x1, x2, x3, x4, x5 => f19_6_st N (f19_6_lp N k1 n) k1 x1 x2 x3 x4 x5
noncomputable def f19_6_F (N : Nat) : (R : Type) → List Leaf → (X → AS → Option R) → Option R := fun _ ls K => match ls with
 | [.i x1, .l x2, .l x3, .l x4, .l x5] => f19_6_lp N (fun y1 y2 y3 y4 y5 y6 => K (X.normal) (fill f19_6_ex1 [.b y1, .i y2, .l y3, .l y4, .l y5, .l y6])) N x1 x2 x3 x4 x5
 | _ => none
noncomputable def f19_raw {R : Type} (N : Nat) (key : List Int) (ctr : Int) (nonce : List Int) (k : List DV → Option R) : Option R :=
 let v0 : List Int := (zerosOf (4 * 1)).set 0 1634760805;
let v1 : List Int := v0.set 1 857760878;
let v2 : List Int := v1.set 2 2036477234;
let v3 : List Int := v2.set 3 1797285236;
f19_0_lp N
 (fun w4_1 w4_2 w4_3 w4_4 w4_5 w4_6 w4_7 =>
 let v5 : List Int := (zerosOf (1 * 1)).set 0 w4_2;
 bif ((2 * (rowLen 1 w4_4 + rowLen 1 v5) + 192) * 4).ble big48 && (rowLen 1 w4_4 + rowLen 1 v5).ble big48 then
 let v6 : List Int := w4_4 ++ v5;
 f19_2_lp N
 (fun w7_1 w7_2 w7_3 w7_4 w7_5 =>
 let v8 : Nat := Min.min (rowLen 1 w7_3) (rowLen 1 (zerosOf (mulE (Int.toNat 16) 1)));
 let v9 : List Int := splice (zerosOf (mulE (Int.toNat 16) 1)) Off.z (List.take (mulE v8 1) w7_3);
 f19_4_lp N (fun w10_1 w10_2 w10_3 w10_4 w10_5 => f19_6_lp N (fun w11_1 w11_2 w11_3 w11_4 w11_5 w11_6 => k [DV.v (SV.one (At.ints IntKind.u8 64 w11_5))]) N 0 w10_3 w10_4 (List.replicate 64 0) w10_5) N 0 w7_3 w7_5 v9)
 N 0 v6 w4_6 w4_7
 else Option.none)
 N ctr 0 v3 key nonce (List.replicate 64 0)


noncomputable def E19 (N : Nat) : Env := { Θ := Th, Γ := Q19, K := K19, ν := N19, fuel := 0, lp := [(0, mkL N19_0 f19_0_sh (f19_0_F N)), (2, mkL N19_2 f19_2_sh (f19_2_F N)), (4, mkL N19_4 f19_4_sh (f19_4_F N)), (6, mkL N19_6 f19_6_sh (f19_6_F N))] }

theorem f19_0_st_eq {R : Type} (N : Nat) (K : X → AS → Option R) (n : Nat) (x1 : Int) (x2 : Int) (x3 : List Int) (x4 : List Int) (x5 : List Int) (x6 : List Int) : roundsOf (E19 N) N19_0 0 B19_0 K (n + 1) (fill f19_0_sh [.i x1, .i x2, .l x3, .l x4, .l x5, .l x6]) = f19_0_st N (fun x1 x2 x3 x4 x5 x6 => roundsOf (E19 N) N19_0 0 B19_0 K n (fill f19_0_sh [.i x1, .i x2, .l x3, .l x4, .l x5, .l x6])) (fun y1 y2 y3 y4 y5 y6 y7 => K (X.normal) (fill f19_0_ex1 [.b y1, .i y2, .i y3, .l y4, .l y5, .l y6, .l y7])) x1 x2 x3 x4 x5 x6 := by kernel_rfl
theorem f19_0_lp_eq {R : Type} (N : Nat) (K : X → AS → Option R) : ∀ (n : Nat) (x1 : Int) (x2 : Int) (x3 : List Int) (x4 : List Int) (x5 : List Int) (x6 : List Int), roundsOf (E19 N) N19_0 0 B19_0 K n (fill f19_0_sh [.i x1, .i x2, .l x3, .l x4, .l x5, .l x6]) = f19_0_lp N (fun y1 y2 y3 y4 y5 y6 y7 => K (X.normal) (fill f19_0_ex1 [.b y1, .i y2, .i y3, .l y4, .l y5, .l y6, .l y7])) n x1 x2 x3 x4 x5 x6
  | 0, _, _, _, _, _, _ => rfl
  | n + 1, x1, x2, x3, x4, x5, x6 => by
    rw [f19_0_st_eq, f19_0_lp, show (fun x1 x2 x3 x4 x5 x6 => roundsOf (E19 N) N19_0 0 B19_0 K n (fill f19_0_sh [.i x1, .i x2, .l x3, .l x4, .l x5, .l x6])) = f19_0_lp N (fun y1 y2 y3 y4 y5 y6 y7 => K (X.normal) (fill f19_0_ex1 [.b y1, .i y2, .i y3, .l y4, .l y5, .l y6, .l y7])) n from by funext x1 x2 x3 x4 x5 x6; exact f19_0_lp_eq N K n x1 x2 x3 x4 x5 x6]
theorem f19_0_ok (N : Nat) (hlp : LoopsOk Try.prog (E19 N).lp B19_0) (hΓ : CtxOk Try.prog (E19 N).Γ) : LoopOk Try.prog (mkL N19_0 f19_0_sh (f19_0_F N)) 0 B19_0 := by
  refine loopOk_of (E := E19 N) thOk hΓ mixed hlp ?_
  intro R ls K r h
  unfold f19_0_F at h
  split at h
  · exact ⟨N, by rw [f19_0_lp_eq]; exact h⟩
  · cases h
theorem f19_2_st_eq {R : Type} (N : Nat) (K : X → AS → Option R) (n : Nat) (x1 : Int) (x2 : List Int) (x3 : List Int) (x4 : List Int) : roundsOf (E19 N) N19_2 2 B19_2 K (n + 1) (fill f19_2_sh [.i x1, .l x2, .l x3, .l x4]) = f19_2_st N (fun x1 x2 x3 x4 => roundsOf (E19 N) N19_2 2 B19_2 K n (fill f19_2_sh [.i x1, .l x2, .l x3, .l x4])) (fun y1 y2 y3 y4 y5 => K (X.normal) (fill f19_2_ex1 [.b y1, .i y2, .l y3, .l y4, .l y5])) x1 x2 x3 x4 := by kernel_rfl
theorem f19_2_lp_eq {R : Type} (N : Nat) (K : X → AS → Option R) : ∀ (n : Nat) (x1 : Int) (x2 : List Int) (x3 : List Int) (x4 : List Int), roundsOf (E19 N) N19_2 2 B19_2 K n (fill f19_2_sh [.i x1, .l x2, .l x3, .l x4]) = f19_2_lp N (fun y1 y2 y3 y4 y5 => K (X.normal) (fill f19_2_ex1 [.b y1, .i y2, .l y3, .l y4, .l y5])) n x1 x2 x3 x4
  | 0, _, _, _, _ => rfl
  | n + 1, x1, x2, x3, x4 => by
    rw [f19_2_st_eq, f19_2_lp, show (fun x1 x2 x3 x4 => roundsOf (E19 N) N19_2 2 B19_2 K n (fill f19_2_sh [.i x1, .l x2, .l x3, .l x4])) = f19_2_lp N (fun y1 y2 y3 y4 y5 => K (X.normal) (fill f19_2_ex1 [.b y1, .i y2, .l y3, .l y4, .l y5])) n from by funext x1 x2 x3 x4; exact f19_2_lp_eq N K n x1 x2 x3 x4]
theorem f19_2_ok (N : Nat) (hlp : LoopsOk Try.prog (E19 N).lp B19_2) (hΓ : CtxOk Try.prog (E19 N).Γ) : LoopOk Try.prog (mkL N19_2 f19_2_sh (f19_2_F N)) 2 B19_2 := by
  refine loopOk_of (E := E19 N) thOk hΓ mixed hlp ?_
  intro R ls K r h
  unfold f19_2_F at h
  split at h
  · exact ⟨N, by rw [f19_2_lp_eq]; exact h⟩
  · cases h
theorem f19_4_st_eq {R : Type} (N : Nat) (K : X → AS → Option R) (n : Nat) (x1 : Int) (x2 : List Int) (x3 : List Int) (x4 : List Int) : roundsOf (E19 N) N19_4 4 B19_4 K (n + 1) (fill f19_4_sh [.i x1, .l x2, .l x3, .l x4]) = f19_4_st N (fun x1 x2 x3 x4 => roundsOf (E19 N) N19_4 4 B19_4 K n (fill f19_4_sh [.i x1, .l x2, .l x3, .l x4])) (fun y1 y2 y3 y4 y5 => K (X.normal) (fill f19_4_ex1 [.b y1, .i y2, .l y3, .l y4, .l y5])) x1 x2 x3 x4 := by kernel_rfl
theorem f19_4_lp_eq {R : Type} (N : Nat) (K : X → AS → Option R) : ∀ (n : Nat) (x1 : Int) (x2 : List Int) (x3 : List Int) (x4 : List Int), roundsOf (E19 N) N19_4 4 B19_4 K n (fill f19_4_sh [.i x1, .l x2, .l x3, .l x4]) = f19_4_lp N (fun y1 y2 y3 y4 y5 => K (X.normal) (fill f19_4_ex1 [.b y1, .i y2, .l y3, .l y4, .l y5])) n x1 x2 x3 x4
  | 0, _, _, _, _ => rfl
  | n + 1, x1, x2, x3, x4 => by
    rw [f19_4_st_eq, f19_4_lp, show (fun x1 x2 x3 x4 => roundsOf (E19 N) N19_4 4 B19_4 K n (fill f19_4_sh [.i x1, .l x2, .l x3, .l x4])) = f19_4_lp N (fun y1 y2 y3 y4 y5 => K (X.normal) (fill f19_4_ex1 [.b y1, .i y2, .l y3, .l y4, .l y5])) n from by funext x1 x2 x3 x4; exact f19_4_lp_eq N K n x1 x2 x3 x4]
theorem f19_4_ok (N : Nat) (hlp : LoopsOk Try.prog (E19 N).lp B19_4) (hΓ : CtxOk Try.prog (E19 N).Γ) : LoopOk Try.prog (mkL N19_4 f19_4_sh (f19_4_F N)) 4 B19_4 := by
  refine loopOk_of (E := E19 N) thOk hΓ mixed hlp ?_
  intro R ls K r h
  unfold f19_4_F at h
  split at h
  · exact ⟨N, by rw [f19_4_lp_eq]; exact h⟩
  · cases h
theorem f19_6_st_eq {R : Type} (N : Nat) (K : X → AS → Option R) (n : Nat) (x1 : Int) (x2 : List Int) (x3 : List Int) (x4 : List Int) (x5 : List Int) : roundsOf (E19 N) N19_6 6 B19_6 K (n + 1) (fill f19_6_sh [.i x1, .l x2, .l x3, .l x4, .l x5]) = f19_6_st N (fun x1 x2 x3 x4 x5 => roundsOf (E19 N) N19_6 6 B19_6 K n (fill f19_6_sh [.i x1, .l x2, .l x3, .l x4, .l x5])) (fun y1 y2 y3 y4 y5 y6 => K (X.normal) (fill f19_6_ex1 [.b y1, .i y2, .l y3, .l y4, .l y5, .l y6])) x1 x2 x3 x4 x5 := by kernel_rfl
theorem f19_6_lp_eq {R : Type} (N : Nat) (K : X → AS → Option R) : ∀ (n : Nat) (x1 : Int) (x2 : List Int) (x3 : List Int) (x4 : List Int) (x5 : List Int), roundsOf (E19 N) N19_6 6 B19_6 K n (fill f19_6_sh [.i x1, .l x2, .l x3, .l x4, .l x5]) = f19_6_lp N (fun y1 y2 y3 y4 y5 y6 => K (X.normal) (fill f19_6_ex1 [.b y1, .i y2, .l y3, .l y4, .l y5, .l y6])) n x1 x2 x3 x4 x5
  | 0, _, _, _, _, _ => rfl
  | n + 1, x1, x2, x3, x4, x5 => by
    rw [f19_6_st_eq, f19_6_lp, show (fun x1 x2 x3 x4 x5 => roundsOf (E19 N) N19_6 6 B19_6 K n (fill f19_6_sh [.i x1, .l x2, .l x3, .l x4, .l x5])) = f19_6_lp N (fun y1 y2 y3 y4 y5 y6 => K (X.normal) (fill f19_6_ex1 [.b y1, .i y2, .l y3, .l y4, .l y5, .l y6])) n from by funext x1 x2 x3 x4 x5; exact f19_6_lp_eq N K n x1 x2 x3 x4 x5]
theorem f19_6_ok (N : Nat) (hlp : LoopsOk Try.prog (E19 N).lp B19_6) (hΓ : CtxOk Try.prog (E19 N).Γ) : LoopOk Try.prog (mkL N19_6 f19_6_sh (f19_6_F N)) 6 B19_6 := by
  refine loopOk_of (E := E19 N) thOk hΓ mixed hlp ?_
  intro R ls K r h
  unfold f19_6_F at h
  split at h
  · exact ⟨N, by rw [f19_6_lp_eq]; exact h⟩
  · cases h

theorem lok19_6 (N : Nat) (hΓ : CtxOk Try.prog Q19) : LoopOk Try.prog (mkL N19_6 f19_6_sh (f19_6_F N)) 6 B19_6 := f19_6_ok N (loopsOk_of (l := []) (by kernel_rfl) trivial) hΓ
theorem lok19_4 (N : Nat) (hΓ : CtxOk Try.prog Q19) : LoopOk Try.prog (mkL N19_4 f19_4_sh (f19_4_F N)) 4 B19_4 := f19_4_ok N (loopsOk_of (l := []) (by kernel_rfl) trivial) hΓ
theorem lok19_2 (N : Nat) (hΓ : CtxOk Try.prog Q19) : LoopOk Try.prog (mkL N19_2 f19_2_sh (f19_2_F N)) 2 B19_2 := f19_2_ok N (loopsOk_of (l := []) (by kernel_rfl) trivial) hΓ
theorem lok19_0 (N : Nat) (hΓ : CtxOk Try.prog Q19) : LoopOk Try.prog (mkL N19_0 f19_0_sh (f19_0_F N)) 0 B19_0 := f19_0_ok N (loopsOk_of (l := []) (by kernel_rfl) trivial) hΓ
theorem f19_contract (N : Nat) (hΓ : CtxOk Try.prog Q19) : Contract Try.prog 19 { sig := S19, impl := fun _ ds k => call (E19 N) S19 89 B19 R19 ds k } :=
  call_contract (E := E19 N) thOk hΓ mixed ok19.look ok19.body ok19.n ok19.rv ok19.name rfl (by decide) (loopsOk_of (l := [(0, B19_0), (2, B19_2), (4, B19_4), (6, B19_6)]) (by kernel_rfl) (allOk_cons (L := mkL N19_0 f19_0_sh (f19_0_F N)) rfl (lok19_0 N hΓ) (allOk_cons (L := mkL N19_2 f19_2_sh (f19_2_F N)) rfl (lok19_2 N hΓ) (allOk_cons (L := mkL N19_4 f19_4_sh (f19_4_F N)) rfl (lok19_4 N hΓ) (allOk_cons (L := mkL N19_6 f19_6_sh (f19_6_F N)) rfl (lok19_6 N hΓ) trivial)))))
theorem f19_raw_eq {R : Type} (N : Nat) (key : List Int) (ctr : Int) (nonce : List Int) (k : List DV → Option R) : call (E19 N) S19 89 B19 R19 [.v (.one (.ints .u8 32 key)), .v (.one (.int .u32 ctr)), .v (.one (.ints .u8 12 nonce))] k = f19_raw N key ctr nonce k := by kernel_rfl
end Go.Proofs.Ytiaddnmloonhgaa

/- Numbers: what the machine's operations do to natural numbers that fit. -/
namespace Go.Eng
open Go

theorem wrapMod {k : IntKind} (hk : k.signed = false) (n : Nat) : k.wrap (n : Int) = ((n % 2 ^ k.bits : Nat) : Int) := by
  unfold IntKind.wrap
  simp only [hk, Bool.false_and, Bool.false_eq_true, if_false]
  rfl

theorem wrapFit {k : IntKind} (hk : k.signed = false) {n : Nat} (h : n < 2 ^ k.bits) : k.wrap (n : Int) = (n : Int) := by
  rw [wrapMod hk, Nat.mod_eq_of_lt h]

theorem w64 {n : Nat} (h : n < 18446744073709551616) : IntKind.u64.wrap (n : Int) = (n : Int) := wrapFit rfl h
theorem w32 {n : Nat} (h : n < 4294967296) : IntKind.u32.wrap (n : Int) = (n : Int) := wrapFit rfl h
theorem w8 {n : Nat} (h : n < 256) : IntKind.u8.wrap (n : Int) = (n : Int) := wrapFit rfl h
theorem wm64 (n : Nat) : IntKind.u64.wrap (n : Int) = ((n % 18446744073709551616 : Nat) : Int) := wrapMod rfl n
theorem wm32 (n : Nat) : IntKind.u32.wrap (n : Int) = ((n % 4294967296 : Nat) : Int) := wrapMod rfl n
theorem wm8 (n : Nat) : IntKind.u8.wrap (n : Int) = ((n % 256 : Nat) : Int) := wrapMod rfl n
theorem wi64 {n : Nat} (h : n < 9223372036854775808) : IntKind.i64.wrap (n : Int) = (n : Int) := by
  simp [IntKind.wrap, IntKind.bits, IntKind.signed]; omega

theorem shrN {k : IntKind} {m : Nat} (hm : m ≤ k.bits) (n : Nat) : shrI k (n : Int) (m : Int) = ((n / 2 ^ m : Nat) : Int) := by
  unfold shrI
  rw [Int.toNat_natCast, Nat.min_eq_left hm]
  rw [Int.fdiv_eq_ediv_of_nonneg _ (by exact Int.le_of_lt (Int.pow_pos (by decide)))]
  simp

theorem shlN {k : IntKind} (hk : k.signed = false) {m : Nat} (hm : m ≤ k.bits) (n : Nat) : shlI k (n : Int) (m : Int) = ((n * 2 ^ m % 2 ^ k.bits : Nat) : Int) := by
  unfold shlI
  rw [Int.toNat_natCast, Nat.min_eq_left hm]
  rw [show (n : Int) * 2 ^ m = ((n * 2 ^ m : Nat) : Int) by simp, wrapMod hk]

theorem bvNat {w n : Nat} (h : n < 2 ^ w) : (BitVec.ofInt w (n : Int)).toNat = n := by
  rw [BitVec.ofInt_natCast, BitVec.toNat_ofNat, Nat.mod_eq_of_lt h]

theorem andN {k : IntKind} (hk : k.signed = false) {a b : Nat} (ha : a < 2 ^ k.bits) (hb : b < 2 ^ k.bits) : andI k (a : Int) (b : Int) = ((a &&& b : Nat) : Int) := by
  unfold andI
  rw [BitVec.toNat_and, bvNat ha, bvNat hb]
  exact wrapFit hk (Nat.lt_of_le_of_lt Nat.and_le_left ha)

theorem orN {k : IntKind} (hk : k.signed = false) {a b : Nat} (ha : a < 2 ^ k.bits) (hb : b < 2 ^ k.bits) : orI k (a : Int) (b : Int) = ((a ||| b : Nat) : Int) := by
  unfold orI
  rw [BitVec.toNat_or, bvNat ha, bvNat hb]
  exact wrapFit hk (Nat.or_lt_two_pow ha hb)

theorem xorN {k : IntKind} (hk : k.signed = false) {a b : Nat} (ha : a < 2 ^ k.bits) (hb : b < 2 ^ k.bits) : xorI k (a : Int) (b : Int) = ((a ^^^ b : Nat) : Int) := by
  unfold xorI
  rw [BitVec.toNat_xor, bvNat ha, bvNat hb]
  exact wrapFit hk (Nat.xor_lt_two_pow ha hb)

/-- a mask of so many ones -/
theorem maskN {k : IntKind} (hk : k.signed = false) {a j : Nat} (ha : a < 2 ^ k.bits) (hj : j ≤ k.bits) : andI k (a : Int) ((2 ^ j - 1 : Nat) : Int) = ((a % 2 ^ j : Nat) : Int) := by
  rw [andN hk ha (Nat.lt_of_lt_of_le (Nat.sub_lt (Nat.two_pow_pos j) (by decide)) (Nat.pow_le_pow_right (by decide) hj)), Nat.and_two_pow_sub_one_eq_mod]

/-- what lies above and what lies below, put together -/
theorem or_addN {a b j : Nat} (hb : b < 2 ^ j) : (a * 2 ^ j) ||| b = a * 2 ^ j + b := by
  rw [Nat.mul_comm, Nat.two_pow_add_eq_or_of_lt hb]

theorem or_addN' {a b j : Nat} (hb : b < 2 ^ j) : b ||| (a * 2 ^ j) = b + a * 2 ^ j := by
  rw [Nat.or_comm, or_addN hb, Nat.add_comm]

def nats (l : List Nat) : List Int := l.map Int.ofNat

theorem nats_getD (l : List Nat) (i : Nat) : (nats l).getD i 0 = ((l.getD i 0 : Nat) : Int) := by
  simp only [nats, List.getD_eq_getElem?_getD, List.getElem?_map]
  cases l[i]? <;> rfl

theorem nats_set (l : List Nat) (i n : Nat) : (nats l).set i (n : Int) = nats (l.set i n) := by
  simp [nats, List.map_set]

theorem nats_length (l : List Nat) : (nats l).length = l.length := by simp [nats]

theorem nats_inj {a b : List Nat} : nats a = nats b ↔ a = b := by
  constructor
  · intro h
    have : ∀ (a b : List Nat), nats a = nats b → a = b := by
      intro a
      induction a with
      | nil => intro b h; cases b with | nil => rfl | cons y b => simp [nats] at h
      | cons x a ih =>
        intro b h
        cases b with
        | nil => simp [nats] at h
        | cons y b =>
          simp only [nats, List.map_cons, List.cons.injEq] at h
          rw [ih b h.2, Int.ofNat_inj.1 h.1]
    exact this a b h
  · rintro rfl; rfl

/-- numbers that are not below 0, as natural numbers -/
theorem nats_of {xs : List Int} (h : ∀ x ∈ xs, 0 ≤ x) : ∃ l : List Nat, xs = nats l := by
  induction xs with
  | nil => exact ⟨[], rfl⟩
  | cons x xs ih =>
    obtain ⟨l, e⟩ := ih fun y hy => h y (.tail _ hy)
    have hx := h x (.head _)
    exact ⟨x.toNat :: l, by rw [e]; simp [nats]; omega⟩

/-- the number of digits, the lowest first -/
def valB (b : Nat) : List Nat → Nat
  | [] => 0
  | x :: l => x + b * valB b l

theorem valB_append (b : Nat) : ∀ (l m : List Nat), valB b (l ++ m) = valB b l + b ^ l.length * valB b m
  | [], m => by simp [valB]
  | x :: l, m => by
    rw [List.cons_append, valB, valB_append b l m, valB, List.length_cons, Nat.pow_succ]
    rw [Nat.mul_add, Nat.add_assoc, ← Nat.mul_assoc b, Nat.mul_comm b (b ^ l.length)]

theorem valB_lt {b : Nat} (hb : 0 < b) : ∀ {l : List Nat}, (∀ x ∈ l, x < b) → valB b l < b ^ l.length
  | [], _ => by simp [valB]
  | x :: l, h => by
    have h1 := h x (.head _)
    have h2 := valB_lt hb (l := l) fun y hy => h y (.tail _ hy)
    rw [valB, List.length_cons, Nat.pow_succ, Nat.mul_comm _ b]
    have h3 : b * (valB b l + 1) ≤ b * b ^ l.length := Nat.mul_le_mul_left b h2
    rw [Nat.mul_add] at h3
    omega

/-- digits that are digits are the number's -/
theorem valB_inj {b : Nat} (hb : 0 < b) : ∀ {l m : List Nat}, l.length = m.length → (∀ x ∈ l, x < b) → (∀ x ∈ m, x < b) → valB b l = valB b m → l = m
  | [], [], _, _, _, _ => rfl
  | [], _ :: _, h, _, _, _ => by simp at h
  | _ :: _, [], h, _, _, _ => by simp at h
  | x :: l, y :: m, h, h1, h2, h3 => by
    have hx := h1 x (.head _)
    have hy := h2 y (.head _)
    simp only [valB] at h3
    have e1 : (x + b * valB b l) % b = x := by rw [Nat.add_mul_mod_self_left, Nat.mod_eq_of_lt hx]
    have e2 : (y + b * valB b m) % b = y := by rw [Nat.add_mul_mod_self_left, Nat.mod_eq_of_lt hy]
    have e : x = y := by rw [← e1, ← e2, h3]
    subst e
    have h4 : valB b l = valB b m := Nat.eq_of_mul_eq_mul_left hb (by omega)
    rw [valB_inj hb (by simpa using h) (fun z hz => h1 z (.tail _ hz)) (fun z hz => h2 z (.tail _ hz)) h4]

/-- the digits of a number -/
def digs (b : Nat) : Nat → Nat → List Nat
  | 0, _ => []
  | m + 1, n => n % b :: digs b m (n / b)

theorem digs_length (b : Nat) : ∀ (m n : Nat), (digs b m n).length = m
  | 0, _ => rfl
  | m + 1, n => by simp [digs, digs_length b m]

theorem digs_val (b : Nat) : ∀ (m n : Nat), valB b (digs b m n) = n % b ^ m
  | 0, n => by simp [digs, valB, Nat.mod_one]
  | m + 1, n => by
    rw [digs, valB, digs_val b m, Nat.pow_succ, Nat.mul_comm _ b, Nat.mod_mul]

theorem digs_lt {b : Nat} (hb : 0 < b) : ∀ {m n : Nat}, ∀ x ∈ digs b m n, x < b
  | 0, _, x, h => by cases h
  | m + 1, n, x, h => by
    rcases List.mem_cons.1 h with e | h
    · subst e; exact Nat.mod_lt _ hb
    · exact digs_lt hb x h

theorem digs_of {b : Nat} (hb : 0 < b) {l : List Nat} (h : ∀ x ∈ l, x < b) : digs b l.length (valB b l) = l :=
  valB_inj hb (digs_length _ _ _) (digs_lt hb) h (by rw [digs_val, Nat.mod_eq_of_lt (valB_lt hb h)])

end Go.Eng

/- Rows of numbers: small laws. -/
namespace Go.Eng
open Go

def limG : Nat := 1099511627776

/-- the mark of a place -/
def markI (i j : Int) : Int := IntKind.u8.wrap (IntKind.i64.wrap (IntKind.i64.wrap (IntKind.i64.wrap (i * 31) + IntKind.i64.wrap (j * 7)) + 5))

theorem by_mulE (n : Nat) : mulE n 1 = n := rfl
theorem by_rowLen (xs : List Int) : rowLen 1 xs = xs.length := rfl
theorem by_drop {xs : List Int} {i : Nat} (h : i < xs.length) : xs.drop i = xs.getD i 0 :: xs.drop (i + 1) := by
  rw [List.drop_eq_getElem_cons h, List.getD_eq_getElem?_getD, List.getElem?_eq_getElem h]; rfl
theorem by_wrap {n : Nat} (h : n < 4611686018427387904) : IntKind.i64.wrap (n : Int) = n := by
  unfold IntKind.wrap
  simp only [IntKind.bits, IntKind.signed]
  have e : (n : Int) % 2 ^ 64 = n := Int.emod_eq_of_lt (by omega) (by omega)
  simp only [e]
  rw [if_neg]
  simp only [Bool.true_and, decide_eq_true_eq]
  intro h2
  have h2 : (2 : Int) ^ 63 ≤ (n : Int) := by first | exact h2 | simpa using h2
  have : (2 : Int) ^ 63 = 9223372036854775808 := by decide
  omega
theorem by_in {i n : Nat} (h : i < n) : (decide ((0 : Int) ≤ (i : Int)) && decide ((i : Int) < (n : Int))) = true := by simp; omega

/-- places up to n are filled by f, the others are as they were -/
def fillG (f : Nat → Int) (n : Nat) (xs : List Int) : List Int := xs.mapIdx fun i x => if i < n then f i else x
theorem fillG_zero (f : Nat → Int) (xs : List Int) : fillG f 0 xs = xs := by
  unfold fillG
  apply List.ext_getElem?
  intro i
  simp
theorem fillG_length (f : Nat → Int) (n : Nat) (xs : List Int) : (fillG f n xs).length = xs.length := by simp [fillG]
theorem fillG_set (f : Nat → Int) {n : Nat} {xs : List Int} : (fillG f n xs).set n (f n) = fillG f (n + 1) xs := by
  unfold fillG
  apply List.ext_getElem?
  intro i
  rw [List.getElem?_set, List.getElem?_mapIdx, List.getElem?_mapIdx, List.length_mapIdx]
  by_cases h : n = i
  · subst h
    rw [if_pos rfl]
    by_cases hl : n < xs.length
    · rw [if_pos hl, List.getElem?_eq_getElem hl]; simp
    · rw [if_neg hl, List.getElem?_eq_none (by omega)]; rfl
  · rw [if_neg h]
    by_cases hl : i < n
    · have : i < n + 1 := by omega
      simp [hl, this]
    · have : ¬ i < n + 1 := by omega
      simp [hl, this]
theorem fillG_getD {f : Nat → Int} {n : Nat} {xs : List Int} : fillG (fun i => xs.getD i 0) n xs = xs := by
  unfold fillG
  apply List.ext_getElem?
  intro i
  rw [List.getElem?_mapIdx]
  cases h : xs[i]? with
  | none => rfl
  | some x => simp [h]

/-- what is handed in, and three marks behind it -/
def marksG (n : Nat) : List Int := (List.range n).map fun (i : Nat) => markI 987 (i : Int)
def givenG (l : List Int) : List Int := l ++ (marksG (l.length + 3)).drop l.length
theorem marksG_length (n : Nat) : (marksG n).length = n := by simp [marksG]
theorem givenG_length (l : List Int) : (givenG l).length = l.length + 3 := by simp [givenG, marksG_length]
theorem givenG_take (l : List Int) : (givenG l).take l.length = l := by simp [givenG]
theorem fillG_marks (xs : List Int) : fillG (fun (i : Nat) => markI 987 (i : Int)) xs.length xs = marksG xs.length := by
  unfold fillG marksG
  apply List.ext_getElem?
  intro i
  rw [List.getElem?_mapIdx, List.getElem?_map]
  by_cases h : i < xs.length
  · rw [List.getElem?_eq_getElem h, List.getElem?_range h]; simp [h]
  · rw [List.getElem?_eq_none (by omega), List.getElem?_eq_none (by simp; omega)]; rfl
theorem fillG_given (l : List Int) : fillG (fun i => l.getD i 0) l.length (marksG (l.length + 3)) = givenG l := by
  unfold fillG givenG
  apply List.ext_getElem?
  intro i
  rw [List.getElem?_mapIdx, List.getElem?_append]
  by_cases h : i < l.length
  · rw [if_pos h, List.getElem?_eq_getElem (l := marksG (l.length + 3)) (by rw [marksG_length]; omega), List.getElem?_eq_getElem h]
    simp [h]
  · rw [if_neg h, List.getElem?_drop, show l.length + (i - l.length) = i by omega]
    cases (marksG (l.length + 3))[i]? with
    | none => rfl
    | some x => simp [h]

def overG (x y : List Int) : List Int := fillG (fun i => x.getD i 0) x.length y
theorem overG_length (x y : List Int) : (overG x y).length = y.length := fillG_length _ _ _
theorem overG_given (l : List Int) : overG l (marksG (l.length + 3)) = givenG l := fillG_given l

/-! what a copy comes to -/

theorem given_wrap {l : List Int} (h : l.length ≤ 1048576) : IntKind.i64.wrap (nI (rowLen 1 l) + 3) = ((l.length + 3 : Nat) : Int) := by
  show IntKind.i64.wrap (((l.length : Nat) : Int) + 3) = _
  rw [show ((l.length : Nat) : Int) + 3 = ((l.length + 3 : Nat) : Int) by omega]
  exact by_wrap (by omega)
theorem given_len {l : List Int} : (zerosOf (mulE (((l.length + 3 : Nat) : Int)).toNat 1)).length = l.length + 3 := by
  rw [Int.toNat_natCast, by_mulE, zerosOf, List.length_replicate]
theorem given_make {l : List Int} (h : l.length ≤ 1048576) : (decide (0 ≤ ((l.length + 3 : Nat) : Int)) && (decide (((l.length + 3 : Nat) : Int) ≤ ((l.length + 3 : Nat) : Int)) && (decide (((l.length + 3 : Nat) : Int) ≤ 281474976710656) && decide (((l.length + 3 : Nat) : Int) * 1 ≤ 281474976710656)))) = true := by
  rw [decide_eq_true (by omega), decide_eq_true (by omega), decide_eq_true (by omega), decide_eq_true (by omega)]; rfl
theorem given_lim {n : Nat} (h : n ≤ 1048579) : n.ble limG = true := Nat.ble_eq_true_of_le (by unfold limG; omega)
theorem given_hi (l : List Int) : hiOk (some (nI (rowLen 1 l))) (rowLen 1 (givenG l)) = true := by
  show (decide ((0 : Int) ≤ (l.length : Int)) && decide ((l.length : Int) ≤ (((givenG l).length : Nat) : Int))) = true
  rw [givenG_length, decide_eq_true (by omega), decide_eq_true (by omega)]; rfl
theorem given_sub (l : List Int) : Go.Eng.sub (givenG l) (plusO Off.z 1 none) (mulE (Go.Eng.subN (hiNat (some (nI (rowLen 1 l))) (rowLen 1 (givenG l))) none) 1) = l := givenG_take l
end Go.Eng

/- The document's block is the program's. -/
namespace Go.Proofs.Ytiaddnmloonhgaa
open Go Go.Eng
set_option maxRecDepth 100000

theorem bits32 : 2 ^ IntKind.u32.bits = 4294967296 := by decide
theorem bits64 : 2 ^ IntKind.u64.bits = 18446744073709551616 := by decide
theorem p24 : (2 : Nat) ^ 24 = 16777216 := by decide +kernel
theorem low_or {a b c d : Nat} (ha : a < 256) (hb : b < 256) (hc : c < 256) (hd : d < 256) : ((a ||| b * 256) ||| c * 65536) ||| d * 16777216 < 4294967296 := by
  have h : ∀ {x y : Nat}, x < 2 ^ 32 → y < 2 ^ 32 → x ||| y < 2 ^ 32 := fun hx hy => Nat.or_lt_two_pow hx hy
  exact h (h (h (by omega) (by omega)) (by omega)) (by omega)
theorem lowU_nat {a b c d : Nat} (ha : a < 256) (hb : b < 256) (hc : c < 256) (hd : d < 256) : lowU [(a : Int), (b : Int), (c : Int), (d : Int)] = ((((a ||| b * 256) ||| c * 65536) ||| d * 16777216 : Nat) : Int) := by
  have o1 : a ||| b * 256 < 2 ^ 32 := Nat.or_lt_two_pow (by omega) (by omega)
  have o2 : (a ||| b * 256) ||| c * 65536 < 2 ^ 32 := Nat.or_lt_two_pow o1 (by omega)
  show orI .u32 (orI .u32 (orI .u32 (IntKind.u32.wrap (a : Int)) (shlI .u32 (IntKind.u32.wrap (b : Int)) ((8 : Nat) : Int))) (shlI .u32 (IntKind.u32.wrap (c : Int)) ((16 : Nat) : Int))) (shlI .u32 (IntKind.u32.wrap (d : Int)) ((24 : Nat) : Int)) = _
  rw [w32 (n := a) (by omega), w32 (n := b) (by omega), w32 (n := c) (by omega), w32 (n := d) (by omega)]
  rw [shlN (k := .u32) rfl (m := 8) (by decide), shlN (k := .u32) rfl (m := 16) (by decide), shlN (k := .u32) rfl (m := 24) (by decide)]
  have e8 : b * 2 ^ 8 % 2 ^ IntKind.u32.bits = b * 256 := by rw [bits32]; omega
  have e16 : c * 2 ^ 16 % 2 ^ IntKind.u32.bits = c * 65536 := by rw [bits32]; omega
  have e24 : d * 2 ^ 24 % 2 ^ IntKind.u32.bits = d * 16777216 := by rw [bits32, p24]; exact Nat.mod_eq_of_lt (Nat.lt_of_lt_of_le (Nat.mul_lt_mul_of_pos_right hd (by decide +kernel)) (by decide +kernel))
  rw [e8, e16, e24]
  rw [orN (k := .u32) rfl (show _ < 2 ^ 32 by omega) (show _ < 2 ^ 32 by omega), orN (k := .u32) rfl (show _ < 2 ^ 32 from o1) (show _ < 2 ^ 32 by omega), orN (k := .u32) rfl (show _ < 2 ^ 32 from o2) (show _ < 2 ^ 32 by omega)]
theorem lowL_nat {a b c d : Nat} (ha : a < 256) (hb : b < 256) (hc : c < 256) (hd : d < 256) : lowL [(a : Int), (b : Int), (c : Int), (d : Int)] = ((((a ||| b * 256) ||| c * 65536) ||| d * 16777216 : Nat) : Int) := by
  have o1 : a ||| b * 256 < 2 ^ 64 := Nat.or_lt_two_pow (by omega) (by omega)
  have o2 : (a ||| b * 256) ||| c * 65536 < 2 ^ 64 := Nat.or_lt_two_pow o1 (by omega)
  show orI .u64 (orI .u64 (orI .u64 (orI .u64 ((0 : Nat) : Int) (shlI .u64 (IntKind.u64.wrap (a : Int)) ((0 : Nat) : Int))) (shlI .u64 (IntKind.u64.wrap (b : Int)) ((8 : Nat) : Int))) (shlI .u64 (IntKind.u64.wrap (c : Int)) ((16 : Nat) : Int))) (shlI .u64 (IntKind.u64.wrap (d : Int)) ((24 : Nat) : Int)) = _
  rw [w64 (n := a) (by omega), w64 (n := b) (by omega), w64 (n := c) (by omega), w64 (n := d) (by omega)]
  rw [shlN (k := .u64) rfl (m := 0) (by decide), shlN (k := .u64) rfl (m := 8) (by decide), shlN (k := .u64) rfl (m := 16) (by decide), shlN (k := .u64) rfl (m := 24) (by decide)]
  have e0 : a * 2 ^ 0 % 2 ^ IntKind.u64.bits = a := by show a * 1 % 18446744073709551616 = _; omega
  have e8 : b * 2 ^ 8 % 2 ^ IntKind.u64.bits = b * 256 := by rw [bits64]; omega
  have e16 : c * 2 ^ 16 % 2 ^ IntKind.u64.bits = c * 65536 := by rw [bits64]; omega
  have e24 : d * 2 ^ 24 % 2 ^ IntKind.u64.bits = d * 16777216 := by rw [bits64, p24]; exact Nat.mod_eq_of_lt (Nat.lt_of_lt_of_le (Nat.mul_lt_mul_of_pos_right hd (by decide +kernel)) (by decide +kernel))
  rw [e0, e8, e16, e24]
  rw [orN (k := .u64) rfl (show _ < 2 ^ 64 by omega) (show _ < 2 ^ 64 by omega), Nat.zero_or]
  rw [orN (k := .u64) rfl (show _ < 2 ^ 64 by omega) (show _ < 2 ^ 64 by omega), orN (k := .u64) rfl (show _ < 2 ^ 64 from o1) (show _ < 2 ^ 64 by omega), orN (k := .u64) rfl (show _ < 2 ^ 64 from o2) (show _ < 2 ^ 64 by omega)]
theorem low_eq {a b c d : Int} (ha : 0 ≤ a ∧ a < 256) (hb : 0 ≤ b ∧ b < 256) (hc : 0 ≤ c ∧ c < 256) (hd : 0 ≤ d ∧ d < 256) : IntKind.u32.wrap (lowL [a, b, c, d]) = lowU [a, b, c, d] := by
  obtain ⟨a, rfl⟩ : ∃ n : Nat, a = n := ⟨a.toNat, by omega⟩
  obtain ⟨b, rfl⟩ : ∃ n : Nat, b = n := ⟨b.toNat, by omega⟩
  obtain ⟨c, rfl⟩ : ∃ n : Nat, c = n := ⟨c.toNat, by omega⟩
  obtain ⟨d, rfl⟩ : ∃ n : Nat, d = n := ⟨d.toNat, by omega⟩
  rw [lowL_nat (by omega) (by omega) (by omega) (by omega), lowU_nat (by omega) (by omega) (by omega) (by omega), w32 (low_or (by omega) (by omega) (by omega) (by omega))]
theorem take4 {l : List Int} {i : Nat} (h : i + 4 ≤ l.length) : (l.drop i).take 4 = [l.getD i 0, l.getD (i + 1) 0, l.getD (i + 2) 0, l.getD (i + 3) 0] := by
  rw [by_drop (show i < l.length by omega), by_drop (show i + 1 < l.length by omega), by_drop (show i + 1 + 1 < l.length by omega), by_drop (show i + 1 + 1 + 1 < l.length by omega)]
  simp
theorem lowU_take {l : List Int} {m : Nat} (hm : 4 ≤ m) : lowU (l.take m) = lowU (l.take 4) := by
  have h : ∀ j : Nat, j < 4 → (l.take m).getD j 0 = (l.take 4).getD j 0 := fun j hj => by
    rw [List.getD_eq_getElem?_getD, List.getD_eq_getElem?_getD, List.getElem?_take, List.getElem?_take, if_pos (by omega), if_pos hj]
  unfold lowU
  rw [h 0 (by omega), h 1 (by omega), h 2 (by omega), h 3 (by omega)]
theorem bytes_get {l : List Int} (h : Bytes l) {i : Nat} (hi : i < l.length) : 0 ≤ l.getD i 0 ∧ l.getD i 0 < 256 := by
  rw [List.getD_eq_getElem?_getD, List.getElem?_eq_getElem hi]; exact h _ (List.getElem_mem hi)
theorem low_at {l : List Int} (h : Bytes l) {i : Nat} (hi : i + 4 ≤ l.length) : IntKind.u32.wrap (lowL ((l.drop i).take 4)) = lowU ((l.drop i).take 4) := by
  rw [take4 hi]
  exact low_eq (bytes_get h (by omega)) (bytes_get h (by omega)) (bytes_get h (by omega)) (bytes_get h (by omega))

/-! what the rounds begin with -/
def firstL (key : List Int) (ctr : Int) (nonce : List Int) : List Int :=
  (((([1634760805, 857760878, 2036477234, 1797285236] ++ (List.range 8).map fun i => lowU ((key.drop (4 * i)).take 4)) ++ [ctr]) ++ (List.range 3).map fun i => lowU ((nonce.drop (4 * i)).take 4)))
theorem startL_eq (key : List Int) (ctr : Int) (nonce : List Int) : startL key ctr nonce = ((([1634760805, 857760878, 2036477234, 1797285236] ++ (List.range 8).map fun i => IntKind.u32.wrap (lowL ((key.drop (4 * i)).take 4))) ++ [ctr]) ++ (List.range 3).map fun i => IntKind.u32.wrap (lowL ((nonce.drop (4 * i)).take 4))) := by kernel_rfl
theorem first_eq {key nonce : List Int} {ctr : Int} (hk : Bytes key) (hkl : key.length = 32) (hn : Bytes nonce) (hnl : nonce.length = 12) : firstL key ctr nonce = startL key ctr nonce := by
  rw [startL_eq]
  unfold firstL
  congr 1
  · congr 1
    congr 1
    apply List.map_congr_left
    intro i hi
    have := List.mem_range.1 hi
    exact (low_at hk (by omega)).symm
  · apply List.map_congr_left
    intro i hi
    have := List.mem_range.1 hi
    exact (low_at hn (by omega)).symm
theorem start_len (key : List Int) (ctr : Int) (nonce : List Int) : (startL key ctr nonce).length = 16 := by rw [startL_eq]; simp

/-! the loops -/
theorem one_set (v : Int) : (zerosOf (1 * 1)).set 0 v = [v] := rfl
theorem app_big {n : Nat} (h : n ≤ 64) : (((2 * n + 192) * 4).ble big48 && n.ble big48) = true := by
  rw [show ((2 * n + 192) * 4).ble big48 = true from Nat.ble_eq_true_of_le (by unfold big48; omega), show n.ble big48 = true from Nat.ble_eq_true_of_le (by unfold big48; omega)]; rfl
theorem sub_from (xs : List Int) (a h : Nat) : Go.Eng.sub xs (plusO .z 1 (some (a : Int))) (mulE (subN (hiNat none h) (some (a : Int))) 1) = (xs.drop a).take (h - a) := by
  simp [Go.Eng.sub, plusO, Off.plus, mulE, subN, hiNat]

theorem key_loop19 {R : Type} {N : Nat} (k1 : Bool → Int → Int → List Int → List Int → List Int → List Int → Option R) (x1 : Int) {key : List Int} (hk : key.length = 32) (x5 x6 : List Int) :
    ∀ (m i : Nat) (s : List Int), i + m = 8 → s.length = 4 + i → ∀ fuel, m < fuel → f19_0_lp N k1 fuel x1 (i : Int) s key x5 x6 = k1 false x1 8 (s ++ (List.range' i m).map fun i => lowU ((key.drop (4 * i)).take 4)) key x5 x6 := by
  intro m
  induction m with
  | zero =>
    intro i s h hs fuel hf
    obtain ⟨f, rfl⟩ : ∃ f, fuel = f + 1 := ⟨fuel - 1, by omega⟩
    have : i = 8 := by omega
    subst this
    simp only [List.range', List.map_nil, List.append_nil]
    rfl
  | succ m ih =>
    intro i s h hs fuel hf
    obtain ⟨f, rfl⟩ : ∃ f, fuel = f + 1 := ⟨fuel - 1, by omega⟩
    show f19_0_st N (f19_0_lp N k1 f) k1 _ _ _ _ _ _ = _
    unfold f19_0_st
    have h1 : IntKind.i64.wrap (4 * (i : Int)) = ((4 * i : Nat) : Int) := wrapI (by omega) (by omega)
    have h4 : IntKind.i64.wrap ((i : Int) + 1) = ((i + 1 : Nat) : Int) := wrapI (by omega) (by omega)
    rw [decide_eq_true (show (i : Int) < 8 by omega), cond_true]
    dsimp only
    rw [h1, h4, loOk_nat (by simp [hiInt]; omega), sub_from, one_set, cond_true]
    rw [show Nat.ble 4 ((key.drop (4 * i)).take (32 - 4 * i)).length = true from Nat.ble_eq_true_of_le (by rw [List.length_take, List.length_drop]; omega), cond_true]
    rw [show rowLen 1 s + rowLen 1 [lowU ((key.drop (4 * i)).take (32 - 4 * i))] = s.length + 1 from rfl, app_big (by omega), cond_true, lowU_take (by omega)]
    rw [ih (i + 1) _ (by omega) (by simp; omega) f (by omega)]
    simp [List.range'_succ]

theorem nonce_loop19 {R : Type} {N : Nat} (k1 : Bool → Int → List Int → List Int → List Int → Option R) {nonce : List Int} (hk : nonce.length = 12) (x4 : List Int) :
    ∀ (m i : Nat) (s : List Int), i + m = 3 → s.length = 13 + i → ∀ fuel, m < fuel → f19_2_lp N k1 fuel (i : Int) s nonce x4 = k1 false 3 (s ++ (List.range' i m).map fun i => lowU ((nonce.drop (4 * i)).take 4)) nonce x4 := by
  intro m
  induction m with
  | zero =>
    intro i s h hs fuel hf
    obtain ⟨f, rfl⟩ : ∃ f, fuel = f + 1 := ⟨fuel - 1, by omega⟩
    have : i = 3 := by omega
    subst this
    simp only [List.range', List.map_nil, List.append_nil]
    rfl
  | succ m ih =>
    intro i s h hs fuel hf
    obtain ⟨f, rfl⟩ : ∃ f, fuel = f + 1 := ⟨fuel - 1, by omega⟩
    show f19_2_st N (f19_2_lp N k1 f) k1 _ _ _ _ = _
    unfold f19_2_st
    have h1 : IntKind.i64.wrap (4 * (i : Int)) = ((4 * i : Nat) : Int) := wrapI (by omega) (by omega)
    have h4 : IntKind.i64.wrap ((i : Int) + 1) = ((i + 1 : Nat) : Int) := wrapI (by omega) (by omega)
    rw [decide_eq_true (show (i : Int) < 3 by omega), cond_true]
    dsimp only
    rw [h1, h4, loOk_nat (by simp [hiInt]; omega), sub_from, one_set, cond_true]
    rw [show Nat.ble 4 ((nonce.drop (4 * i)).take (12 - 4 * i)).length = true from Nat.ble_eq_true_of_le (by rw [List.length_take, List.length_drop]; omega), cond_true]
    rw [show rowLen 1 s + rowLen 1 [lowU ((nonce.drop (4 * i)).take (12 - 4 * i))] = s.length + 1 from rfl, app_big (by omega), cond_true, lowU_take (by omega)]
    rw [ih (i + 1) _ (by omega) (by simp; omega) f (by omega)]
    simp [List.range'_succ]

theorem quarterL_len (xs : List Int) (a b c d : Nat) : (quarterL xs a b c d).length = xs.length := by simp [quarterL]
theorem rounds_loop19 {R : Type} {N : Nat} (k1 : Bool → Int → List Int → List Int → List Int → Option R) (x2 x3 : List Int) :
    ∀ (m i : Nat) (s : List Int), i + m = 10 → s.length = 16 → ∀ fuel, m < fuel → f19_4_lp N k1 fuel (i : Int) x2 x3 s = k1 false 10 x2 x3 (roundsGo m s) := by
  intro m
  induction m with
  | zero =>
    intro i n h _ fuel hf
    obtain ⟨f, rfl⟩ : ∃ f, fuel = f + 1 := ⟨fuel - 1, by omega⟩
    have : i = 10 := by omega
    subst this
    rfl
  | succ m ih =>
    intro i n h hl fuel hf
    obtain ⟨f, rfl⟩ : ∃ f, fuel = f + 1 := ⟨fuel - 1, by omega⟩
    show f19_4_st N (f19_4_lp N k1 f) k1 _ _ _ n = _
    unfold f19_4_st
    have h4 : IntKind.i64.wrap ((i : Int) + 1) = ((i + 1 : Nat) : Int) := wrapI (by omega) (by omega)
    rw [decide_eq_true (show (i : Int) < 10 by omega), cond_true]
    simp only [quarterL_len, hl, h4]
    exact ih (i + 1) (diagonals (columns n)) (by omega) (by unfold diagonals columns; simp only [quarterL_len]; exact hl) f (by omega)
theorem rounds_len : ∀ (m : Nat) (s : List Int), (roundsGo m s).length = s.length
  | 0, _ => rfl
  | m + 1, s => by
    show (roundsGo m (diagonals (columns s))).length = _
    rw [rounds_len]; unfold diagonals columns; simp only [quarterL_len]

/-! what comes out -/
def outB (t s : List Int) (i : Nat) : Int := IntKind.u8.wrap (shrI .u32 (IntKind.u32.wrap (t.getD (i / 4) 0 + s.getD (i / 4) 0)) ((8 * (i % 4) : Nat) : Int))
theorem outL_raw (t s : List Int) : outL t s = (List.range 64).map fun i => IntKind.u8.wrap (shrI .u64 (IntKind.u64.wrap (IntKind.u32.wrap (t.getD (i / 4) 0 + s.getD (i / 4) 0))) ((8 * (i % 4) : Nat) : Int)) := by kernel_rfl
end Go.Proofs.Ytiaddnmloonhgaa

/- The document's block: its contract. -/
namespace Go.Proofs.Ytiaddnmloonhgaa
open Go Go.Eng
set_option maxRecDepth 100000

theorem wrapU32_rng (z : Int) : 0 ≤ IntKind.u32.wrap z ∧ IntKind.u32.wrap z < 4294967296 := by
  unfold IntKind.wrap
  simp only [IntKind.bits, IntKind.signed, Bool.false_and]
  have h1 : 0 ≤ z % 4294967296 := Int.emod_nonneg _ (by decide)
  have h2 : z % 4294967296 < 4294967296 := Int.emod_lt_of_pos _ (by decide)
  exact ⟨h1, h2⟩
theorem outB_eq (z : Int) {m : Nat} (hm : m ≤ 24) : IntKind.u8.wrap (shrI .u64 (IntKind.u64.wrap (IntKind.u32.wrap z)) (m : Int)) = IntKind.u8.wrap (shrI .u32 (IntKind.u32.wrap z) (m : Int)) := by
  obtain ⟨h1, h2⟩ := wrapU32_rng z
  obtain ⟨v, hv⟩ : ∃ v : Nat, IntKind.u32.wrap z = v := ⟨(IntKind.u32.wrap z).toNat, by omega⟩
  rw [hv] at h2 ⊢
  rw [w64 (n := v) (by omega), shrN (k := .u64) (m := m) (by show m ≤ 64; omega), shrN (k := .u32) (m := m) (by show m ≤ 32; omega)]
theorem outL_ref (t s : List Int) : outL t s = (List.range 64).map (outB t s) := by
  rw [outL_raw]
  apply List.map_congr_left
  intro i _
  exact outB_eq _ (by omega)
theorem fillG_all (f : Nat → Int) (xs : List Int) : fillG f xs.length xs = (List.range xs.length).map f := by
  unfold fillG
  apply List.ext_getElem?
  intro i
  rw [List.getElem?_mapIdx, List.getElem?_map]
  by_cases h : i < xs.length
  · rw [List.getElem?_eq_getElem h, List.getElem?_range h]; simp [h]
  · rw [List.getElem?_eq_none (by omega), List.getElem?_eq_none (by simp; omega)]; rfl

theorem out_loop19 {R : Type} {N : Nat} (k1 : Bool → Int → List Int → List Int → List Int → List Int → Option R) {t s : List Int} (ht : t.length = 16) (hs : s.length = 16) (x3 : List Int) :
    ∀ (m i : Nat), i + m = 64 → ∀ fuel, m < fuel → f19_6_lp N k1 fuel (i : Int) s x3 (fillG (outB t s) i (List.replicate 64 0)) t = k1 false 64 s x3 ((List.range 64).map (outB t s)) t := by
  intro m
  induction m with
  | zero =>
    intro i h fuel hf
    obtain ⟨f, rfl⟩ : ∃ f, fuel = f + 1 := ⟨fuel - 1, by omega⟩
    have : i = 64 := by omega
    subst this
    have e := fillG_all (outB t s) (List.replicate 64 0)
    rw [List.length_replicate] at e
    rw [e]
    rfl
  | succ m ih =>
    intro i h fuel hf
    obtain ⟨f, rfl⟩ : ∃ f, fuel = f + 1 := ⟨fuel - 1, by omega⟩
    show f19_6_st N (f19_6_lp N k1 f) k1 _ _ _ _ _ = _
    unfold f19_6_st
    have hi : i < 64 := by omega
    have q : i / 4 < 16 := by omega
    have e1 : IntKind.i64.wrap ((i : Int).tdiv 4) = ((i / 4 : Nat) : Int) := by
      rw [show (i : Int).tdiv 4 = ((i / 4 : Nat) : Int) from rfl]; exact wrapI rfl (by omega)
    have e2 : IntKind.i64.wrap (8 * (i : Int).tmod 4) = ((8 * (i % 4) : Nat) : Int) := by
      rw [show (i : Int).tmod 4 = ((i % 4 : Nat) : Int) from rfl]; exact wrapI (by omega) (by omega)
    have e3 : IntKind.u64.wrap ((8 * (i % 4) : Nat) : Int) = ((8 * (i % 4) : Nat) : Int) := w64 (by omega)
    have e4 : IntKind.i64.wrap ((i : Int) + 1) = ((i + 1 : Nat) : Int) := wrapI (by omega) (by omega)
    have l1 : nI (rowLen 1 t) = 16 := by show ((t.length : Nat) : Int) = 16; rw [ht]; rfl
    have l2 : nI (rowLen 1 s) = 16 := by show ((s.length : Nat) : Int) = 16; rw [hs]; rfl
    rw [decide_eq_true (show (i : Int) < 64 by omega), cond_true]
    dsimp only
    rw [e1, e2, e3, e4, l1, l2, decide_eq_true (show (0 : Int) ≤ ((i / 4 : Nat) : Int) by omega), decide_eq_true (show ((i / 4 : Nat) : Int) < 16 by omega), decide_eq_true (show (0 : Int) ≤ ((8 * (i % 4) : Nat) : Int) by omega), decide_eq_true (show (0 : Int) ≤ (i : Int) by omega)]
    simp only [Bool.and_self, cond_true, mulE_one, Int.toNat_natCast]
    rw [show (fillG (outB t s) i (List.replicate 64 0)).set i (IntKind.u8.wrap (shrI IntKind.u32 (IntKind.u32.wrap (t.getD (i / 4) 0 + s.getD (i / 4) 0)) ((8 * (i % 4) : Nat) : Int))) = fillG (outB t s) (i + 1) (List.replicate 64 0) from fillG_set (outB t s)]
    exact ih (i + 1) (by omega) f (by omega)

theorem f19_spec {R : Type} {key nonce : List Int} (ctr : Int) (hk : Bytes key) (hkl : key.length = 32) (hn : Bytes nonce) (hnl : nonce.length = 12) (k : List DV → Option R) : f19_raw 65 key ctr nonce k = k [.v (.one (.ints .u8 64 (blockL key ctr nonce)))] := by
  unfold f19_raw
  refine (key_loop19 (N := 65) _ ctr hkl nonce (List.replicate 64 0) 8 0 _ rfl rfl 65 (by omega)).trans ?_
  dsimp only
  rw [show ((((zerosOf (4 * 1)).set 0 1634760805).set 1 857760878).set 2 2036477234).set 3 1797285236 = [1634760805, 857760878, 2036477234, 1797285236] from rfl]
  rw [one_set, show rowLen 1 ([1634760805, 857760878, 2036477234, 1797285236] ++ (List.range' 0 8).map fun i => lowU ((key.drop (4 * i)).take 4)) + rowLen 1 [ctr] = 13 from by simp [rowLen_one], app_big (by omega), cond_true]
  refine (nonce_loop19 (N := 65) _ hnl (List.replicate 64 0) 3 0 _ rfl (by simp) 65 (by omega)).trans ?_
  have hf : (([1634760805, 857760878, 2036477234, 1797285236] ++ (List.range' 0 8).map fun i => lowU ((key.drop (4 * i)).take 4)) ++ [ctr]) ++ ((List.range' 0 3).map fun i => lowU ((nonce.drop (4 * i)).take 4)) = startL key ctr nonce := by
    rw [← first_eq hk hkl hn hnl]
    unfold firstL
    rw [List.range_eq_range', List.range_eq_range']
  rw [hf]
  have hs := start_len key ctr nonce
  generalize hS : startL key ctr nonce = S at hs
  have h0 : splice (zerosOf (mulE (Int.toNat 16) 1)) Off.z (List.take (mulE (min (rowLen 1 S) (rowLen 1 (zerosOf (mulE (Int.toNat 16) 1)))) 1) S) = S := by
    have e : List.take (mulE (min (rowLen 1 S) (rowLen 1 (zerosOf (mulE (Int.toNat 16) 1)))) 1) S = S := by
      show List.take (min S.length 16) S = S
      rw [hs]; exact List.take_of_length_le (by omega)
    rw [e]
    show S ++ (zerosOf 16).drop S.length = S
    rw [hs]; exact List.append_nil S
  rw [h0]
  refine (rounds_loop19 (N := 65) _ _ _ 10 0 S rfl hs 65 (by omega)).trans ?_
  have := out_loop19 (N := 65) (fun w11_1 w11_2 w11_3 w11_4 w11_5 w11_6 => k [DV.v (SV.one (At.ints IntKind.u8 64 w11_5))]) (t := roundsGo 10 S) (s := S) (by rw [rounds_len]; exact hs) hs (List.replicate 64 0) 64 0 (by omega) 65 (by omega)
  rw [fillG_zero] at this
  refine this.trans ?_
  unfold blockL
  rw [hS, outL_ref]

def okN (n : Nat) (x : List Int) : Bool := Nat.beq x.length n && x.all fun b => decide (0 ≤ b) && decide (b < 256)
theorem okN_of {n : Nat} {x : List Int} (h : okN n x = true) : x.length = n ∧ Bytes x := by
  unfold okN at h
  rw [Bool.and_eq_true, List.all_eq_true] at h
  refine ⟨Nat.eq_of_beq_eq_true h.1, fun b hb => ?_⟩
  have := h.2 b hb
  rw [Bool.and_eq_true] at this
  exact ⟨of_decide_eq_true this.1, of_decide_eq_true this.2⟩
theorem okN_mk {n : Nat} {x : List Int} (hl : x.length = n) (h : Bytes x) : okN n x = true := by
  unfold okN
  rw [hl, show Nat.beq n n = true from Nat.beq_refl n, Bool.true_and, List.all_eq_true]
  intro b hb
  rw [Bool.and_eq_true]
  exact ⟨decide_eq_true (h b hb).1, decide_eq_true (h b hb).2⟩
def I19 : (R : Type) → List DV → (List DV → Option R) → Option R := fun _ ds k => match ds with
  | [.v (.one (.ints .u8 32 key)), .v (.one (.int .u32 ctr)), .v (.one (.ints .u8 12 nonce))] => cond (okN 32 key && okN 12 nonce) (k [.v (.one (.ints .u8 64 (blockL key ctr nonce)))]) none
  | _ => none
theorem c19 : Contract Try.prog 19 { sig := S19, impl := I19 } := by
  refine Contract.refine fun R ds k r h => ⟨_, f19_contract 65 Q19_ok, ?_⟩
  unfold I19 at h
  split at h
  · rename_i key ctr nonce
    cases hc : okN 32 key && okN 12 nonce with
    | true =>
      rw [hc] at h
      rw [Bool.and_eq_true] at hc
      obtain ⟨a1, a2⟩ := okN_of hc.1
      obtain ⟨b1, b2⟩ := okN_of hc.2
      rw [f19_raw_eq, f19_spec ctr a2 a1 b2 b1]; exact h
    | false => rw [hc] at h; cases h
  · cases h
def Q17 : Ctx := (19, { sig := S19, impl := I19 }) :: []
theorem Q17_ok : CtxOk Try.prog Q17 := ctxOk_cons ok19 rfl c19 ctxOk_nil
end Go.Proofs.Ytiaddnmloonhgaa

/- What the rows of further laws need. -/
namespace Go.Proofs.Ytiaddnmloonhgaa
open Go Go.Eng Go.ChangeShapes Go.WideShapes Go.RowKit
set_option maxRecDepth 100000
theorem okN_row {n : Nat} {x : List Int} (hl : x.length = n) (hw : ∀ y ∈ x, (Lit.int .u8 y).wf = true) : okN n x = true := okN_mk hl fun b hb => wf_u8 (hw b hb)
theorem u32_row {x : Int} (hw : (Lit.int .u32 x).wf = true) : 0 ≤ x ∧ x < 4294967296 := by
  have := bounds_u32 hw; omega
end Go.Proofs.Ytiaddnmloonhgaa

/- What rime/rimeref12.prime comes to. MADE BY PROGRAM (wip/tools/mkfn.py, EngGen.lean). -/
namespace Go.Proofs.Ytiaddnmloonhgaa
open Go Go.Eng
set_option maxRecDepth 100000
set_option linter.unusedVariables false

noncomputable def f119_raw {R : Type} (N : Nat)  (k : List DV → Option R) : Option R :=
 let v0 : List Int := (List.replicate 5 0).set 0 4294967291;
let v1 : List Int := v0.set 1 4294967295;
let v2 : List Int := v1.set 2 4294967295;
let v3 : List Int := v2.set 3 4294967295;
let v4 : List Int := v3.set 4 3;
k [DV.v (SV.one (At.ints IntKind.u32 5 v4))]


noncomputable def E119 (N : Nat) : Env := { Θ := Th, Γ := [], K := K119, ν := N119, fuel := 60, lp := [] }


theorem f119_contract (N : Nat) (hΓ : CtxOk Try.prog []) : Contract Try.prog 119 { sig := S119, impl := fun _ ds k => call (E119 N) S119 2 B119 R119 ds k } :=
  call_contract (E := E119 N) thOk hΓ mixed ok119.look ok119.body ok119.n ok119.rv ok119.name rfl (by decide) (loopsOk_of (l := []) (by kernel_rfl) trivial)
theorem f119_raw_eq {R : Type} (N : Nat)  (k : List DV → Option R) : call (E119 N) S119 2 B119 R119 [] k = f119_raw N  k := by kernel_rfl
end Go.Proofs.Ytiaddnmloonhgaa

/- What rime/rimeref12.below comes to. MADE BY PROGRAM (wip/tools/mkfn.py, EngGen.lean). -/
namespace Go.Proofs.Ytiaddnmloonhgaa
open Go Go.Eng
set_option maxRecDepth 100000
set_option linter.unusedVariables false

def f120_0_sh : Shp := { n := 24, lo := 2, slots := [(2, .one (.fix (At.ptr 2 0 Off.z 5))), (3, .one (.fix (At.ptr 3 0 Off.z 5))), (5, .one (.int IntKind.i64))], items := [(2, .obj [.ints IntKind.u32 5]), (3, .obj [.ints IntKind.u32 5])] }
def f120_0_ex1 : Shp := { n := 24, lo := 2, slots := [(4, .one (.bool)), (16, .one (.bool)), (7, .one (.bool)), (2, .one (.fix (At.ptr 2 0 Off.z 5))), (3, .one (.fix (At.ptr 3 0 Off.z 5))), (5, .one (.int IntKind.i64))], items := [(2, .obj [.ints IntKind.u32 5]), (3, .obj [.ints IntKind.u32 5])] }
def f120_0_ex2 : Shp := { n := 24, lo := 2, slots := [(7, .one (.bool)), (2, .one (.fix (At.ptr 2 0 Off.z 5))), (3, .one (.fix (At.ptr 3 0 Off.z 5))), (5, .one (.int IntKind.i64))], items := [(2, .obj [.ints IntKind.u32 5]), (3, .obj [.ints IntKind.u32 5])] }
noncomputable def f120_0_st {R : Type} (N : Nat) (self : Int → List Int → List Int → Option R) (k1 : Bool → Bool → Bool → Int → List Int → List Int → Option R) (k2 : Bool → Int → List Int → List Int → Option R) (x1 : Int) (x2 : List Int) (x3 : List Int) : Option R :=
 bif Decidable.decide (x1 ≥ 0) then
 bif Decidable.decide (0 ≤ x1) && Decidable.decide (x1 < 5) then
 bif Decidable.decide (0 ≤ x1) && Decidable.decide (x1 < 5) then
 bif x2.getD (mulE x1.toNat 1) 0 != x3.getD (mulE x1.toNat 1) 0 then bif Decidable.decide (0 ≤ x1) && Decidable.decide (x1 < 5) then bif Decidable.decide (0 ≤ x1) && Decidable.decide (x1 < 5) then k1 (Decidable.decide (x2.getD (mulE x1.toNat 1) 0 < x3.getD (mulE x1.toNat 1) 0)) (x2.getD (mulE x1.toNat 1) 0 != x3.getD (mulE x1.toNat 1) 0) (Decidable.decide (x1 ≥ 0)) x1 x2 x3 else Option.none else Option.none
 else
 let v0 : Int := IntKind.i64.wrap (x1 - 1);
 self v0 x2 x3
 else Option.none
 else Option.none
else k2 (Decidable.decide (x1 ≥ 0)) x1 x2 x3
noncomputable def f120_0_lp {R : Type} (N : Nat) (k1 : Bool → Bool → Bool → Int → List Int → List Int → Option R) (k2 : Bool → Int → List Int → List Int → Option R) : Nat → Int → List Int → List Int → Option R
 | 0, _, _, _ => none
 | n + 1, x1, x2, x3 => f120_0_st N (f120_0_lp N k1 k2 n) k1 k2 x1 x2 x3
noncomputable def f120_0_F (N : Nat) : (R : Type) → List Leaf → (X → AS → Option R) → Option R := fun _ ls K => match ls with
 | [.i x1, .l x2, .l x3] => f120_0_lp N (fun y1 y2 y3 y4 y5 y6 => K (X.ret) (fill f120_0_ex1 [.b y1, .b y2, .b y3, .i y4, .l y5, .l y6])) (fun y1 y2 y3 y4 => K (X.normal) (fill f120_0_ex2 [.b y1, .i y2, .l y3, .l y4])) N x1 x2 x3
 | _ => none
noncomputable def f120_raw {R : Type} (N : Nat) (a : List Int) (b : List Int) (k : List DV → Option R) : Option R :=
 f120_0_lp N (fun w0_1 w0_2 w0_3 w0_4 w0_5 w0_6 => k [DV.v (SV.one (At.bool w0_1))]) (fun w1_1 w1_2 w1_3 w1_4 => k [DV.v (SV.one (At.bool Bool.false))]) N 4 a b


noncomputable def E120 (N : Nat) : Env := { Θ := Th, Γ := [], K := K120, ν := N120, fuel := 0, lp := [(0, mkL N120_0 f120_0_sh (f120_0_F N))] }

theorem f120_0_st_eq {R : Type} (N : Nat) (K : X → AS → Option R) (n : Nat) (x1 : Int) (x2 : List Int) (x3 : List Int) : roundsOf (E120 N) N120_0 0 B120_0 K (n + 1) (fill f120_0_sh [.i x1, .l x2, .l x3]) = f120_0_st N (fun x1 x2 x3 => roundsOf (E120 N) N120_0 0 B120_0 K n (fill f120_0_sh [.i x1, .l x2, .l x3])) (fun y1 y2 y3 y4 y5 y6 => K (X.ret) (fill f120_0_ex1 [.b y1, .b y2, .b y3, .i y4, .l y5, .l y6])) (fun y1 y2 y3 y4 => K (X.normal) (fill f120_0_ex2 [.b y1, .i y2, .l y3, .l y4])) x1 x2 x3 := by kernel_rfl
theorem f120_0_lp_eq {R : Type} (N : Nat) (K : X → AS → Option R) : ∀ (n : Nat) (x1 : Int) (x2 : List Int) (x3 : List Int), roundsOf (E120 N) N120_0 0 B120_0 K n (fill f120_0_sh [.i x1, .l x2, .l x3]) = f120_0_lp N (fun y1 y2 y3 y4 y5 y6 => K (X.ret) (fill f120_0_ex1 [.b y1, .b y2, .b y3, .i y4, .l y5, .l y6])) (fun y1 y2 y3 y4 => K (X.normal) (fill f120_0_ex2 [.b y1, .i y2, .l y3, .l y4])) n x1 x2 x3
  | 0, _, _, _ => rfl
  | n + 1, x1, x2, x3 => by
    rw [f120_0_st_eq, f120_0_lp, show (fun x1 x2 x3 => roundsOf (E120 N) N120_0 0 B120_0 K n (fill f120_0_sh [.i x1, .l x2, .l x3])) = f120_0_lp N (fun y1 y2 y3 y4 y5 y6 => K (X.ret) (fill f120_0_ex1 [.b y1, .b y2, .b y3, .i y4, .l y5, .l y6])) (fun y1 y2 y3 y4 => K (X.normal) (fill f120_0_ex2 [.b y1, .i y2, .l y3, .l y4])) n from by funext x1 x2 x3; exact f120_0_lp_eq N K n x1 x2 x3]
theorem f120_0_ok (N : Nat) (hlp : LoopsOk Try.prog (E120 N).lp B120_0) (hΓ : CtxOk Try.prog (E120 N).Γ) : LoopOk Try.prog (mkL N120_0 f120_0_sh (f120_0_F N)) 0 B120_0 := by
  refine loopOk_of (E := E120 N) thOk hΓ mixed hlp ?_
  intro R ls K r h
  unfold f120_0_F at h
  split at h
  · exact ⟨N, by rw [f120_0_lp_eq]; exact h⟩
  · cases h

theorem lok120_0 (N : Nat) (hΓ : CtxOk Try.prog []) : LoopOk Try.prog (mkL N120_0 f120_0_sh (f120_0_F N)) 0 B120_0 := f120_0_ok N (loopsOk_of (l := []) (by kernel_rfl) trivial) hΓ
theorem f120_contract (N : Nat) (hΓ : CtxOk Try.prog []) : Contract Try.prog 120 { sig := S120, impl := fun _ ds k => call (E120 N) S120 24 B120 R120 ds k } :=
  call_contract (E := E120 N) thOk hΓ mixed ok120.look ok120.body ok120.n ok120.rv ok120.name rfl (by decide) (loopsOk_of (l := [(0, B120_0)]) (by kernel_rfl) (allOk_cons (L := mkL N120_0 f120_0_sh (f120_0_F N)) rfl (lok120_0 N hΓ) trivial))
theorem f120_raw_eq {R : Type} (N : Nat) (a : List Int) (b : List Int) (k : List DV → Option R) : call (E120 N) S120 24 B120 R120 [.v (.one (.ints .u32 5 a)), .v (.one (.ints .u32 5 b))] k = f120_raw N a b k := by kernel_rfl
end Go.Proofs.Ytiaddnmloonhgaa

/- What rime/rimeref12.minus comes to. MADE BY PROGRAM (wip/tools/mkfn.py, EngGen.lean). -/
namespace Go.Proofs.Ytiaddnmloonhgaa
open Go Go.Eng
set_option maxRecDepth 100000
set_option linter.unusedVariables false

def f121_0_sh : Shp := { n := 30, lo := 2, slots := [(2, .one (.fix (At.ptr 2 0 Off.z 5))), (3, .one (.fix (At.ptr 3 0 Off.z 5))), (4, .one (.fix (At.ptr 4 0 Off.z 5))), (5, .one (.int IntKind.u64)), (6, .one (.int IntKind.i64))], items := [(2, .obj [.ints IntKind.u32 5]), (3, .obj [.ints IntKind.u32 5]), (4, .obj [.ints IntKind.u32 5])] }
def f121_0_ex1 : Shp := { n := 30, lo := 2, slots := [(9, .one (.bool)), (2, .one (.fix (At.ptr 2 0 Off.z 5))), (3, .one (.fix (At.ptr 3 0 Off.z 5))), (4, .one (.fix (At.ptr 4 0 Off.z 5))), (5, .one (.int IntKind.u64)), (6, .one (.int IntKind.i64))], items := [(2, .obj [.ints IntKind.u32 5]), (3, .obj [.ints IntKind.u32 5]), (4, .obj [.ints IntKind.u32 5])] }
noncomputable def f121_0_st {R : Type} (N : Nat) (self : Int → Int → List Int → List Int → List Int → Option R) (k1 : Bool → Int → Int → List Int → List Int → List Int → Option R) (x1 : Int) (x2 : Int) (x3 : List Int) (x4 : List Int) (x5 : List Int) : Option R :=
 bif Decidable.decide (x2 < 5) then
 bif Decidable.decide (0 ≤ x2) && Decidable.decide (x2 < 5) then
 bif Decidable.decide (0 ≤ x2) && Decidable.decide (x2 < 5) then
 bif Decidable.decide (0 ≤ x2) && Decidable.decide (x2 < 5) then
 let v0 : Int := IntKind.u64.wrap (x3.getD (mulE x2.toNat 1) 0);
 let v1 : Int := IntKind.u64.wrap (x4.getD (mulE x2.toNat 1) 0);
 let v2 : Int := IntKind.u64.wrap (v0 - v1);
 let v3 : Int := IntKind.u64.wrap (v2 - x1);
 let v4 : Int := shrI IntKind.u64 v3 63;
 let v5 : Int := IntKind.i64.wrap (x2 + 1);
 let v6 : Int := IntKind.u32.wrap v3;
 let v7 : List Int := x3.set (mulE x2.toNat 1) v6;
 self v4 v5 v7 x4 x5
 else Option.none
 else Option.none
 else Option.none
else k1 (Decidable.decide (x2 < 5)) x1 x2 x3 x4 x5
noncomputable def f121_0_lp {R : Type} (N : Nat) (k1 : Bool → Int → Int → List Int → List Int → List Int → Option R) : Nat → Int → Int → List Int → List Int → List Int → Option R
 | 0, _, _, _, _, _ => none
 | n + 1, x1, x2, x3, x4, x5 => f121_0_st N (f121_0_lp N k1 n) k1 x1 x2 x3 x4 x5
noncomputable def f121_0_F (N : Nat) : (R : Type) → List Leaf → (X → AS → Option R) → Option R := fun _ ls K => match ls with
 | [.i x1, .i x2, .l x3, .l x4, .l x5] => f121_0_lp N (fun y1 y2 y3 y4 y5 y6 => K (X.normal) (fill f121_0_ex1 [.b y1, .i y2, .i y3, .l y4, .l y5, .l y6])) N x1 x2 x3 x4 x5
 | _ => none
noncomputable def f121_raw {R : Type} (N : Nat) (a : List Int) (b : List Int) (k : List DV → Option R) : Option R :=
 f121_0_lp N (fun w0_1 w0_2 w0_3 w0_4 w0_5 w0_6 => k [DV.v (SV.one (At.ints IntKind.u32 5 w0_4))]) N 0 0 a b (List.replicate 5 0)


noncomputable def E121 (N : Nat) : Env := { Θ := Th, Γ := [], K := K121, ν := N121, fuel := 0, lp := [(0, mkL N121_0 f121_0_sh (f121_0_F N))] }

theorem f121_0_st_eq {R : Type} (N : Nat) (K : X → AS → Option R) (n : Nat) (x1 : Int) (x2 : Int) (x3 : List Int) (x4 : List Int) (x5 : List Int) : roundsOf (E121 N) N121_0 0 B121_0 K (n + 1) (fill f121_0_sh [.i x1, .i x2, .l x3, .l x4, .l x5]) = f121_0_st N (fun x1 x2 x3 x4 x5 => roundsOf (E121 N) N121_0 0 B121_0 K n (fill f121_0_sh [.i x1, .i x2, .l x3, .l x4, .l x5])) (fun y1 y2 y3 y4 y5 y6 => K (X.normal) (fill f121_0_ex1 [.b y1, .i y2, .i y3, .l y4, .l y5, .l y6])) x1 x2 x3 x4 x5 := by kernel_rfl
theorem f121_0_lp_eq {R : Type} (N : Nat) (K : X → AS → Option R) : ∀ (n : Nat) (x1 : Int) (x2 : Int) (x3 : List Int) (x4 : List Int) (x5 : List Int), roundsOf (E121 N) N121_0 0 B121_0 K n (fill f121_0_sh [.i x1, .i x2, .l x3, .l x4, .l x5]) = f121_0_lp N (fun y1 y2 y3 y4 y5 y6 => K (X.normal) (fill f121_0_ex1 [.b y1, .i y2, .i y3, .l y4, .l y5, .l y6])) n x1 x2 x3 x4 x5
  | 0, _, _, _, _, _ => rfl
  | n + 1, x1, x2, x3, x4, x5 => by
    rw [f121_0_st_eq, f121_0_lp, show (fun x1 x2 x3 x4 x5 => roundsOf (E121 N) N121_0 0 B121_0 K n (fill f121_0_sh [.i x1, .i x2, .l x3, .l x4, .l x5])) = f121_0_lp N (fun y1 y2 y3 y4 y5 y6 => K (X.normal) (fill f121_0_ex1 [.b y1, .i y2, .i y3, .l y4, .l y5, .l y6])) n from by funext x1 x2 x3 x4 x5; exact f121_0_lp_eq N K n x1 x2 x3 x4 x5]
theorem f121_0_ok (N : Nat) (hlp : LoopsOk Try.prog (E121 N).lp B121_0) (hΓ : CtxOk Try.prog (E121 N).Γ) : LoopOk Try.prog (mkL N121_0 f121_0_sh (f121_0_F N)) 0 B121_0 := by
  refine loopOk_of (E := E121 N) thOk hΓ mixed hlp ?_
  intro R ls K r h
  unfold f121_0_F at h
  split at h
  · exact ⟨N, by rw [f121_0_lp_eq]; exact h⟩
  · cases h

theorem lok121_0 (N : Nat) (hΓ : CtxOk Try.prog []) : LoopOk Try.prog (mkL N121_0 f121_0_sh (f121_0_F N)) 0 B121_0 := f121_0_ok N (loopsOk_of (l := []) (by kernel_rfl) trivial) hΓ
theorem f121_contract (N : Nat) (hΓ : CtxOk Try.prog []) : Contract Try.prog 121 { sig := S121, impl := fun _ ds k => call (E121 N) S121 30 B121 R121 ds k } :=
  call_contract (E := E121 N) thOk hΓ mixed ok121.look ok121.body ok121.n ok121.rv ok121.name rfl (by decide) (loopsOk_of (l := [(0, B121_0)]) (by kernel_rfl) (allOk_cons (L := mkL N121_0 f121_0_sh (f121_0_F N)) rfl (lok121_0 N hΓ) trivial))
theorem f121_raw_eq {R : Type} (N : Nat) (a : List Int) (b : List Int) (k : List DV → Option R) : call (E121 N) S121 30 B121 R121 [.v (.one (.ints .u32 5 a)), .v (.one (.ints .u32 5 b))] k = f121_raw N a b k := by kernel_rfl
end Go.Proofs.Ytiaddnmloonhgaa

/- What rime/rimeref12.plus comes to. MADE BY PROGRAM (wip/tools/mkfn.py, EngGen.lean). -/
namespace Go.Proofs.Ytiaddnmloonhgaa
open Go Go.Eng
set_option maxRecDepth 100000
set_option linter.unusedVariables false

def f66_0_sh : Shp := { n := 29, lo := 2, slots := [(2, .one (.fix (At.ptr 2 0 Off.z 5))), (3, .one (.fix (At.ptr 3 0 Off.z 5))), (4, .one (.fix (At.ptr 4 0 Off.z 5))), (5, .one (.int IntKind.u64)), (6, .one (.int IntKind.i64))], items := [(2, .obj [.ints IntKind.u32 5]), (3, .obj [.ints IntKind.u32 5]), (4, .obj [.ints IntKind.u32 5])] }
def f66_0_ex1 : Shp := { n := 29, lo := 2, slots := [(8, .one (.bool)), (2, .one (.fix (At.ptr 2 0 Off.z 5))), (3, .one (.fix (At.ptr 3 0 Off.z 5))), (4, .one (.fix (At.ptr 4 0 Off.z 5))), (5, .one (.int IntKind.u64)), (6, .one (.int IntKind.i64))], items := [(2, .obj [.ints IntKind.u32 5]), (3, .obj [.ints IntKind.u32 5]), (4, .obj [.ints IntKind.u32 5])] }
noncomputable def f66_0_st {R : Type} (N : Nat) (self : Int → Int → List Int → List Int → List Int → Option R) (k1 : Bool → Int → Int → List Int → List Int → List Int → Option R) (x1 : Int) (x2 : Int) (x3 : List Int) (x4 : List Int) (x5 : List Int) : Option R :=
 bif Decidable.decide (x2 < 5) then
 bif Decidable.decide (0 ≤ x2) && Decidable.decide (x2 < 5) then
 bif Decidable.decide (0 ≤ x2) && Decidable.decide (x2 < 5) then
 bif Decidable.decide (0 ≤ x2) && Decidable.decide (x2 < 5) then
 let v0 : Int := IntKind.u64.wrap (x3.getD (mulE x2.toNat 1) 0);
 let v1 : Int := IntKind.u64.wrap (x1 + v0);
 let v2 : Int := IntKind.u64.wrap (x4.getD (mulE x2.toNat 1) 0);
 let v3 : Int := IntKind.u64.wrap (v1 + v2);
 let v4 : Int := shrI IntKind.u64 v3 32;
 let v5 : Int := IntKind.i64.wrap (x2 + 1);
 let v6 : Int := IntKind.u32.wrap v3;
 let v7 : List Int := x3.set (mulE x2.toNat 1) v6;
 self v4 v5 v7 x4 x5
 else Option.none
 else Option.none
 else Option.none
else k1 (Decidable.decide (x2 < 5)) x1 x2 x3 x4 x5
noncomputable def f66_0_lp {R : Type} (N : Nat) (k1 : Bool → Int → Int → List Int → List Int → List Int → Option R) : Nat → Int → Int → List Int → List Int → List Int → Option R
 | 0, _, _, _, _, _ => none
 | n + 1, x1, x2, x3, x4, x5 => f66_0_st N (f66_0_lp N k1 n) k1 x1 x2 x3 x4 x5
noncomputable def f66_0_F (N : Nat) : (R : Type) → List Leaf → (X → AS → Option R) → Option R := fun _ ls K => match ls with
 | [.i x1, .i x2, .l x3, .l x4, .l x5] => f66_0_lp N (fun y1 y2 y3 y4 y5 y6 => K (X.normal) (fill f66_0_ex1 [.b y1, .i y2, .i y3, .l y4, .l y5, .l y6])) N x1 x2 x3 x4 x5
 | _ => none
noncomputable def f66_raw {R : Type} (N : Nat) (a : List Int) (b : List Int) (k : List DV → Option R) : Option R :=
 f66_0_lp N (fun w0_1 w0_2 w0_3 w0_4 w0_5 w0_6 => k [DV.v (SV.one (At.ints IntKind.u32 5 w0_4))]) N 0 0 a b (List.replicate 5 0)


noncomputable def E66 (N : Nat) : Env := { Θ := Th, Γ := [], K := K66, ν := N66, fuel := 0, lp := [(0, mkL N66_0 f66_0_sh (f66_0_F N))] }

theorem f66_0_st_eq {R : Type} (N : Nat) (K : X → AS → Option R) (n : Nat) (x1 : Int) (x2 : Int) (x3 : List Int) (x4 : List Int) (x5 : List Int) : roundsOf (E66 N) N66_0 0 B66_0 K (n + 1) (fill f66_0_sh [.i x1, .i x2, .l x3, .l x4, .l x5]) = f66_0_st N (fun x1 x2 x3 x4 x5 => roundsOf (E66 N) N66_0 0 B66_0 K n (fill f66_0_sh [.i x1, .i x2, .l x3, .l x4, .l x5])) (fun y1 y2 y3 y4 y5 y6 => K (X.normal) (fill f66_0_ex1 [.b y1, .i y2, .i y3, .l y4, .l y5, .l y6])) x1 x2 x3 x4 x5 := by kernel_rfl
theorem f66_0_lp_eq {R : Type} (N : Nat) (K : X → AS → Option R) : ∀ (n : Nat) (x1 : Int) (x2 : Int) (x3 : List Int) (x4 : List Int) (x5 : List Int), roundsOf (E66 N) N66_0 0 B66_0 K n (fill f66_0_sh [.i x1, .i x2, .l x3, .l x4, .l x5]) = f66_0_lp N (fun y1 y2 y3 y4 y5 y6 => K (X.normal) (fill f66_0_ex1 [.b y1, .i y2, .i y3, .l y4, .l y5, .l y6])) n x1 x2 x3 x4 x5
  | 0, _, _, _, _, _ => rfl
  | n + 1, x1, x2, x3, x4, x5 => by
    rw [f66_0_st_eq, f66_0_lp, show (fun x1 x2 x3 x4 x5 => roundsOf (E66 N) N66_0 0 B66_0 K n (fill f66_0_sh [.i x1, .i x2, .l x3, .l x4, .l x5])) = f66_0_lp N (fun y1 y2 y3 y4 y5 y6 => K (X.normal) (fill f66_0_ex1 [.b y1, .i y2, .i y3, .l y4, .l y5, .l y6])) n from by funext x1 x2 x3 x4 x5; exact f66_0_lp_eq N K n x1 x2 x3 x4 x5]
theorem f66_0_ok (N : Nat) (hlp : LoopsOk Try.prog (E66 N).lp B66_0) (hΓ : CtxOk Try.prog (E66 N).Γ) : LoopOk Try.prog (mkL N66_0 f66_0_sh (f66_0_F N)) 0 B66_0 := by
  refine loopOk_of (E := E66 N) thOk hΓ mixed hlp ?_
  intro R ls K r h
  unfold f66_0_F at h
  split at h
  · exact ⟨N, by rw [f66_0_lp_eq]; exact h⟩
  · cases h

theorem lok66_0 (N : Nat) (hΓ : CtxOk Try.prog []) : LoopOk Try.prog (mkL N66_0 f66_0_sh (f66_0_F N)) 0 B66_0 := f66_0_ok N (loopsOk_of (l := []) (by kernel_rfl) trivial) hΓ
theorem f66_contract (N : Nat) (hΓ : CtxOk Try.prog []) : Contract Try.prog 66 { sig := S66, impl := fun _ ds k => call (E66 N) S66 29 B66 R66 ds k } :=
  call_contract (E := E66 N) thOk hΓ mixed ok66.look ok66.body ok66.n ok66.rv ok66.name rfl (by decide) (loopsOk_of (l := [(0, B66_0)]) (by kernel_rfl) (allOk_cons (L := mkL N66_0 f66_0_sh (f66_0_F N)) rfl (lok66_0 N hΓ) trivial))
theorem f66_raw_eq {R : Type} (N : Nat) (a : List Int) (b : List Int) (k : List DV → Option R) : call (E66 N) S66 29 B66 R66 [.v (.one (.ints .u32 5 a)), .v (.one (.ints .u32 5 b))] k = f66_raw N a b k := by kernel_rfl
end Go.Proofs.Ytiaddnmloonhgaa

/- What rime/rimeref12.number comes to. MADE BY PROGRAM (wip/tools/mkfn.py, EngGen.lean). -/
namespace Go.Proofs.Ytiaddnmloonhgaa
open Go Go.Eng
set_option maxRecDepth 100000
set_option linter.unusedVariables false

def f64_0_sh : Shp := { n := 30, lo := 1, slots := [(0, .one (.fix (At.own 0))), (2, .one (.fix (At.ptr 2 0 Off.z 5))), (3, .one (.fix (At.ptr 3 0 Off.z 5))), (4, .one (.int IntKind.i64))], items := [(0, .view (.one IntKind.u8) 1), (2, .obj [.ints IntKind.u32 5]), (3, .obj [.ints IntKind.u32 5])] }
def f64_0_ex1 : Shp := { n := 30, lo := 1, slots := [(8, .one (.bool)), (0, .one (.fix (At.own 0))), (2, .one (.fix (At.ptr 2 0 Off.z 5))), (3, .one (.fix (At.ptr 3 0 Off.z 5))), (4, .one (.int IntKind.i64))], items := [(0, .view (.one IntKind.u8) 1), (2, .obj [.ints IntKind.u32 5]), (3, .obj [.ints IntKind.u32 5])] }
noncomputable def f64_0_st {R : Type} (N : Nat) (self : Int → List Int → List Int → List Int → Option R) (k1 : Bool → Int → List Int → List Int → List Int → Option R) (x1 : Int) (x2 : List Int) (x3 : List Int) (x4 : List Int) : Option R :=
 bif Decidable.decide (x1 < nI (rowLen 1 x2)) then
 let v0 : Int := IntKind.i64.wrap (x1.tdiv 4);
 bif Decidable.decide (0 ≤ v0) && Decidable.decide (v0 < 5) then
 bif Decidable.decide (0 ≤ x1) && Decidable.decide (x1 < nI (rowLen 1 x2)) then
 let v1 : Int := IntKind.i64.wrap (8 * x1.tmod 4);
 let v2 : Int := IntKind.u64.wrap v1;
 bif Decidable.decide (0 ≤ v2) then
 bif Decidable.decide (0 ≤ v0) && Decidable.decide (v0 < 5) then
 let v3 : Int := IntKind.i64.wrap (x1 + 1);
 let v4 : Int := IntKind.u32.wrap (x2.getD (mulE x1.toNat 1) 0);
 let v5 : Int := shlI IntKind.u32 v4 v2;
 let v6 : Int := orI IntKind.u32 (x4.getD (mulE v0.toNat 1) 0) v5;
 let v7 : List Int := x4.set (mulE v0.toNat 1) v6;
 self v3 x2 x3 v7
 else Option.none
 else Option.none
 else Option.none
 else Option.none
else k1 (Decidable.decide (x1 < nI (rowLen 1 x2))) x1 x2 x3 x4
noncomputable def f64_0_lp {R : Type} (N : Nat) (k1 : Bool → Int → List Int → List Int → List Int → Option R) : Nat → Int → List Int → List Int → List Int → Option R
 | 0, _, _, _, _ => none
 | n + 1, x1, x2, x3, x4 => f64_0_st N (f64_0_lp N k1 n) k1 x1 x2 x3 x4
noncomputable def f64_0_F (N : Nat) : (R : Type) → List Leaf → (X → AS → Option R) → Option R := fun _ ls K => match ls with
 | [.i x1, .l x2, .l x3, .l x4] => f64_0_lp N (fun y1 y2 y3 y4 y5 => K (X.normal) (fill f64_0_ex1 [.b y1, .i y2, .l y3, .l y4, .l y5])) N x1 x2 x3 x4
 | _ => none
noncomputable def f64_raw {R : Type} (N : Nat) (b : List Int) (k : List DV → Option R) : Option R :=
 f64_0_lp N (fun w0_1 w0_2 w0_3 w0_4 w0_5 => k [DV.v (SV.one (At.ints IntKind.u32 5 w0_5))]) N 0 b (List.replicate 5 0) (List.replicate 5 0)


noncomputable def E64 (N : Nat) : Env := { Θ := Th, Γ := [], K := K64, ν := N64, fuel := 0, lp := [(0, mkL N64_0 f64_0_sh (f64_0_F N))] }

theorem f64_0_st_eq {R : Type} (N : Nat) (K : X → AS → Option R) (n : Nat) (x1 : Int) (x2 : List Int) (x3 : List Int) (x4 : List Int) : roundsOf (E64 N) N64_0 0 B64_0 K (n + 1) (fill f64_0_sh [.i x1, .l x2, .l x3, .l x4]) = f64_0_st N (fun x1 x2 x3 x4 => roundsOf (E64 N) N64_0 0 B64_0 K n (fill f64_0_sh [.i x1, .l x2, .l x3, .l x4])) (fun y1 y2 y3 y4 y5 => K (X.normal) (fill f64_0_ex1 [.b y1, .i y2, .l y3, .l y4, .l y5])) x1 x2 x3 x4 := by kernel_rfl
theorem f64_0_lp_eq {R : Type} (N : Nat) (K : X → AS → Option R) : ∀ (n : Nat) (x1 : Int) (x2 : List Int) (x3 : List Int) (x4 : List Int), roundsOf (E64 N) N64_0 0 B64_0 K n (fill f64_0_sh [.i x1, .l x2, .l x3, .l x4]) = f64_0_lp N (fun y1 y2 y3 y4 y5 => K (X.normal) (fill f64_0_ex1 [.b y1, .i y2, .l y3, .l y4, .l y5])) n x1 x2 x3 x4
  | 0, _, _, _, _ => rfl
  | n + 1, x1, x2, x3, x4 => by
    rw [f64_0_st_eq, f64_0_lp, show (fun x1 x2 x3 x4 => roundsOf (E64 N) N64_0 0 B64_0 K n (fill f64_0_sh [.i x1, .l x2, .l x3, .l x4])) = f64_0_lp N (fun y1 y2 y3 y4 y5 => K (X.normal) (fill f64_0_ex1 [.b y1, .i y2, .l y3, .l y4, .l y5])) n from by funext x1 x2 x3 x4; exact f64_0_lp_eq N K n x1 x2 x3 x4]
theorem f64_0_ok (N : Nat) (hlp : LoopsOk Try.prog (E64 N).lp B64_0) (hΓ : CtxOk Try.prog (E64 N).Γ) : LoopOk Try.prog (mkL N64_0 f64_0_sh (f64_0_F N)) 0 B64_0 := by
  refine loopOk_of (E := E64 N) thOk hΓ mixed hlp ?_
  intro R ls K r h
  unfold f64_0_F at h
  split at h
  · exact ⟨N, by rw [f64_0_lp_eq]; exact h⟩
  · cases h

theorem lok64_0 (N : Nat) (hΓ : CtxOk Try.prog []) : LoopOk Try.prog (mkL N64_0 f64_0_sh (f64_0_F N)) 0 B64_0 := f64_0_ok N (loopsOk_of (l := []) (by kernel_rfl) trivial) hΓ
theorem f64_contract (N : Nat) (hΓ : CtxOk Try.prog []) : Contract Try.prog 64 { sig := S64, impl := fun _ ds k => call (E64 N) S64 30 B64 R64 ds k } :=
  call_contract (E := E64 N) thOk hΓ mixed ok64.look ok64.body ok64.n ok64.rv ok64.name rfl (by decide) (loopsOk_of (l := [(0, B64_0)]) (by kernel_rfl) (allOk_cons (L := mkL N64_0 f64_0_sh (f64_0_F N)) rfl (lok64_0 N hΓ) trivial))
theorem f64_raw_eq {R : Type} (N : Nat) (b : List Int) (k : List DV → Option R) : call (E64 N) S64 30 B64 R64 [.lst (.one .u8) 1 b] k = f64_raw N b k := by kernel_rfl
end Go.Proofs.Ytiaddnmloonhgaa

/- Blocks and streams: lengths, bytes, how streams go on. -/
namespace Go.Proofs.Ytiaddnmloonhgaa
open Go Go.Eng
set_option maxRecDepth 100000

theorem wrapU8_byte (n : Int) : 0 ≤ IntKind.u8.wrap n ∧ IntKind.u8.wrap n < 256 := by
  unfold IntKind.wrap
  simp only [IntKind.bits, IntKind.signed]
  have h1 := Int.emod_nonneg n (show (2 : Int) ^ 8 ≠ 0 by decide)
  have h2 := Int.emod_lt_of_pos n (show (0 : Int) < 2 ^ 8 by decide)
  simp only [Bool.false_and, Bool.false_eq_true, if_false]
  omega

theorem wrapU32_range (n : Int) : 0 ≤ IntKind.u32.wrap n ∧ IntKind.u32.wrap n < 4294967296 := by
  unfold IntKind.wrap
  simp only [IntKind.bits, IntKind.signed]
  have h1 := Int.emod_nonneg n (show (2 : Int) ^ 32 ≠ 0 by decide)
  have h2 := Int.emod_lt_of_pos n (show (0 : Int) < 2 ^ 32 by decide)
  simp only [Bool.false_and, Bool.false_eq_true, if_false]
  omega

def outF (t s : List Int) : List Int := ((List.range 16).map fun i => bytesL (IntKind.u64.wrap (IntKind.u32.wrap (t.getD i 0 + s.getD i 0))) 4).flatten

theorem outL_eq (t s : List Int) : outL t s = outF t s := by kernel_rfl

theorem bytesGo_bytes (n : Int) : ∀ (m i : Nat), Bytes (bytesGo n m i)
  | 0, _ => by intro x hx; cases hx
  | m + 1, i => by
    intro x hx
    rcases List.mem_cons.1 hx with e | hx
    · subst e; exact wrapU8_byte _
    · exact bytesGo_bytes n m (i + 1) x hx

theorem blockL_length (key : List Int) (c : Int) (nonce : List Int) : (blockL key c nonce).length = 64 := by
  unfold blockL; rw [outL_eq]; kernel_rfl

theorem block_bytes (key : List Int) (c : Int) (nonce : List Int) : Bytes (blockL key c nonce) := by
  unfold blockL; rw [outL_eq]
  intro x hx
  simp only [outF, List.mem_flatten, List.mem_map] at hx
  obtain ⟨l, ⟨i, _, rfl⟩, hx⟩ := hx
  exact bytesGo_bytes _ _ _ x hx

theorem bytes_getD {l : List Int} (h : Bytes l) (i : Nat) : 0 ≤ l.getD i 0 ∧ l.getD i 0 < 256 := by
  rw [List.getD_eq_getElem?_getD]
  cases hx : l[i]? with
  | none => simp
  | some x => exact h x (List.mem_of_getElem? hx)

theorem maskAt_byte (key : List Int) (c : Nat) (nonce : List Int) (i : Nat) : 0 ≤ maskAt key c nonce i ∧ maskAt key c nonce i < 256 := bytes_getD (block_bytes _ _ _) _

theorem maskL_append (f : Nat → Int) (a b : List Int) : maskL f (a ++ b) = maskL f a ++ maskL (fun i => f (a.length + i)) b := by
  unfold maskL
  rw [List.mapIdx_append]
  congr 1
  apply List.ext_getElem?
  intro i
  simp [Nat.add_comm]

theorem maskAt_add (key : List Int) (c q : Nat) (nonce : List Int) (i : Nat) : maskAt key c nonce (64 * q + i) = maskAt key (c + q) nonce i := by
  unfold maskAt
  rw [show c + (64 * q + i) / 64 = c + q + i / 64 by omega, show (64 * q + i) % 64 = i % 64 by omega]

theorem stream_append (key : List Int) (c q : Nat) (nonce a b : List Int) (h : a.length = 64 * q) : streamL key c nonce (a ++ b) = streamL key c nonce a ++ streamL key (c + q) nonce b := by
  unfold streamL
  have e : (fun i => maskAt key c nonce (a.length + i)) = maskAt key (c + q) nonce := funext fun i => by rw [h, maskAt_add]
  rw [maskL_append, e]

theorem xor8_zero {y : Int} (h0 : 0 ≤ y) (h : y < 256) : xorI .u8 0 y = y := by
  rw [xor8_eq]
  rw [show BitVec.ofInt 8 0 = 0#8 from rfl, BitVec.zero_xor, BitVec.toNat_ofInt]
  omega

theorem mask_of {f : Nat → Int} {l : List Int} (hl : l.length = 64) (hb : Bytes l) (h : ∀ i, i < 64 → f i = l.getD i 0) : maskL f (List.replicate 64 0) = l := by
  apply List.ext_getElem?
  intro i
  unfold maskL
  rw [List.getElem?_mapIdx, List.getElem?_replicate]
  by_cases hi : i < 64
  · rw [if_pos hi, List.getElem?_eq_getElem (by omega)]
    simp only [Option.map_some]
    obtain ⟨m1, m2⟩ := bytes_getD hb i
    rw [h i hi, xor8_zero m1 m2, List.getD_eq_getElem?_getD, List.getElem?_eq_getElem (by omega), Option.getD_some]
  · rw [if_neg hi, List.getElem?_eq_none (by omega), Option.map_none]

theorem stream_zeros (key : List Int) (c : Nat) (nonce : List Int) : streamL key c nonce (List.replicate 64 0) = blockL key c nonce := by
  unfold streamL
  refine mask_of (blockL_length _ _ _) (block_bytes _ _ _) fun i hi => ?_
  unfold maskAt
  rw [show c + i / 64 = c by omega, show i % 64 = i by omega]

/-- a mask lets by no more than itself -/
theorem andI_le {k : IntKind} {m : Nat} (hm : (m : Int) < 2 ^ (k.bits - 1)) (x : Int) : ∃ n : Nat, andI k x m = (n : Int) ∧ n ≤ m := by
  refine ⟨(BitVec.ofInt k.bits x &&& BitVec.ofInt k.bits (m : Int)).toNat, ?_, ?_⟩
  · have h1 : (BitVec.ofInt k.bits x &&& BitVec.ofInt k.bits (m : Int)).toNat ≤ (BitVec.ofInt k.bits (m : Int)).toNat := by rw [BitVec.toNat_and]; exact Nat.and_le_right
    have h2 : (BitVec.ofInt k.bits (m : Int)).toNat ≤ m := by
      rw [BitVec.ofInt_natCast, BitVec.toNat_ofNat]; exact Nat.mod_le _ _
    unfold andI
    generalize (BitVec.ofInt k.bits x &&& BitVec.ofInt k.bits (m : Int)).toNat = z at h1 ⊢
    have hz : (z : Int) < 2 ^ (k.bits - 1) := by omega
    cases k <;> simp [IntKind.wrap, IntKind.bits, IntKind.signed] at hz ⊢ <;> omega
  · rw [BitVec.toNat_and]
    refine Nat.le_trans Nat.and_le_right ?_
    rw [BitVec.ofInt_natCast, BitVec.toNat_ofNat]; exact Nat.mod_le _ _
end Go.Proofs.Ytiaddnmloonhgaa

/- The digits of a tag. -/
namespace Go.Proofs.Ytiaddnmloonhgaa
open Go Go.Eng
set_option maxRecDepth 100000

def bitsGo (w : List Int) (base : Nat) : Nat → Nat → Int → Int
  | 0, _, x => x
  | m + 1, j, x => bitsGo w base m (j + 1) (orI .u64 x (shlI .u64 (andI .u64 (shrI .u64 (w.getD ((base + j) / 26) 0) (((base + j) % 26 : Nat) : Int)) 1) (j : Int)))

def digGo (key w : List Int) : Nat → Nat → Int → List Int
  | 0, _, _ => []
  | m + 1, i, c =>
    let v := IntKind.u64.wrap (c + IntKind.u64.wrap (bitsGo w (8 * i) 8 0 0 + IntKind.u64.wrap (key.getD (16 + i) 0)))
    IntKind.u8.wrap v :: digGo key w m (i + 1) (shrI .u64 v 8)

theorem digL_eq (key b' w : List Int) : digL key b' w = digGo key w 16 0 0 := by kernel_rfl

theorem digGo_bytes (key w : List Int) : ∀ (m i : Nat) (c : Int), Bytes (digGo key w m i c)
  | 0, _, _ => by intro x hx; cases hx
  | m + 1, i, c => by
    intro x hx
    rcases List.mem_cons.1 hx with e | hx
    · subst e; exact wrapU8_byte _
    · exact digGo_bytes key w m (i + 1) _ x hx

theorem mac_bytes (key b : List Int) : Bytes (macL key b) := by
  unfold macL; rw [digL_eq]; exact digGo_bytes _ _ _ _ _

theorem tag_bytes (key nonce a b : List Int) : Bytes (tagL key nonce a b) := mac_bytes _ _
end Go.Proofs.Ytiaddnmloonhgaa

/- Limbs as natural numbers: carrying, the product modulo 2^130 - 5. -/
namespace Go.Proofs.Ytiaddnmloonhgaa
open Go Go.Eng
set_option maxRecDepth 100000

/-! ### carrying -/

def carI (a0 a1 a2 a3 a4 : Int) : List Int :=
  let s0 := IntKind.u64.wrap (a0 + 0)
  let s1 := IntKind.u64.wrap (a1 + shrI .u64 s0 26)
  let s2 := IntKind.u64.wrap (a2 + shrI .u64 s1 26)
  let s3 := IntKind.u64.wrap (a3 + shrI .u64 s2 26)
  let s4 := IntKind.u64.wrap (a4 + shrI .u64 s3 26)
  [IntKind.u64.wrap (andI .u64 s0 67108863 + IntKind.u64.wrap (5 * shrI .u64 s4 26)), andI .u64 s1 67108863, andI .u64 s2 67108863, andI .u64 s3 67108863, andI .u64 s4 67108863]

theorem carried_eq (a0 a1 a2 a3 a4 : Int) : carriedL [a0, a1, a2, a3, a4] = carI a0 a1 a2 a3 a4 := by kernel_rfl

def carC (a0 a1 a2 a3 a4 : Nat) : Nat := (a4 + (a3 + (a2 + (a1 + a0 / 67108864) / 67108864) / 67108864) / 67108864) / 67108864

def carN (a0 a1 a2 a3 a4 : Nat) : List Nat :=
  [a0 % 67108864 + 5 * carC a0 a1 a2 a3 a4, (a1 + a0 / 67108864) % 67108864, (a2 + (a1 + a0 / 67108864) / 67108864) % 67108864,
    (a3 + (a2 + (a1 + a0 / 67108864) / 67108864) / 67108864) % 67108864, (a4 + (a3 + (a2 + (a1 + a0 / 67108864) / 67108864) / 67108864) / 67108864) % 67108864]

theorem shr26 (n : Nat) : shrI .u64 (n : Int) 26 = ((n / 67108864 : Nat) : Int) := shrN (k := .u64) (m := 26) (by decide) n
theorem and26 {n : Nat} (h : n < 18446744073709551616) : andI .u64 (n : Int) 67108863 = ((n % 67108864 : Nat) : Int) := maskN (k := .u64) (j := 26) rfl h (by decide)

theorem car_nat {a0 a1 a2 a3 a4 : Nat} (h0 : a0 < 4611686018427387904) (h1 : a1 < 4611686018427387904) (h2 : a2 < 4611686018427387904) (h3 : a3 < 4611686018427387904) (h4 : a4 < 4611686018427387904) :
    carriedL [(a0 : Int), (a1 : Int), (a2 : Int), (a3 : Int), (a4 : Int)] = nats (carN a0 a1 a2 a3 a4) := by
  rw [carried_eq]
  unfold carI
  have e0 : IntKind.u64.wrap ((a0 : Int) + 0) = (a0 : Int) := by rw [Int.add_zero]; exact w64 (by omega)
  dsimp only
  simp only [e0, shr26]
  have e1 : IntKind.u64.wrap ((a1 : Int) + ((a0 / 67108864 : Nat) : Int)) = ((a1 + a0 / 67108864 : Nat) : Int) := w64 (n := a1 + a0 / 67108864) (by omega)
  simp only [e1, shr26]
  generalize hs1 : a1 + a0 / 67108864 = s1
  have e2 : IntKind.u64.wrap ((a2 : Int) + ((s1 / 67108864 : Nat) : Int)) = ((a2 + s1 / 67108864 : Nat) : Int) := w64 (n := a2 + s1 / 67108864) (by omega)
  simp only [e2, shr26]
  generalize hs2 : a2 + s1 / 67108864 = s2
  have e3 : IntKind.u64.wrap ((a3 : Int) + ((s2 / 67108864 : Nat) : Int)) = ((a3 + s2 / 67108864 : Nat) : Int) := w64 (n := a3 + s2 / 67108864) (by omega)
  simp only [e3, shr26]
  generalize hs3 : a3 + s2 / 67108864 = s3
  have e4 : IntKind.u64.wrap ((a4 : Int) + ((s3 / 67108864 : Nat) : Int)) = ((a4 + s3 / 67108864 : Nat) : Int) := w64 (n := a4 + s3 / 67108864) (by omega)
  simp only [e4, shr26]
  generalize hs4 : a4 + s3 / 67108864 = s4
  have e5 : IntKind.u64.wrap (5 * ((s4 / 67108864 : Nat) : Int)) = ((5 * (s4 / 67108864) : Nat) : Int) := w64 (n := 5 * (s4 / 67108864)) (by omega)
  rw [e5, and26 (by omega), and26 (by omega), and26 (by omega), and26 (by omega), and26 (by omega)]
  have e6 : IntKind.u64.wrap (((a0 % 67108864 : Nat) : Int) + ((5 * (s4 / 67108864) : Nat) : Int)) = ((a0 % 67108864 + 5 * (s4 / 67108864) : Nat) : Int) := w64 (n := a0 % 67108864 + 5 * (s4 / 67108864)) (by omega)
  rw [e6]
  unfold carN carC
  rw [hs1, hs2, hs3, hs4]
  rfl

/-- the number of five limbs -/
def val5 (a0 a1 a2 a3 a4 : Nat) : Nat := a0 + 67108864 * (a1 + 67108864 * (a2 + 67108864 * (a3 + 67108864 * a4)))

def p1305 : Nat := 1361129467683753853853498429727072845819

theorem val5_eq (a0 a1 a2 a3 a4 : Nat) : valB 67108864 [a0, a1, a2, a3, a4] = val5 a0 a1 a2 a3 a4 := by simp [valB, val5]

theorem car_val (a0 a1 a2 a3 a4 : Nat) : valB 67108864 (carN a0 a1 a2 a3 a4) + carC a0 a1 a2 a3 a4 * p1305 = val5 a0 a1 a2 a3 a4 := by
  unfold carN carC p1305
  generalize hs1 : a1 + a0 / 67108864 = s1
  generalize hs2 : a2 + s1 / 67108864 = s2
  generalize hs3 : a3 + s2 / 67108864 = s3
  generalize hs4 : a4 + s3 / 67108864 = s4
  rw [val5_eq]
  unfold val5
  omega

/-! ### the product -/

def adI (x y : Int) : Int := IntKind.u64.wrap (x + y)
def muI (x y : Int) : Int := IntKind.u64.wrap (x * y)
def fvI (x y : Int) : Int := IntKind.u64.wrap (IntKind.u64.wrap (5 * x) * y)

def tmI (a0 a1 a2 a3 a4 b0 b1 b2 b3 b4 : Int) : List Int := [(adI (adI (adI (adI (adI 0 (muI a0 b0)) (fvI a1 b4)) (fvI a2 b3)) (fvI a3 b2)) (fvI a4 b1)), (adI (adI (adI (adI (adI 0 (muI a0 b1)) (muI a1 b0)) (fvI a2 b4)) (fvI a3 b3)) (fvI a4 b2)), (adI (adI (adI (adI (adI 0 (muI a0 b2)) (muI a1 b1)) (muI a2 b0)) (fvI a3 b4)) (fvI a4 b3)), (adI (adI (adI (adI (adI 0 (muI a0 b3)) (muI a1 b2)) (muI a2 b1)) (muI a3 b0)) (fvI a4 b4)), (adI (adI (adI (adI (adI 0 (muI a0 b4)) (muI a1 b3)) (muI a2 b2)) (muI a3 b1)) (muI a4 b0))]

theorem times_eq (a0 a1 a2 a3 a4 b0 b1 b2 b3 b4 : Int) : timesL [a0, a1, a2, a3, a4] [b0, b1, b2, b3, b4] = carriedL (carriedL (tmI a0 a1 a2 a3 a4 b0 b1 b2 b3 b4)) := by kernel_rfl

def tm0 (a0 a1 a2 a3 a4 b0 b1 b2 b3 b4 : Nat) : Nat := a0 * b0 + 5 * (a1 * b4) + 5 * (a2 * b3) + 5 * (a3 * b2) + 5 * (a4 * b1)
def tm1 (a0 a1 a2 a3 a4 b0 b1 b2 b3 b4 : Nat) : Nat := a0 * b1 + a1 * b0 + 5 * (a2 * b4) + 5 * (a3 * b3) + 5 * (a4 * b2)
def tm2 (a0 a1 a2 a3 a4 b0 b1 b2 b3 b4 : Nat) : Nat := a0 * b2 + a1 * b1 + a2 * b0 + 5 * (a3 * b4) + 5 * (a4 * b3)
def tm3 (a0 a1 a2 a3 a4 b0 b1 b2 b3 b4 : Nat) : Nat := a0 * b3 + a1 * b2 + a2 * b1 + a3 * b0 + 5 * (a4 * b4)
def tm4 (a0 a1 a2 a3 a4 b0 b1 b2 b3 b4 : Nat) : Nat := a0 * b4 + a1 * b3 + a2 * b2 + a3 * b1 + a4 * b0

theorem muN {x y : Nat} (hx : x ≤ 268435456) (hy : y ≤ 134217728) : muI (x : Int) (y : Int) = ((x * y : Nat) : Int) ∧ x * y ≤ 36028797018963968 := by
  have h : x * y ≤ 268435456 * 134217728 := Nat.mul_le_mul hx hy
  exact ⟨w64 (n := x * y) (by omega), by omega⟩
theorem fvN {x y : Nat} (hx : x ≤ 268435456) (hy : y ≤ 134217728) : fvI (x : Int) (y : Int) = ((5 * (x * y) : Nat) : Int) := by
  have h : x * y ≤ 268435456 * 134217728 := Nat.mul_le_mul hx hy
  have e : IntKind.u64.wrap (5 * (x : Int)) = ((5 * x : Nat) : Int) := w64 (n := 5 * x) (by omega)
  unfold fvI
  rw [e, ← Nat.mul_assoc]
  exact w64 (n := 5 * x * y) (by rw [Nat.mul_assoc]; omega)
theorem adN {x y : Nat} (h : x + y < 18446744073709551616) : adI (x : Int) (y : Int) = ((x + y : Nat) : Int) := w64 (n := x + y) h

/-- limbs that may be multiplied -/
def Lim (b : Nat) (a0 a1 a2 a3 a4 : Nat) : Prop := a0 ≤ b ∧ a1 ≤ b ∧ a2 ≤ b ∧ a3 ≤ b ∧ a4 ≤ b

theorem tm_nat {a0 a1 a2 a3 a4 b0 b1 b2 b3 b4 : Nat} (ha : Lim 268435456 a0 a1 a2 a3 a4) (hb : Lim 134217728 b0 b1 b2 b3 b4) :
    tmI (a0 : Int) (a1 : Int) (a2 : Int) (a3 : Int) (a4 : Int) (b0 : Int) (b1 : Int) (b2 : Int) (b3 : Int) (b4 : Int) = [((tm0 a0 a1 a2 a3 a4 b0 b1 b2 b3 b4 : Nat) : Int), ((tm1 a0 a1 a2 a3 a4 b0 b1 b2 b3 b4 : Nat) : Int), ((tm2 a0 a1 a2 a3 a4 b0 b1 b2 b3 b4 : Nat) : Int), ((tm3 a0 a1 a2 a3 a4 b0 b1 b2 b3 b4 : Nat) : Int), ((tm4 a0 a1 a2 a3 a4 b0 b1 b2 b3 b4 : Nat) : Int)] ∧ tm0 a0 a1 a2 a3 a4 b0 b1 b2 b3 b4 < 4611686018427387904 ∧ tm1 a0 a1 a2 a3 a4 b0 b1 b2 b3 b4 < 4611686018427387904 ∧ tm2 a0 a1 a2 a3 a4 b0 b1 b2 b3 b4 < 4611686018427387904 ∧ tm3 a0 a1 a2 a3 a4 b0 b1 b2 b3 b4 < 4611686018427387904 ∧ tm4 a0 a1 a2 a3 a4 b0 b1 b2 b3 b4 < 4611686018427387904 := by
  obtain ⟨h0, h1, h2, h3, h4⟩ := ha
  obtain ⟨k0, k1, k2, k3, k4⟩ := hb
  obtain ⟨m00, q00⟩ := muN h0 k0
  obtain ⟨m01, q01⟩ := muN h0 k1
  obtain ⟨m02, q02⟩ := muN h0 k2
  obtain ⟨m03, q03⟩ := muN h0 k3
  obtain ⟨m04, q04⟩ := muN h0 k4
  obtain ⟨m10, q10⟩ := muN h1 k0
  obtain ⟨m11, q11⟩ := muN h1 k1
  obtain ⟨m12, q12⟩ := muN h1 k2
  obtain ⟨m13, q13⟩ := muN h1 k3
  obtain ⟨m14, q14⟩ := muN h1 k4
  have f14 := fvN h1 k4
  obtain ⟨m20, q20⟩ := muN h2 k0
  obtain ⟨m21, q21⟩ := muN h2 k1
  obtain ⟨m22, q22⟩ := muN h2 k2
  obtain ⟨m23, q23⟩ := muN h2 k3
  have f23 := fvN h2 k3
  obtain ⟨m24, q24⟩ := muN h2 k4
  have f24 := fvN h2 k4
  obtain ⟨m30, q30⟩ := muN h3 k0
  obtain ⟨m31, q31⟩ := muN h3 k1
  obtain ⟨m32, q32⟩ := muN h3 k2
  have f32 := fvN h3 k2
  obtain ⟨m33, q33⟩ := muN h3 k3
  have f33 := fvN h3 k3
  obtain ⟨m34, q34⟩ := muN h3 k4
  have f34 := fvN h3 k4
  obtain ⟨m40, q40⟩ := muN h4 k0
  obtain ⟨m41, q41⟩ := muN h4 k1
  have f41 := fvN h4 k1
  obtain ⟨m42, q42⟩ := muN h4 k2
  have f42 := fvN h4 k2
  obtain ⟨m43, q43⟩ := muN h4 k3
  have f43 := fvN h4 k3
  obtain ⟨m44, q44⟩ := muN h4 k4
  have f44 := fvN h4 k4
  unfold tmI tm0 tm1 tm2 tm3 tm4
  simp only [m00, m01, m02, m03, m04, m10, m11, m12, m13, m20, m21, m22, m30, m31, m40, f14, f23, f24, f32, f33, f34, f41, f42, f43, f44]
  clear m00 m01 m02 m03 m04 m10 m11 m12 m13 m14 m20 m21 m22 m23 m24 m30 m31 m32 m33 m34 m40 m41 m42 m43 m44 f14 f23 f24 f32 f33 f34 f41 f42 f43 f44
  generalize a0 * b0 = P00 at *
  generalize a0 * b1 = P01 at *
  generalize a0 * b2 = P02 at *
  generalize a0 * b3 = P03 at *
  generalize a0 * b4 = P04 at *
  generalize a1 * b0 = P10 at *
  generalize a1 * b1 = P11 at *
  generalize a1 * b2 = P12 at *
  generalize a1 * b3 = P13 at *
  generalize a1 * b4 = P14 at *
  generalize a2 * b0 = P20 at *
  generalize a2 * b1 = P21 at *
  generalize a2 * b2 = P22 at *
  generalize a2 * b3 = P23 at *
  generalize a2 * b4 = P24 at *
  generalize a3 * b0 = P30 at *
  generalize a3 * b1 = P31 at *
  generalize a3 * b2 = P32 at *
  generalize a3 * b3 = P33 at *
  generalize a3 * b4 = P34 at *
  generalize a4 * b0 = P40 at *
  generalize a4 * b1 = P41 at *
  generalize a4 * b2 = P42 at *
  generalize a4 * b3 = P43 at *
  generalize a4 * b4 = P44 at *
  have z : ∀ n : Nat, n < 18446744073709551616 → adI 0 (n : Int) = (n : Int) := fun n h => by unfold adI; rw [Int.zero_add]; exact w64 h
  refine ⟨?_, by omega, by omega, by omega, by omega, by omega⟩
  rw [z (P00) (by omega), adN (x := P00) (y := 5 * P14) (by omega), adN (x := P00 + 5 * P14) (y := 5 * P23) (by omega), adN (x := P00 + 5 * P14 + 5 * P23) (y := 5 * P32) (by omega), adN (x := P00 + 5 * P14 + 5 * P23 + 5 * P32) (y := 5 * P41) (by omega)]
  rw [z (P01) (by omega), adN (x := P01) (y := P10) (by omega), adN (x := P01 + P10) (y := 5 * P24) (by omega), adN (x := P01 + P10 + 5 * P24) (y := 5 * P33) (by omega), adN (x := P01 + P10 + 5 * P24 + 5 * P33) (y := 5 * P42) (by omega)]
  rw [z (P02) (by omega), adN (x := P02) (y := P11) (by omega), adN (x := P02 + P11) (y := P20) (by omega), adN (x := P02 + P11 + P20) (y := 5 * P34) (by omega), adN (x := P02 + P11 + P20 + 5 * P34) (y := 5 * P43) (by omega)]
  rw [z (P03) (by omega), adN (x := P03) (y := P12) (by omega), adN (x := P03 + P12) (y := P21) (by omega), adN (x := P03 + P12 + P21) (y := P30) (by omega), adN (x := P03 + P12 + P21 + P30) (y := 5 * P44) (by omega)]
  rw [z (P04) (by omega), adN (x := P04) (y := P13) (by omega), adN (x := P04 + P13) (y := P22) (by omega), adN (x := P04 + P13 + P22) (y := P31) (by omega), adN (x := P04 + P13 + P22 + P31) (y := P40) (by omega)]

theorem mul_val5 (x b0 b1 b2 b3 b4 : Nat) : x * val5 b0 b1 b2 b3 b4 = val5 (x * b0) (x * b1) (x * b2) (x * b3) (x * b4) := by
  unfold val5; simp only [Nat.mul_add, Nat.mul_left_comm x]
theorem val5_mul (a0 a1 a2 a3 a4 y : Nat) : val5 a0 a1 a2 a3 a4 * y = val5 (a0 * y) (a1 * y) (a2 * y) (a3 * y) (a4 * y) := by
  unfold val5; simp only [Nat.add_mul, Nat.mul_assoc]

theorem tm_val (a0 a1 a2 a3 a4 b0 b1 b2 b3 b4 : Nat) : ∃ q, val5 (tm0 a0 a1 a2 a3 a4 b0 b1 b2 b3 b4) (tm1 a0 a1 a2 a3 a4 b0 b1 b2 b3 b4) (tm2 a0 a1 a2 a3 a4 b0 b1 b2 b3 b4) (tm3 a0 a1 a2 a3 a4 b0 b1 b2 b3 b4) (tm4 a0 a1 a2 a3 a4 b0 b1 b2 b3 b4) + q * p1305 = val5 a0 a1 a2 a3 a4 * val5 b0 b1 b2 b3 b4 := by
  refine ⟨val5 (a1 * b4 + a2 * b3 + a3 * b2 + a4 * b1) (a2 * b4 + a3 * b3 + a4 * b2) (a3 * b4 + a4 * b3) (a4 * b4) 0, ?_⟩
  rw [mul_val5, val5_mul a0 a1 a2 a3 a4 b0, val5_mul a0 a1 a2 a3 a4 b1, val5_mul a0 a1 a2 a3 a4 b2, val5_mul a0 a1 a2 a3 a4 b3, val5_mul a0 a1 a2 a3 a4 b4]
  unfold tm0 tm1 tm2 tm3 tm4
  generalize a0 * b0 = P00
  generalize a0 * b1 = P01
  generalize a0 * b2 = P02
  generalize a0 * b3 = P03
  generalize a0 * b4 = P04
  generalize a1 * b0 = P10
  generalize a1 * b1 = P11
  generalize a1 * b2 = P12
  generalize a1 * b3 = P13
  generalize a1 * b4 = P14
  generalize a2 * b0 = P20
  generalize a2 * b1 = P21
  generalize a2 * b2 = P22
  generalize a2 * b3 = P23
  generalize a2 * b4 = P24
  generalize a3 * b0 = P30
  generalize a3 * b1 = P31
  generalize a3 * b2 = P32
  generalize a3 * b3 = P33
  generalize a3 * b4 = P34
  generalize a4 * b0 = P40
  generalize a4 * b1 = P41
  generalize a4 * b2 = P42
  generalize a4 * b3 = P43
  generalize a4 * b4 = P44
  unfold val5 p1305
  omega

/-- twice carried: below 2^26 + 5 -/
theorem car2 {t0 t1 t2 t3 t4 : Nat} (h0 : t0 < 4611686018427387904) (h1 : t1 < 4611686018427387904) (h2 : t2 < 4611686018427387904) (h3 : t3 < 4611686018427387904) (h4 : t4 < 4611686018427387904) :
    ∃ c0 c1 c2 c3 c4 q : Nat, carriedL (carriedL [(t0 : Int), (t1 : Int), (t2 : Int), (t3 : Int), (t4 : Int)]) = nats [c0, c1, c2, c3, c4] ∧ c0 < 67108864 + 5 ∧ c1 < 67108864 ∧ c2 < 67108864 ∧ c3 < 67108864 ∧ c4 < 67108864 ∧
      val5 c0 c1 c2 c3 c4 + q * p1305 = val5 t0 t1 t2 t3 t4 := by
  have v1 := car_val t0 t1 t2 t3 t4
  have hc : carC t0 t1 t2 t3 t4 < 137438953472 := by unfold carC; omega
  rw [car_nat h0 h1 h2 h3 h4]
  unfold carN at v1 ⊢
  generalize carC t0 t1 t2 t3 t4 = c at *
  have m1 := Nat.mod_lt (t1 + t0 / 67108864) (show 67108864 > 0 by decide)
  have m2 := Nat.mod_lt (t2 + (t1 + t0 / 67108864) / 67108864) (show 67108864 > 0 by decide)
  have m3 := Nat.mod_lt (t3 + (t2 + (t1 + t0 / 67108864) / 67108864) / 67108864) (show 67108864 > 0 by decide)
  have m4 := Nat.mod_lt (t4 + (t3 + (t2 + (t1 + t0 / 67108864) / 67108864) / 67108864) / 67108864) (show 67108864 > 0 by decide)
  have m0 : t0 % 67108864 + 5 * c < 67108864 + 687194767360 := by have := Nat.mod_lt t0 (show 67108864 > 0 by decide); omega
  generalize t0 % 67108864 + 5 * c = u0 at *
  generalize (t1 + t0 / 67108864) % 67108864 = u1 at *
  generalize (t2 + (t1 + t0 / 67108864) / 67108864) % 67108864 = u2 at *
  generalize (t3 + (t2 + (t1 + t0 / 67108864) / 67108864) / 67108864) % 67108864 = u3 at *
  generalize (t4 + (t3 + (t2 + (t1 + t0 / 67108864) / 67108864) / 67108864) / 67108864) % 67108864 = u4 at *
  rw [val5_eq] at v1
  have v2 := car_val u0 u1 u2 u3 u4
  have hd : carC u0 u1 u2 u3 u4 ≤ 1 := by unfold carC; omega
  refine ⟨_, _, _, _, _, c + carC u0 u1 u2 u3 u4, car_nat (by omega) (by omega) (by omega) (by omega) (by omega), ?_, Nat.mod_lt _ (by decide), Nat.mod_lt _ (by decide), Nat.mod_lt _ (by decide), Nat.mod_lt _ (by decide), ?_⟩
  · have := Nat.mod_lt u0 (show 67108864 > 0 by decide); omega
  · unfold carN at v2
    rw [val5_eq] at v2
    rw [Nat.add_mul]; omega

/-- limbs behind a product -/
def Sml (a0 a1 a2 a3 a4 : Nat) : Prop := a0 ≤ 67108868 ∧ a1 < 67108864 ∧ a2 < 67108864 ∧ a3 < 67108864 ∧ a4 < 67108864

theorem times_nat {a0 a1 a2 a3 a4 b0 b1 b2 b3 b4 : Nat} (ha : Lim 268435456 a0 a1 a2 a3 a4) (hb : Lim 134217728 b0 b1 b2 b3 b4) :
    ∃ c0 c1 c2 c3 c4 q : Nat, timesL (nats [a0, a1, a2, a3, a4]) (nats [b0, b1, b2, b3, b4]) = nats [c0, c1, c2, c3, c4] ∧ Sml c0 c1 c2 c3 c4 ∧ val5 c0 c1 c2 c3 c4 + q * p1305 = val5 a0 a1 a2 a3 a4 * val5 b0 b1 b2 b3 b4 := by
  obtain ⟨e, g0, g1, g2, g3, g4⟩ := tm_nat ha hb
  have et := times_eq (a0 : Int) (a1 : Int) (a2 : Int) (a3 : Int) (a4 : Int) (b0 : Int) (b1 : Int) (b2 : Int) (b3 : Int) (b4 : Int)
  rw [e] at et
  obtain ⟨c0, c1, c2, c3, c4, q, e1, l0, l1, l2, l3, l4, v⟩ := car2 g0 g1 g2 g3 g4
  obtain ⟨q', v'⟩ := tm_val a0 a1 a2 a3 a4 b0 b1 b2 b3 b4
  refine ⟨c0, c1, c2, c3, c4, q + q', et.trans e1, ⟨by omega, by omega, by omega, by omega, by omega⟩, ?_⟩
  rw [Nat.add_mul]; omega

end Go.Proofs.Ytiaddnmloonhgaa

/- Bits and digits of numbers. -/
namespace Go.Eng
open Go

theorem valB_div {b : Nat} (hb : 0 < b) : ∀ {l : List Nat}, (∀ x ∈ l, x < b) → ∀ i, valB b l / b ^ i % b = l.getD i 0
  | [], _, i => by simp [valB]
  | x :: l, h, 0 => by
    have hx := h x (.head _)
    simp only [Nat.pow_zero, Nat.div_one, valB, List.getD_cons_zero]
    rw [Nat.add_mul_mod_self_left, Nat.mod_eq_of_lt hx]
  | x :: l, h, i + 1 => by
    have hx := h x (.head _)
    rw [valB, Nat.pow_succ, Nat.mul_comm _ b, ← Nat.div_div_eq_div_mul, Nat.add_mul_div_left _ _ hb, Nat.div_eq_of_lt hx, Nat.zero_add, List.getD_cons_succ]
    exact valB_div hb (fun y hy => h y (.tail _ hy)) i

theorem valB_byte_bit {l : List Nat} (h : ∀ x ∈ l, x < 256) (i : Nat) : valB 256 l / 2 ^ i % 2 = l.getD (i / 8) 0 / 2 ^ (i % 8) % 2 := by
  rw [← valB_div (by decide) h (i / 8)]
  have e : (2 : Nat) ^ i = 256 ^ (i / 8) * 2 ^ (i % 8) := by
    rw [show (256 : Nat) = 2 ^ 8 from rfl, ← Nat.pow_mul, ← Nat.pow_add, Nat.div_add_mod]
  rw [e, ← Nat.div_div_eq_div_mul]
  generalize valB 256 l / 256 ^ (i / 8) = n
  have hm : i % 8 < 8 := Nat.mod_lt _ (by decide)
  generalize i % 8 = j at hm
  have hj : (256 : Nat) = 2 ^ j * (2 * 2 ^ (7 - j)) := by
    rw [← Nat.pow_succ', ← Nat.pow_add, show j + (7 - j).succ = 8 by omega]
  rw [hj, Nat.mod_mul_right_div_self, Nat.mod_mul_right_mod]

theorem digs_getD (b : Nat) : ∀ (m n i : Nat), i < m → (digs b m n).getD i 0 = n / b ^ i % b
  | 0, _, _, h => by omega
  | m + 1, n, 0, _ => by simp [digs]
  | m + 1, n, i + 1, h => by
    rw [digs, List.getD_cons_succ, digs_getD b m _ i (by omega), Nat.div_div_eq_div_mul, ← Nat.pow_succ']

/-- a bit, out of digits of so many bits -/
theorem digs_bit {w m n : Nat} (hw : 0 < w) {j : Nat} (hj : j < w * m) : (digs (2 ^ w) m n).getD (j / w) 0 / 2 ^ (j % w) % 2 = n / 2 ^ j % 2 := by
  rw [digs_getD _ _ _ _ (Nat.div_lt_of_lt_mul hj)]
  have e : (2 : Nat) ^ j = (2 ^ w) ^ (j / w) * 2 ^ (j % w) := by
    rw [← Nat.pow_mul, ← Nat.pow_add, Nat.div_add_mod]
  rw [e, ← Nat.div_div_eq_div_mul]
  generalize n / (2 ^ w) ^ (j / w) = x
  have hm : j % w < w := Nat.mod_lt _ hw
  generalize j % w = i at hm
  have hi : (2 : Nat) ^ w = 2 ^ i * (2 * 2 ^ (w - 1 - i)) := by
    rw [← Nat.pow_succ', ← Nat.pow_add, show i + (w - 1 - i).succ = w by omega]
  rw [hi, Nat.mod_mul_right_div_self, Nat.mod_mul_right_mod]

/-- one bit more, above all that stand -/
theorem digs_set {w : Nat} (hw : 0 < w) : ∀ (m n i : Nat), n < 2 ^ i → i < w * m → digs (2 ^ w) m (n + 2 ^ i) = (digs (2 ^ w) m n).set (i / w) ((digs (2 ^ w) m n).getD (i / w) 0 + 2 ^ (i % w))
  | 0, _, _, _, h => by omega
  | m + 1, n, i, hn, hi => by
    have hp : 0 < 2 ^ w := Nat.two_pow_pos w
    by_cases h : i < w
    · have h1 : (2 : Nat) ^ i * 2 ≤ 2 ^ w := by rw [← Nat.pow_succ]; exact Nat.pow_le_pow_right (by decide) h
      rw [Nat.div_eq_of_lt h, Nat.mod_eq_of_lt h]
      simp only [digs, List.set_cons_zero, List.getD_cons_zero]
      rw [Nat.mod_eq_of_lt (show n + 2 ^ i < 2 ^ w by omega), Nat.mod_eq_of_lt (show n < 2 ^ w by omega), Nat.div_eq_of_lt (show n + 2 ^ i < 2 ^ w by omega), Nat.div_eq_of_lt (show n < 2 ^ w by omega)]
    · have hwi : w ≤ i := Nat.le_of_not_lt h
      have e : (2 : Nat) ^ i = 2 ^ (i - w) * 2 ^ w := by rw [← Nat.pow_add, show i - w + w = i by omega]
      have hd : i / w = (i - w) / w + 1 := by rw [Nat.div_eq_sub_div hw hwi]
      have hmd : i % w = (i - w) % w := by rw [Nat.mod_eq_sub_mod hwi]
      rw [hd, hmd]
      simp only [digs, List.set_cons_succ, List.getD_cons_succ]
      rw [e, Nat.add_mul_mod_self_right, Nat.add_mul_div_right _ _ hp]
      rw [digs_set hw m (n / 2 ^ w) (i - w) ?_ ?_]
      · exact Nat.div_lt_of_lt_mul (by rw [← Nat.pow_add, show w + (i - w) = i by omega]; exact hn)
      · have : w * (m + 1) = w * m + w := Nat.mul_succ w m
        omega

theorem mod_two_pow_succ (n i : Nat) : n % 2 ^ (i + 1) = n % 2 ^ i + (n / 2 ^ i % 2) * 2 ^ i := by
  rw [Nat.mod_pow_succ, Nat.mul_comm]

theorem nats_digs_bound {b m n : Nat} (hb : 0 < b) (i : Nat) : (digs b m n).getD i 0 < b := by
  rw [List.getD_eq_getElem?_getD]
  cases h : (digs b m n)[i]? with
  | none => exact hb
  | some x => exact digs_lt hb x (List.mem_of_getElem? h)

/-- sums of digits, carried -/
theorem digs_mod (b : Nat) : ∀ (m n : Nat), digs b m (n % b ^ m) = digs b m n
  | 0, _ => rfl
  | m + 1, n => by
    have e1 : n % b ^ (m + 1) % b = n % b := by rw [Nat.pow_succ, Nat.mod_mul_left_mod]
    have e2 : n % b ^ (m + 1) / b = n / b % b ^ m := by rw [Nat.pow_succ, Nat.mul_comm, Nat.mod_mul_right_div_self]
    rw [digs, digs, e1, e2, digs_mod b m]
end Go.Eng

/- Digits by school: differences with a borrow, carries. Plain numbers, no program. -/
namespace Go.Eng

theorem getD_mid {α : Type} {A B : List α} {x d : α} {i : Nat} (h : A.length = i) : (A ++ x :: B).getD i d = x := by
  subst h
  simp [List.getD_eq_getElem?_getD]
theorem set_mid {α : Type} {A B : List α} {x y : α} {i : Nat} (h : A.length = i) : (A ++ x :: B).set i y = A ++ y :: B := by
  subst h
  simp

theorem valB_cons (b x : Nat) (l : List Nat) : valB b (x :: l) = x + b * valB b l := rfl

/-- a difference, with a borrow -/
def subG : List Nat → List Nat → Nat → List Nat × Nat
  | x :: l, q :: m, b => ((x + 65536 - q - b) % 65536 :: (subG l m (1 - (x + 65536 - q - b) / 65536)).1, (subG l m (1 - (x + 65536 - q - b) / 65536)).2)
  | [], _, b => ([], b)
  | _ :: _, [], b => ([], b)

theorem subG_spec : ∀ (l m : List Nat) (b : Nat), l.length = m.length → (∀ x ∈ l, x < 65536) → (∀ x ∈ m, x < 65536) → b ≤ 1 →
    (subG l m b).1.length = l.length ∧ (∀ x ∈ (subG l m b).1, x < 65536) ∧ (subG l m b).2 ≤ 1 ∧ valB 65536 (subG l m b).1 + valB 65536 m + b = valB 65536 l + 65536 ^ l.length * (subG l m b).2
  | [], [], b, _, _, _, hb => by simp [subG, valB, hb]
  | [], _ :: _, _, h, _, _, _ => by simp at h
  | _ :: _, [], _, h, _, _, _ => by simp at h
  | x :: l, q :: m, b, h, hl, hm, hb => by
    have hx := hl x (.head _)
    have hq := hm q (.head _)
    obtain ⟨h1, h2, h3, h4⟩ := subG_spec l m (1 - (x + 65536 - q - b) / 65536) (by simpa using h) (fun y hy => hl y (.tail _ hy)) (fun y hy => hm y (.tail _ hy)) (by omega)
    simp only [subG]
    refine ⟨by simp [h1], ?_, h3, ?_⟩
    · intro y hy
      rcases List.mem_cons.1 hy with rfl | hy
      · exact Nat.mod_lt _ (by decide)
      · exact h2 y hy
    · simp only [valB_cons, List.length_cons, Nat.pow_succ]
      generalize valB 65536 (subG l m (1 - (x + 65536 - q - b) / 65536)).1 = R at *
      generalize (subG l m (1 - (x + 65536 - q - b) / 65536)).2 = c at *
      generalize valB 65536 l = L at *
      generalize valB 65536 m = M at *
      rw [Nat.mul_comm (65536 ^ l.length) 65536, Nat.mul_assoc]
      generalize 65536 ^ l.length * c = T at *
      omega

/-- carries -/
def normG : List Nat → Nat → List Nat × Nat
  | [], c => ([], c)
  | x :: l, c => ((x + c) % 65536 :: (normG l ((x + c) / 65536)).1, (normG l ((x + c) / 65536)).2)

theorem normG_spec : ∀ (l : List Nat) (c : Nat), (normG l c).1.length = l.length ∧ (∀ x ∈ (normG l c).1, x < 65536) ∧ valB 65536 (normG l c).1 + 65536 ^ l.length * (normG l c).2 = valB 65536 l + c
  | [], c => by simp [normG, valB]
  | x :: l, c => by
    obtain ⟨h1, h2, h3⟩ := normG_spec l ((x + c) / 65536)
    simp only [normG]
    refine ⟨by simp [h1], ?_, ?_⟩
    · intro y hy
      rcases List.mem_cons.1 hy with rfl | hy
      · exact Nat.mod_lt _ (by decide)
      · exact h2 y hy
    · simp only [valB_cons, List.length_cons, Nat.pow_succ]
      generalize valB 65536 (normG l ((x + c) / 65536)).1 = R at *
      generalize (normG l ((x + c) / 65536)).2 = d at *
      generalize valB 65536 l = L at *
      rw [Nat.mul_comm (65536 ^ l.length) 65536, Nat.mul_assoc]
      generalize 65536 ^ l.length * d = T at *
      omega

theorem normG_carry : ∀ (l : List Nat) (c : Nat), (∀ x ∈ l, x < 2 ^ 46) → c < 2 ^ 46 → l ≠ [] → (normG l c).2 < 2 ^ 31
  | [], c, _, _, h => absurd rfl h
  | [x], c, hl, hc, _ => by
    have := hl x (.head _)
    simp only [normG]
    omega
  | x :: y :: l, c, hl, hc, _ => by
    have := hl x (.head _)
    show (normG (y :: l) ((x + c) / 65536)).2 < 2 ^ 31
    exact normG_carry (y :: l) _ (fun z hz => hl z (.tail _ hz)) (by omega) (by simp)

/-- one turn: carries; what comes out at the end comes in again, 38 times -/
def turnG (l : List Nat) : List Nat := match (normG l 0).1 with
  | [] => []
  | x :: r => (x + 38 * (normG l 0).2) :: r

theorem turnG_val {l : List Nat} (h : l ≠ []) : valB 65536 (turnG l) + 65536 ^ l.length * (normG l 0).2 = valB 65536 l + 38 * (normG l 0).2 := by
  obtain ⟨h1, _, h3⟩ := normG_spec l 0
  unfold turnG
  cases hn : (normG l 0).1 with
  | nil => rw [hn] at h1; simp at h1; exact absurd h1.symm (fun e => h (List.eq_nil_of_length_eq_zero e.symm.symm))
  | cons x r =>
    rw [hn] at h3
    simp only [valB_cons] at *
    omega
theorem turnG_length (l : List Nat) : (turnG l).length = l.length := by
  obtain ⟨h1, _⟩ := normG_spec l 0
  unfold turnG
  cases hn : (normG l 0).1 with
  | nil => rw [hn] at h1; simpa using h1
  | cons x r => rw [hn] at h1; simpa using h1
theorem turnG_lt {l : List Nat} (hl : ∀ x ∈ l, x < 2 ^ 46) : ∀ x ∈ turnG l, x < 2 ^ 46 := by
  obtain ⟨h1, h2, _⟩ := normG_spec l 0
  unfold turnG
  cases hn : (normG l 0).1 with
  | nil => simp
  | cons x r =>
    rw [hn] at h1 h2
    have hc := normG_carry l 0 hl (by decide) (fun e => by rw [e] at h1; simp at h1)
    intro y hy
    rcases List.mem_cons.1 hy with rfl | hy
    · have := h2 x (.head _); omega
    · have := h2 y (.tail _ hy); omega
/-- what is small enough is only put in order -/
theorem turnG_ok {l : List Nat} (hl : valB 65536 l < 65536 ^ l.length) (hn : l ≠ []) : valB 65536 (turnG l) = valB 65536 l ∧ ∀ x ∈ turnG l, x < 65536 := by
  obtain ⟨h1, h2, h3⟩ := normG_spec l 0
  have hc : (normG l 0).2 = 0 := by
    cases hc : (normG l 0).2 with
    | zero => rfl
    | succ c =>
      rw [hc, Nat.mul_succ] at h3
      omega
  have hv := turnG_val hn
  rw [hc] at hv
  refine ⟨by omega, ?_⟩
  unfold turnG
  cases hn : (normG l 0).1 with
  | nil => simp
  | cons x r =>
    rw [hn] at h2
    intro y hy
    rw [hc] at hy
    exact h2 y (by simpa using hy)

end Go.Eng

/- Digits of 32 bits by school: sums, differences, products. Plain numbers, no program. -/
namespace Go.Eng

/-- a sum, with a carry -/
def add32 : List Nat → List Nat → Nat → List Nat × Nat
  | x :: l, y :: m, c => ((c + x + y) % 4294967296 :: (add32 l m ((c + x + y) / 4294967296)).1, (add32 l m ((c + x + y) / 4294967296)).2)
  | [], _, c => ([], c)
  | _ :: _, [], c => ([], c)
theorem add32_spec : ∀ (l m : List Nat) (c : Nat), l.length = m.length → (add32 l m c).1.length = l.length ∧ (∀ x ∈ (add32 l m c).1, x < 4294967296) ∧ valB 4294967296 (add32 l m c).1 + 4294967296 ^ l.length * (add32 l m c).2 = valB 4294967296 l + valB 4294967296 m + c
  | [], [], c, _ => by simp [add32, valB]
  | [], _ :: _, _, h => by simp at h
  | _ :: _, [], _, h => by simp at h
  | x :: l, y :: m, c, h => by
    obtain ⟨h1, h2, h3⟩ := add32_spec l m ((c + x + y) / 4294967296) (by simpa using h)
    simp only [add32]
    refine ⟨by simp [h1], ?_, ?_⟩
    · intro z hz
      rcases List.mem_cons.1 hz with rfl | hz
      · exact Nat.mod_lt _ (by decide)
      · exact h2 z hz
    · simp only [valB_cons, List.length_cons, Nat.pow_succ]
      generalize valB 4294967296 (add32 l m ((c + x + y) / 4294967296)).1 = R at *
      generalize (add32 l m ((c + x + y) / 4294967296)).2 = d at *
      generalize valB 4294967296 l = L at *
      generalize valB 4294967296 m = M at *
      rw [Nat.mul_comm (4294967296 ^ l.length) 4294967296, Nat.mul_assoc]
      generalize 4294967296 ^ l.length * d = T at *
      omega

/-- a difference, with a borrow, as the machine has it -/
noncomputable def stkD {α : Type} (a : α) : { b : α // b = a } := Classical.choice ⟨⟨a, rfl⟩⟩
noncomputable def subD : Nat → Nat → Nat → Nat := (stkD fun x q b => (x + 18446744073709551616 - q - b) % 18446744073709551616).1
theorem subD_def (x q b : Nat) : subD x q b = (x + 18446744073709551616 - q - b) % 18446744073709551616 := congrFun (congrFun (congrFun (stkD fun x q b : Nat => (x + 18446744073709551616 - q - b) % 18446744073709551616).2 x) q) b
noncomputable def sub32 : List Nat → List Nat → Nat → List Nat × Nat
  | x :: l, q :: m, b => (subD x q b % 4294967296 :: (sub32 l m (subD x q b / 9223372036854775808)).1, (sub32 l m (subD x q b / 9223372036854775808)).2)
  | [], _, b => ([], b)
  | _ :: _, [], b => ([], b)
theorem subD_spec {x q b : Nat} (hx : x < 4294967296) (hq : q < 4294967296) (hb : b ≤ 1) : subD x q b / 9223372036854775808 ≤ 1 ∧ subD x q b % 4294967296 + q + b = x + 4294967296 * (subD x q b / 9223372036854775808) := by
  rw [subD_def]
  by_cases h : q + b ≤ x
  · have e : (x + 18446744073709551616 - q - b) % 18446744073709551616 = x - q - b := by omega
    rw [e]
    have e2 : (x - q - b) / 9223372036854775808 = 0 := by omega
    have e3 : (x - q - b) % 4294967296 = x - q - b := by omega
    rw [e2, e3]; omega
  · have e : (x + 18446744073709551616 - q - b) % 18446744073709551616 = x + 18446744073709551616 - q - b := by omega
    rw [e]
    have e2 : (x + 18446744073709551616 - q - b) / 9223372036854775808 = 1 := by omega
    have e3 : (x + 18446744073709551616 - q - b) % 4294967296 = x + 4294967296 - q - b := by omega
    rw [e2, e3]; omega
theorem sub32_spec : ∀ (l m : List Nat) (b : Nat), l.length = m.length → (∀ x ∈ l, x < 4294967296) → (∀ x ∈ m, x < 4294967296) → b ≤ 1 →
    (sub32 l m b).1.length = l.length ∧ (∀ x ∈ (sub32 l m b).1, x < 4294967296) ∧ (sub32 l m b).2 ≤ 1 ∧ valB 4294967296 (sub32 l m b).1 + valB 4294967296 m + b = valB 4294967296 l + 4294967296 ^ l.length * (sub32 l m b).2
  | [], [], b, _, _, _, hb => by simp [sub32, valB, hb]
  | [], _ :: _, _, h, _, _, _ => by simp at h
  | _ :: _, [], _, h, _, _, _ => by simp at h
  | x :: l, q :: m, b, h, hl, hm, hb => by
    have hx := hl x (.head _)
    have hq := hm q (.head _)
    obtain ⟨d1, d2⟩ := subD_spec hx hq hb
    obtain ⟨h1, h2, h3, h4⟩ := sub32_spec l m (subD x q b / 9223372036854775808) (by simpa using h) (fun y hy => hl y (.tail _ hy)) (fun y hy => hm y (.tail _ hy)) d1
    simp only [sub32]
    refine ⟨by simp [h1], ?_, h3, ?_⟩
    · intro y hy
      rcases List.mem_cons.1 hy with rfl | hy
      · exact Nat.mod_lt _ (by decide)
      · exact h2 y hy
    · simp only [valB_cons, List.length_cons, Nat.pow_succ]
      generalize subD x q b % 4294967296 = r at *
      generalize subD x q b / 9223372036854775808 = bo at *
      generalize valB 4294967296 (sub32 l m bo).1 = R at *
      generalize (sub32 l m bo).2 = c at *
      generalize valB 4294967296 l = L at *
      generalize valB 4294967296 m = M at *
      rw [Nat.mul_comm (4294967296 ^ l.length) 4294967296, Nat.mul_assoc]
      generalize 4294967296 ^ l.length * c = T at *
      omega
/-- what is small enough to be taken off -/
theorem sub32_fit {l m : List Nat} (h : l.length = m.length) (hl : ∀ x ∈ l, x < 4294967296) (hm : ∀ x ∈ m, x < 4294967296) (hle : valB 4294967296 m ≤ valB 4294967296 l) :
    (sub32 l m 0).1.length = l.length ∧ (∀ x ∈ (sub32 l m 0).1, x < 4294967296) ∧ valB 4294967296 (sub32 l m 0).1 = valB 4294967296 l - valB 4294967296 m := by
  obtain ⟨h1, h2, h3, h4⟩ := sub32_spec l m 0 h hl hm (by decide)
  refine ⟨h1, h2, ?_⟩
  have hr := valB_lt (b := 4294967296) (by decide) h2
  rw [h1] at hr
  have : (sub32 l m 0).2 = 0 := by
    cases hc : (sub32 l m 0).2 with
    | zero => rfl
    | succ c =>
      rw [hc, Nat.mul_succ] at h4
      omega
  rw [this, Nat.mul_zero] at h4
  omega

/-- twice, and a bit -/
def dbl32 : List Nat → Nat → List Nat × Nat
  | [], c => ([], c)
  | x :: l, c => ((2 * x + c) % 4294967296 :: (dbl32 l (x / 2147483648)).1, (dbl32 l (x / 2147483648)).2)
theorem dbl32_spec : ∀ (l : List Nat) (c : Nat), (∀ x ∈ l, x < 4294967296) → c ≤ 1 → (dbl32 l c).1.length = l.length ∧ (∀ x ∈ (dbl32 l c).1, x < 4294967296) ∧ valB 4294967296 (dbl32 l c).1 + 4294967296 ^ l.length * (dbl32 l c).2 = 2 * valB 4294967296 l + c
  | [], c, _, _ => by simp [dbl32, valB]
  | x :: l, c, hl, hc => by
    have hx := hl x (.head _)
    obtain ⟨h1, h2, h3⟩ := dbl32_spec l (x / 2147483648) (fun y hy => hl y (.tail _ hy)) (by omega)
    simp only [dbl32]
    refine ⟨by simp [h1], ?_, ?_⟩
    · intro y hy
      rcases List.mem_cons.1 hy with rfl | hy
      · exact Nat.mod_lt _ (by decide)
      · exact h2 y hy
    · simp only [valB_cons, List.length_cons, Nat.pow_succ]
      generalize valB 4294967296 (dbl32 l (x / 2147483648)).1 = R at *
      generalize (dbl32 l (x / 2147483648)).2 = d at *
      generalize valB 4294967296 l = L at *
      rw [Nat.mul_comm (4294967296 ^ l.length) 4294967296, Nat.mul_assoc]
      generalize 4294967296 ^ l.length * d = T at *
      omega

/-- a row of a product: l and c times x, from here on -/
def mac32 (x : Nat) : List Nat → List Nat → Nat → List Nat × Nat
  | u :: l, y :: m, c => ((c + u + x * y) % 4294967296 :: (mac32 x l m ((c + u + x * y) / 4294967296)).1, (mac32 x l m ((c + u + x * y) / 4294967296)).2)
  | [], _, c => ([], c)
  | _ :: _, [], c => ([], c)
theorem mac32_spec (x : Nat) : ∀ (l m : List Nat) (c : Nat), l.length = m.length → (mac32 x l m c).1.length = l.length ∧ (∀ y ∈ (mac32 x l m c).1, y < 4294967296) ∧ valB 4294967296 (mac32 x l m c).1 + 4294967296 ^ l.length * (mac32 x l m c).2 = valB 4294967296 l + x * valB 4294967296 m + c
  | [], [], c, _ => by simp [mac32, valB]
  | [], _ :: _, _, h => by simp at h
  | _ :: _, [], _, h => by simp at h
  | u :: l, y :: m, c, h => by
    obtain ⟨h1, h2, h3⟩ := mac32_spec x l m ((c + u + x * y) / 4294967296) (by simpa using h)
    simp only [mac32]
    refine ⟨by simp [h1], ?_, ?_⟩
    · intro z hz
      rcases List.mem_cons.1 hz with rfl | hz
      · exact Nat.mod_lt _ (by decide)
      · exact h2 z hz
    · simp only [valB_cons, List.length_cons, Nat.pow_succ]
      generalize valB 4294967296 (mac32 x l m ((c + u + x * y) / 4294967296)).1 = R at *
      generalize (mac32 x l m ((c + u + x * y) / 4294967296)).2 = d at *
      generalize valB 4294967296 l = L at *
      generalize valB 4294967296 m = M at *
      rw [Nat.mul_comm (4294967296 ^ l.length) 4294967296, Nat.mul_assoc, Nat.mul_add x, Nat.mul_left_comm x]
      generalize 4294967296 ^ l.length * d = T at *
      generalize x * M = XM at *
      generalize x * y = XY at *
      omega
theorem mac32_carry (x : Nat) (hx : x < 4294967296) : ∀ (l m : List Nat) (c : Nat), (∀ u ∈ l, u < 4294967296) → (∀ y ∈ m, y < 4294967296) → c < 4294967296 → (mac32 x l m c).2 < 4294967296
  | [], _, c, _, _, hc => hc
  | _ :: _, [], c, _, _, hc => hc
  | u :: l, y :: m, c, hl, hm, hc => by
    have hu := hl u (.head _)
    have hy := hm y (.head _)
    have hxy : x * y ≤ 4294967295 * 4294967295 := Nat.mul_le_mul (by omega) (by omega)
    exact mac32_carry x hx l m _ (fun z hz => hl z (.tail _ hz)) (fun z hz => hm z (.tail _ hz)) (by omega)
end Go.Eng

/- The document's numbers of five digits: the prime, what is below, differences, sums, numbers of bytes. -/
namespace Go.Proofs.Ytiaddnmloonhgaa
open Go Go.Eng
set_option maxRecDepth 100000
set_option linter.unusedVariables false

def okU (x : List Int) : Bool := Nat.beq x.length 5 && x.all fun b => decide (0 ≤ b) && decide (b < 4294967296)
def numU (x : List Int) : Nat := valB 4294967296 (x.map Int.toNat)
theorem okU_of {x : List Int} (h : okU x = true) : ∃ l : List Nat, x = nats l ∧ l.length = 5 ∧ ∀ b ∈ l, b < 4294967296 := by
  unfold okU at h
  rw [Bool.and_eq_true, List.all_eq_true] at h
  obtain ⟨h1, h2⟩ := h
  have h3 : ∀ b ∈ x, 0 ≤ b ∧ b < 4294967296 := fun b hb => by
    have := h2 b hb
    rw [Bool.and_eq_true] at this
    exact ⟨of_decide_eq_true this.1, of_decide_eq_true this.2⟩
  obtain ⟨l, rfl⟩ := nats_of (xs := x) fun b hb => (h3 b hb).1
  exact ⟨l, rfl, by rw [← nats_length]; exact Nat.eq_of_beq_eq_true h1, fun b hb => Int.ofNat_lt.mp (h3 b (List.mem_map.mpr ⟨b, hb, rfl⟩)).2⟩
theorem okU_nats {l : List Nat} (hl : l.length = 5) (h : ∀ b ∈ l, b < 4294967296) : okU (nats l) = true := by
  unfold okU
  rw [nats_length, hl, show Nat.beq 5 5 = true from rfl, Bool.true_and, List.all_eq_true]
  intro b hb
  unfold nats at hb
  obtain ⟨n, hn, rfl⟩ := List.mem_map.mp hb
  have := h n hn
  rw [Bool.and_eq_true]
  exact ⟨decide_eq_true (Int.natCast_nonneg n), decide_eq_true (Int.ofNat_lt.mpr this)⟩
theorem nats_toNat5 (l : List Nat) : (nats l).map Int.toNat = l := by
  unfold nats
  rw [List.map_map]
  exact List.map_id'' (fun _ => rfl) l
theorem numU_nats (l : List Nat) : numU (nats l) = valB 4294967296 l := by unfold numU; rw [nats_toNat5]
noncomputable def nuU : Nat → List Int := (stkD fun v => nats (digs 4294967296 5 v)).1
theorem nuU_def (v : Nat) : nuU v = nats (digs 4294967296 5 v) := congrFun (stkD fun v => nats (digs 4294967296 5 v)).2 v
theorem okU_nuU (v : Nat) : okU (nuU v) = true := by rw [nuU_def]; exact okU_nats (digs_length _ _ _) (digs_lt (by decide))
theorem numU_nuU {v : Nat} (h : v < 2 ^ 160) : numU (nuU v) = v := by
  rw [nuU_def, numU_nats, digs_val, Nat.mod_eq_of_lt (Nat.lt_of_lt_of_le h (by decide))]
theorem nats_nuU {l : List Nat} (hl : l.length = 5) (h : ∀ b ∈ l, b < 4294967296) : nats l = nuU (valB 4294967296 l) := by
  rw [nuU_def, ← hl, digs_of (by decide) h]
theorem numU_lt {x : List Int} (h : okU x = true) : numU x < 2 ^ 160 := by
  obtain ⟨l, rfl, hl, hb⟩ := okU_of h
  rw [numU_nats]
  have := valB_lt (b := 4294967296) (by decide) hb
  rw [hl] at this
  exact Nat.lt_of_lt_of_le this (by decide)

noncomputable def I119 : (R : Type) → List DV → (List DV → Option R) → Option R := fun _ ds k => match ds with
  | [] => k [.v (.one (.ints .u32 5 (nuU p1305)))]
  | _ => none
theorem c119 : Contract Try.prog 119 { sig := S119, impl := I119 } := by
  refine Contract.refine fun R ds k r h => ⟨_, f119_contract 0 ctxOk_nil, ?_⟩
  unfold I119 at h
  split at h
  · rw [f119_raw_eq]
    rw [nuU_def, show nats (digs 4294967296 5 p1305) = [4294967291, 4294967295, 4294967295, 4294967295, 3] by decide] at h
    exact h
  · cases h

/-! ### below -/
theorem cmp_lt {P a b x q S : Nat} (ha : a < P) (hb : b < P) (h : x ≠ q) : decide (a + P * (x + S) < b + P * (q + S)) = decide (x < q) := by
  refine decide_eq_decide.mpr ⟨fun h1 => ?_, fun h1 => ?_⟩
  · apply Nat.lt_of_not_le
    intro h2
    have : P * (q + S + 1) ≤ P * (x + S) := Nat.mul_le_mul_left P (by omega)
    rw [Nat.mul_add, Nat.mul_one] at this
    omega
  · have : P * (x + S + 1) ≤ P * (q + S) := Nat.mul_le_mul_left P (by omega)
    rw [Nat.mul_add, Nat.mul_one] at this
    omega
theorem valU_split (l : List Nat) {m : Nat} (h : m < l.length) : valB 4294967296 l = valB 4294967296 (l.take m) + 4294967296 ^ m * (l.getD m 0 + 4294967296 * valB 4294967296 (l.drop (m + 1))) := by
  conv => lhs; rw [← List.take_append_drop m l]
  rw [valB_append, List.length_take, Nat.min_eq_left (by omega), List.drop_eq_getElem_cons h, valB_cons, List.getD_eq_getElem?_getD, List.getElem?_eq_getElem h]; rfl
theorem takeU_lt {l : List Nat} {m : Nat} (hm : m ≤ l.length) (h : ∀ x ∈ l, x < 4294967296) : valB 4294967296 (l.take m) < 4294967296 ^ m := by
  have := valB_lt (b := 4294967296) (by decide) (l := l.take m) fun x hx => h x (List.mem_of_mem_take hx)
  rwa [List.length_take, Nat.min_eq_left hm] at this
theorem f120_in {R : Type} (N : Nat) (g : Bool → Option R) {d q : List Nat} (hl : d.length = 5) (hd : ∀ x ∈ d, x < 4294967296) (hq : q.length = 5) (hqd : ∀ x ∈ q, x < 4294967296) :
    ∀ m : Nat, m ≤ 5 → d.drop m = q.drop m → ∀ fuel, m < fuel → f120_0_lp N (fun w _ _ _ _ _ => g w) (fun _ _ _ _ => g false) fuel ((m : Int) - 1) (nats d) (nats q) = g (decide (valB 4294967296 d < valB 4294967296 q)) := by
  intro m
  induction m with
  | zero =>
    intro _ he fuel hf
    obtain ⟨f, rfl⟩ : ∃ f, fuel = f + 1 := ⟨fuel - 1, by omega⟩
    rw [List.drop_zero, List.drop_zero] at he
    rw [he, decide_eq_false (Nat.lt_irrefl _)]
    rfl
  | succ m ih =>
    intro hm he fuel hf
    obtain ⟨f, rfl⟩ : ∃ f, fuel = f + 1 := ⟨fuel - 1, by omega⟩
    show f120_0_st N (f120_0_lp N _ _ f) _ _ _ _ _ = _
    rw [show ((m + 1 : Nat) : Int) - 1 = (m : Int) by omega]
    unfold f120_0_st
    rw [decide_eq_true (show (m : Int) ≥ 0 by omega), decide_eq_true (show (m : Int) < 5 by omega)]
    simp only [Bool.and_self, cond_true]
    rw [show (nats d).getD (mulE (Int.toNat (m : Int)) 1) 0 = ((d.getD m 0 : Nat) : Int) from nats_getD d m, show (nats q).getD (mulE (Int.toNat (m : Int)) 1) 0 = ((q.getD m 0 : Nat) : Int) from nats_getD q m]
    have hs := valU_split d (m := m) (by omega)
    have hp := valU_split q (m := m) (by omega)
    have e1 : IntKind.i64.wrap ((m : Int) - 1) = (m : Int) - 1 := by
      cases m with
      | zero => decide
      | succ m => rw [show ((m + 1 : Nat) : Int) - 1 = (m : Int) by omega]; exact wi64 (by omega)
    by_cases h : d.getD m 0 = q.getD m 0
    · rw [h, show ((((q.getD m 0 : Nat) : Int)) != ((q.getD m 0 : Nat) : Int)) = false by simp, cond_false, e1]
      refine ih (by omega) ?_ f (by omega)
      rw [List.drop_eq_getElem_cons (show m < d.length by omega), List.drop_eq_getElem_cons (show m < q.length by omega), he]
      rw [List.getD_eq_getElem?_getD, List.getElem?_eq_getElem (show m < d.length by omega), List.getD_eq_getElem?_getD, List.getElem?_eq_getElem (show m < q.length by omega), Option.getD_some, Option.getD_some] at h
      rw [h]
    · rw [show ((((d.getD m 0 : Nat) : Int)) != ((q.getD m 0 : Nat) : Int)) = true by rw [bne_iff_ne]; omega, cond_true]
      refine congrArg g ?_
      rw [hs, hp, he, cmp_lt (takeU_lt (by omega) hd) (takeU_lt (by omega) hqd) h]
      exact decide_eq_decide.mpr (by omega)
noncomputable def I120 : (R : Type) → List DV → (List DV → Option R) → Option R := fun _ ds k => match ds with
  | [.v (.one (.ints .u32 5 x)), .v (.one (.ints .u32 5 y))] => bif okU x && okU y then k [.v (.one (.bool (decide (numU x < numU y))))] else none
  | _ => none
theorem c120 : Contract Try.prog 120 { sig := S120, impl := I120 } := by
  refine Contract.refine fun R ds k r h => ⟨_, f120_contract 6 ctxOk_nil, ?_⟩
  unfold I120 at h
  split at h
  · rename_i x y
    rcases hc : okU x && okU y with _ | _
    · rw [hc] at h; cases h
    · rw [hc, cond_true] at h
      rw [Bool.and_eq_true] at hc
      rw [f120_raw_eq]
      obtain ⟨l, rfl, hl, hb⟩ := okU_of hc.1
      obtain ⟨m, rfl, hm, hbm⟩ := okU_of hc.2
      rw [numU_nats, numU_nats] at h
      rw [← h]
      exact f120_in 6 (fun b => k [.v (.one (.bool b))]) hl hb hm hbm 5 (Nat.le_refl _) (by rw [List.drop_of_length_le (by omega), List.drop_of_length_le (by omega)]) 6 (by decide)
  · cases h

/-! ### sums and differences -/
theorem ngetD {A B : List Nat} {x : Nat} : (nats (A ++ x :: B)).getD (mulE (Int.toNat (A.length : Int)) 1) 0 = (x : Int) := by
  rw [show mulE (Int.toNat (A.length : Int)) 1 = A.length from rfl, nats_getD, getD_mid rfl]
theorem nset {A B : List Nat} {x : Nat} (y : Nat) : (nats (A ++ x :: B)).set (mulE (Int.toNat (A.length : Int)) 1) (y : Int) = nats (A ++ y :: B) := by
  rw [show mulE (Int.toNat (A.length : Int)) 1 = A.length from rfl, nats_set, set_mid rfl]
theorem app_cons {α : Type} (A B : List α) (y : α) : A ++ y :: B = (A ++ [y]) ++ B := by simp
theorem app_len {α : Type} (A : List α) (y : α) : (A ++ [y]).length = A.length + 1 := by simp
theorem drop_split {q : List Nat} {i : Nat} (hi : i < q.length) : q.drop i = q.getD i 0 :: q.drop (i + 1) := by
  rw [List.getD_eq_getElem?_getD, List.getElem?_eq_getElem hi, Option.getD_some]
  exact List.drop_eq_getElem_cons _
theorem getU_lt {l : List Nat} (h : ∀ x ∈ l, x < 4294967296) (j : Nat) : l.getD j 0 < 4294967296 := by
  rw [List.getD_eq_getElem?_getD]
  cases e : l[j]? with
  | none => exact (by decide : 0 < 4294967296)
  | some a => exact h a (List.mem_of_getElem? e)

theorem f66_in {R : Type} (N : Nat) (k1 : Bool → Int → Int → List Int → List Int → List Int → Option R) (z : List Int) {q : List Nat} (hq : q.length = 5) (hqd : ∀ x ∈ q, x < 4294967296) :
    ∀ (B A : List Nat) (c : Nat), A.length + B.length = 5 → (∀ x ∈ B, x < 4294967296) → c ≤ 4 → ∀ fuel, B.length < fuel →
      f66_0_lp N k1 fuel (c : Int) (A.length : Int) (nats (A ++ B)) (nats q) z = k1 false ((add32 B (q.drop A.length) c).2 : Int) 5 (nats (A ++ (add32 B (q.drop A.length) c).1)) (nats q) z := by
  intro B
  induction B with
  | nil =>
    intro A c hA _ hc fuel hf
    obtain ⟨f, rfl⟩ : ∃ f, fuel = f + 1 := ⟨fuel - 1, by omega⟩
    have hl : A.length = 5 := by simpa using hA
    show f66_0_st N (f66_0_lp N k1 f) k1 _ _ _ _ _ = _
    unfold f66_0_st
    rw [hl]
    rfl
  | cons x B ih =>
    intro A c hA hB hc fuel hf
    obtain ⟨f, rfl⟩ : ∃ f, fuel = f + 1 := ⟨fuel - 1, by omega⟩
    rw [List.length_cons] at hA hf
    have hi : A.length < 5 := by omega
    have hx := hB x (.head _)
    have hy := getU_lt hqd A.length
    show f66_0_st N (f66_0_lp N k1 f) k1 _ _ _ _ _ = _
    unfold f66_0_st
    rw [decide_eq_true (show (A.length : Int) < 5 by omega), decide_eq_true (show 0 ≤ (A.length : Int) by omega), cond_true, Bool.and_self, cond_true, cond_true, cond_true]
    dsimp only
    rw [ngetD, show (nats q).getD (mulE (Int.toNat (A.length : Int)) 1) 0 = ((q.getD A.length 0 : Nat) : Int) from nats_getD q _, drop_split (q := q) (i := A.length) (by omega)]
    generalize q.getD A.length 0 = y at hy
    rw [w64 (n := x) (by omega), w64 (n := y) (by omega), show (c : Int) + (x : Int) = ((c + x : Nat) : Int) from rfl, w64 (n := c + x) (by omega), show ((c + x : Nat) : Int) + (y : Int) = ((c + x + y : Nat) : Int) from rfl, w64 (n := c + x + y) (by omega)]
    have hv : c + x + y < 8589934596 := by omega
    simp only [add32]
    generalize c + x + y = v at hv
    rw [show (32 : Int) = ((32 : Nat) : Int) from rfl, shrN (k := .u64) (m := 32) (by decide), wm32, show (2 : Nat) ^ 32 = 4294967296 from rfl, nset, show (A.length : Int) + 1 = ((A.length + 1 : Nat) : Int) from rfl, wi64 (n := A.length + 1) (by omega)]
    have := ih (A ++ [v % 4294967296]) (v / 4294967296) (by rw [app_len]; omega) (fun y hy => hB y (.tail _ hy)) (by omega) f (by omega)
    rw [app_len, ← app_cons, ← app_cons] at this
    exact this
noncomputable def I66 : (R : Type) → List DV → (List DV → Option R) → Option R := fun _ ds k => match ds with
  | [.v (.one (.ints .u32 5 x)), .v (.one (.ints .u32 5 y))] => bif okU x && (okU y && decide (numU x + numU y < 1461501637330902918203684832716283019655932542976)) then k [.v (.one (.ints .u32 5 (nuU (numU x + numU y))))] else none
  | _ => none
theorem add32_fit {l m : List Nat} (h : l.length = m.length) (hl : l.length = 5) (hv : valB 4294967296 l + valB 4294967296 m < 1461501637330902918203684832716283019655932542976) : nats (add32 l m 0).1 = nuU (valB 4294967296 l + valB 4294967296 m) := by
  obtain ⟨h1, h2, h3⟩ := add32_spec l m 0 h
  have e : (add32 l m 0).2 = 0 := by
    cases hc : (add32 l m 0).2 with
    | zero => rfl
    | succ c =>
      rw [hc, hl, Nat.mul_succ] at h3
      have : 4294967296 ^ 5 = 1461501637330902918203684832716283019655932542976 := by decide
      omega
  rw [e, Nat.mul_zero, Nat.add_zero, Nat.add_zero] at h3
  rw [nats_nuU (by rw [h1, hl]) h2, h3]
theorem c66 : Contract Try.prog 66 { sig := S66, impl := I66 } := by
  refine Contract.refine fun R ds k r h => ⟨_, f66_contract 6 ctxOk_nil, ?_⟩
  unfold I66 at h
  split at h
  · rename_i x y
    rcases hc : okU x && (okU y && decide (numU x + numU y < 1461501637330902918203684832716283019655932542976)) with _ | _
    · rw [hc] at h; cases h
    · rw [hc, cond_true] at h
      rw [Bool.and_eq_true, Bool.and_eq_true, decide_eq_true_eq] at hc
      rw [f66_raw_eq]
      obtain ⟨l, rfl, hl, hb⟩ := okU_of hc.1
      obtain ⟨m, rfl, hm, hbm⟩ := okU_of hc.2.1
      have hv := hc.2.2
      rw [numU_nats, numU_nats] at h hv
      rw [← h, ← add32_fit (by omega) hl hv]
      exact f66_in 6 (fun w0_1 w0_2 w0_3 w0_4 w0_5 w0_6 => k [DV.v (SV.one (At.ints IntKind.u32 5 w0_4))]) (List.replicate 5 0) hm hbm l [] 0 (by simpa using hl) hb (by decide) 6 (by omega)
  · cases h

theorem f121_in {R : Type} (N : Nat) (k1 : Bool → Int → Int → List Int → List Int → List Int → Option R) (z : List Int) {q : List Nat} (hq : q.length = 5) (hqd : ∀ x ∈ q, x < 4294967296) :
    ∀ (B A : List Nat) (b : Nat), A.length + B.length = 5 → (∀ x ∈ B, x < 4294967296) → b ≤ 1 → ∀ fuel, B.length < fuel →
      f121_0_lp N k1 fuel (b : Int) (A.length : Int) (nats (A ++ B)) (nats q) z = k1 false ((sub32 B (q.drop A.length) b).2 : Int) 5 (nats (A ++ (sub32 B (q.drop A.length) b).1)) (nats q) z := by
  intro B
  induction B with
  | nil =>
    intro A b hA _ hb fuel hf
    obtain ⟨f, rfl⟩ : ∃ f, fuel = f + 1 := ⟨fuel - 1, by omega⟩
    have hl : A.length = 5 := by simpa using hA
    show f121_0_st N (f121_0_lp N k1 f) k1 _ _ _ _ _ = _
    unfold f121_0_st
    rw [hl]
    rfl
  | cons x B ih =>
    intro A b hA hB hb fuel hf
    obtain ⟨f, rfl⟩ : ∃ f, fuel = f + 1 := ⟨fuel - 1, by omega⟩
    rw [List.length_cons] at hA hf
    have hi : A.length < 5 := by omega
    have hx := hB x (.head _)
    have hy := getU_lt hqd A.length
    show f121_0_st N (f121_0_lp N k1 f) k1 _ _ _ _ _ = _
    unfold f121_0_st
    rw [decide_eq_true (show (A.length : Int) < 5 by omega), decide_eq_true (show 0 ≤ (A.length : Int) by omega), cond_true, Bool.and_self, cond_true, cond_true, cond_true]
    dsimp only
    rw [ngetD, show (nats q).getD (mulE (Int.toNat (A.length : Int)) 1) 0 = ((q.getD A.length 0 : Nat) : Int) from nats_getD q _, drop_split (q := q) (i := A.length) (by omega)]
    generalize q.getD A.length 0 = y at hy
    rw [w64 (n := x) (by omega), w64 (n := y) (by omega)]
    have hd : IntKind.u64.wrap (IntKind.u64.wrap ((x : Int) - (y : Int)) - (b : Int)) = ((subD x y b : Nat) : Int) := by
      rw [subD_def]
      have m1 : ∀ z : Int, IntKind.u64.wrap z = z % 18446744073709551616 := fun z => by
        unfold IntKind.wrap
        simp only [IntKind.bits, IntKind.signed, Bool.false_and]
        rfl
      rw [m1, m1]
      omega
    rw [hd]
    obtain ⟨d1, d2⟩ := subD_spec hx hy hb
    simp only [sub32]
    generalize subD x y b = v at d1 d2
    rw [show (63 : Int) = ((63 : Nat) : Int) from rfl, shrN (k := .u64) (m := 63) (by decide), wm32, show (2 : Nat) ^ 63 = 9223372036854775808 from by decide, nset, show (A.length : Int) + 1 = ((A.length + 1 : Nat) : Int) from rfl, wi64 (n := A.length + 1) (by omega)]
    have := ih (A ++ [v % 4294967296]) (v / 9223372036854775808) (by rw [app_len]; omega) (fun y hy => hB y (.tail _ hy)) d1 f (by omega)
    rw [app_len, ← app_cons, ← app_cons] at this
    exact this
noncomputable def I121 : (R : Type) → List DV → (List DV → Option R) → Option R := fun _ ds k => match ds with
  | [.v (.one (.ints .u32 5 x)), .v (.one (.ints .u32 5 y))] => bif okU x && (okU y && decide (numU y ≤ numU x)) then k [.v (.one (.ints .u32 5 (nuU (numU x - numU y))))] else none
  | _ => none
theorem c121 : Contract Try.prog 121 { sig := S121, impl := I121 } := by
  refine Contract.refine fun R ds k r h => ⟨_, f121_contract 6 ctxOk_nil, ?_⟩
  unfold I121 at h
  split at h
  · rename_i x y
    rcases hc : okU x && (okU y && decide (numU y ≤ numU x)) with _ | _
    · rw [hc] at h; cases h
    · rw [hc, cond_true] at h
      rw [Bool.and_eq_true, Bool.and_eq_true, decide_eq_true_eq] at hc
      rw [f121_raw_eq]
      obtain ⟨l, rfl, hl, hb⟩ := okU_of hc.1
      obtain ⟨m, rfl, hm, hbm⟩ := okU_of hc.2.1
      have hv := hc.2.2
      rw [numU_nats, numU_nats] at h hv
      obtain ⟨g1, g2, g3⟩ := sub32_fit (l := l) (m := m) (by omega) hb hbm hv
      rw [← h, ← g3, ← nats_nuU (by omega) g2]
      exact f121_in 6 (fun w0_1 w0_2 w0_3 w0_4 w0_5 w0_6 => k [DV.v (SV.one (At.ints IntKind.u32 5 w0_4))]) (List.replicate 5 0) hm hbm l [] 0 (by simpa using hl) hb (by decide) 6 (by omega)
  · cases h
end Go.Proofs.Ytiaddnmloonhgaa

/- The document's number of some bytes. -/
namespace Go.Proofs.Ytiaddnmloonhgaa
open Go Go.Eng
set_option maxRecDepth 100000
set_option linter.unusedVariables false

theorem digs4 : ∀ (m n i x : Nat), n < 256 ^ i → i < 4 * m → x < 256 →
    digs 4294967296 m (n + x * 256 ^ i) = (digs 4294967296 m n).set (i / 4) ((digs 4294967296 m n).getD (i / 4) 0 + x * 256 ^ (i % 4)) ∧ (digs 4294967296 m n).getD (i / 4) 0 < 256 ^ (i % 4)
  | 0, _, _, _, _, h, _ => by omega
  | m + 1, n, i, x, hn, hi, hx => by
    by_cases h4 : i < 4
    · have hp : n + x * 256 ^ i < 4294967296 ∧ n < 4294967296 := by
        have h3 : i = 0 ∨ i = 1 ∨ i = 2 ∨ i = 3 := by omega
        rcases h3 with rfl | rfl | rfl | rfl <;> simp only [Nat.pow_zero, Nat.pow_one, show (256 : Nat) ^ 2 = 65536 from rfl, show (256 : Nat) ^ 3 = 16777216 from by decide +kernel] at * <;> omega
      rw [show i / 4 = 0 by omega, show i % 4 = i by omega]
      simp only [digs, List.set_cons_zero, List.getD_cons_zero]
      rw [Nat.mod_eq_of_lt hp.1, Nat.div_eq_of_lt hp.1, Nat.mod_eq_of_lt hp.2, Nat.div_eq_of_lt hp.2]
      exact ⟨rfl, hn⟩
    · obtain ⟨j, rfl⟩ : ∃ j, i = j + 4 := ⟨i - 4, by omega⟩
      have hW : (256 : Nat) ^ (j + 4) = 256 ^ j * 4294967296 := by rw [Nat.pow_add, show (256 : Nat) ^ 4 = 4294967296 from by decide +kernel]
      have e : x * 256 ^ (j + 4) = x * 256 ^ j * 4294967296 := by rw [hW, Nat.mul_assoc]
      rw [show (j + 4) / 4 = j / 4 + 1 by omega, show (j + 4) % 4 = j % 4 by omega]
      simp only [digs, List.set_cons_succ, List.getD_cons_succ]
      rw [e, Nat.add_mul_mod_self_right, Nat.add_mul_div_right _ _ (by decide)]
      have hd : n / 4294967296 < 256 ^ j := Nat.div_lt_of_lt_mul (by rw [Nat.mul_comm, ← hW]; exact hn)
      obtain ⟨h1, h2⟩ := digs4 m (n / 4294967296) j x hd (by omega) hx
      rw [h1]
      exact ⟨rfl, h2⟩
theorem take_valY (l : List Nat) {i : Nat} (h : i < l.length) : valB 256 (l.take (i + 1)) = valB 256 (l.take i) + l.getD i 0 * 256 ^ i := by
  rw [List.take_add_one, List.getElem?_eq_getElem h, Option.toList_some, valB_append, List.length_take, Nat.min_eq_left (by omega), List.getD_eq_getElem?_getD, List.getElem?_eq_getElem h, Option.getD_some]
  simp only [valB, Nat.mul_zero, Nat.add_zero]
  rw [Nat.mul_comm]
theorem pow256 (j : Nat) : (256 : Nat) ^ j = 2 ^ (8 * j) := by rw [Nat.pow_mul]

theorem f64_in {R : Type} (N : Nat) (k1 : Bool → Int → List Int → List Int → List Int → Option R) (z : List Int) {l : List Nat} (hl : l.length ≤ 20) (hb : ∀ x ∈ l, x < 256) :
    ∀ j i : Nat, i + j = l.length → ∀ fuel, j < fuel → f64_0_lp N k1 fuel (i : Int) (nats l) z (nats (digs 4294967296 5 (valB 256 (l.take i)))) = k1 false (l.length : Int) (nats l) z (nats (digs 4294967296 5 (valB 256 l))) := by
  intro j
  induction j with
  | zero =>
    intro i hi fuel hf
    obtain ⟨f, rfl⟩ : ∃ f, fuel = f + 1 := ⟨fuel - 1, by omega⟩
    have : i = l.length := by omega
    subst this
    show f64_0_st N (f64_0_lp N k1 f) k1 _ _ _ _ = _
    unfold f64_0_st
    rw [show nI (rowLen 1 (nats l)) = (l.length : Int) from by show (((nats l).length : Nat) : Int) = _; rw [nats_length], decide_eq_false (by omega), cond_false, List.take_length]
  | succ j ih =>
    intro i hi fuel hf
    obtain ⟨f, rfl⟩ : ∃ f, fuel = f + 1 := ⟨fuel - 1, by omega⟩
    have hlen : i < l.length := by omega
    have hx : l.getD i 0 < 256 := by
      rw [List.getD_eq_getElem?_getD, List.getElem?_eq_getElem hlen]; exact hb _ (List.getElem_mem _)
    show f64_0_st N (f64_0_lp N k1 f) k1 _ _ _ _ = _
    unfold f64_0_st
    have e1 : IntKind.i64.wrap ((i : Int).tdiv 4) = ((i / 4 : Nat) : Int) := by rw [show (i : Int).tdiv 4 = ((i / 4 : Nat) : Int) from rfl]; exact wi64 (by omega)
    have e2 : IntKind.i64.wrap (8 * (i : Int).tmod 4) = ((8 * (i % 4) : Nat) : Int) := by
      rw [show (i : Int).tmod 4 = ((i % 4 : Nat) : Int) from rfl, show (8 : Int) * ((i % 4 : Nat) : Int) = ((8 * (i % 4) : Nat) : Int) by omega]; exact wi64 (by omega)
    have e3 : IntKind.u64.wrap ((8 * (i % 4) : Nat) : Int) = ((8 * (i % 4) : Nat) : Int) := w64 (by omega)
    have e4 : IntKind.i64.wrap ((i : Int) + 1) = ((i + 1 : Nat) : Int) := by
      rw [show (i : Int) + 1 = ((i + 1 : Nat) : Int) by omega]; exact wi64 (by omega)
    rw [show nI (rowLen 1 (nats l)) = (l.length : Int) from by show (((nats l).length : Nat) : Int) = _; rw [nats_length]]
    dsimp only
    rw [e1, e2, e3, e4, decide_eq_true (show (i : Int) < (l.length : Int) by omega), decide_eq_true (show 0 ≤ ((i / 4 : Nat) : Int) by omega), decide_eq_true (show ((i / 4 : Nat) : Int) < 5 by omega), decide_eq_true (show 0 ≤ (i : Int) by omega), decide_eq_true (show 0 ≤ ((8 * (i % 4) : Nat) : Int) by omega)]
    simp only [Bool.and_self, cond_true]
    rw [show (nats l).getD (mulE (Int.toNat (i : Int)) 1) 0 = ((l.getD i 0 : Nat) : Int) from nats_getD l i, w32 (n := l.getD i 0) (by omega)]
    rw [show mulE (Int.toNat ((i / 4 : Nat) : Int)) 1 = i / 4 from rfl, nats_getD, shlN (k := .u32) rfl (m := 8 * (i % 4)) (show _ ≤ 32 by omega)]
    have htl : valB 256 (l.take i) < 256 ^ i := by
      have := valB_lt (b := 256) (by decide) (l := l.take i) fun x hx => hb x (List.mem_of_mem_take hx)
      rwa [List.length_take, Nat.min_eq_left (by omega)] at this
    obtain ⟨g1, g2⟩ := digs4 5 (valB 256 (l.take i)) i (l.getD i 0) htl (by omega) hx
    have hnext := ih (i + 1) (by omega) f (by omega)
    rw [take_valY l hlen, g1] at hnext
    have hsh : l.getD i 0 * 2 ^ (8 * (i % 4)) % 2 ^ IntKind.u32.bits = l.getD i 0 * 2 ^ (8 * (i % 4)) := by
      rw [bits32]
      have h3 : i % 4 = 0 ∨ i % 4 = 1 ∨ i % 4 = 2 ∨ i % 4 = 3 := by omega
      refine Nat.mod_eq_of_lt ?_
      have hle : 2 ^ (8 * (i % 4)) ≤ 16777216 := by
        have : 2 ^ (8 * (i % 4)) ≤ 2 ^ 24 := Nat.pow_le_pow_right (by decide) (by omega)
        rwa [p24] at this
      calc l.getD i 0 * 2 ^ (8 * (i % 4)) ≤ 255 * 16777216 := Nat.mul_le_mul (by omega) hle
        _ < 4294967296 := by decide +kernel
    rw [hsh]
    generalize hg : (digs 4294967296 5 (valB 256 (l.take i))).getD (i / 4) 0 = g at *
    have hgl : g < 4294967296 := by
      have hle : 256 ^ (i % 4) ≤ 4294967296 := by
        have : (256 : Nat) ^ (i % 4) ≤ 256 ^ 4 := Nat.pow_le_pow_right (by decide) (by omega)
        rwa [show (256 : Nat) ^ 4 = 4294967296 from by decide +kernel] at this
      omega
    have hsl : l.getD i 0 * 2 ^ (8 * (i % 4)) < 4294967296 := by
      rw [bits32] at hsh
      rw [← hsh]; exact Nat.mod_lt _ (by decide)
    rw [orN (k := .u32) rfl (show _ < 2 ^ 32 from hgl) (show _ < 2 ^ 32 from hsl), or_addN' (by rw [← pow256]; exact g2), ← pow256, nats_set]
    exact hnext
def numY (x : List Int) : Nat := valB 256 (x.map Int.toNat)
theorem numY_nats (l : List Nat) : numY (nats l) = valB 256 l := by unfold numY; rw [nats_toNat5]
def okY (n : Nat) (x : List Int) : Bool := Nat.ble x.length n && x.all fun b => decide (0 ≤ b) && decide (b < 256)
theorem okY_of {n : Nat} {x : List Int} (h : okY n x = true) : ∃ l : List Nat, x = nats l ∧ l.length ≤ n ∧ ∀ b ∈ l, b < 256 := by
  unfold okY at h
  rw [Bool.and_eq_true, List.all_eq_true] at h
  obtain ⟨h1, h2⟩ := h
  have h3 : ∀ b ∈ x, 0 ≤ b ∧ b < 256 := fun b hb => by
    have := h2 b hb
    rw [Bool.and_eq_true] at this
    exact ⟨of_decide_eq_true this.1, of_decide_eq_true this.2⟩
  obtain ⟨l, rfl⟩ := nats_of (xs := x) fun b hb => (h3 b hb).1
  exact ⟨l, rfl, by rw [← nats_length]; exact Nat.le_of_ble_eq_true h1, fun b hb => Int.ofNat_lt.mp (h3 b (List.mem_map.mpr ⟨b, hb, rfl⟩)).2⟩
theorem okY_mk {n : Nat} {x : List Int} (hl : x.length ≤ n) (h : Bytes x) : okY n x = true := by
  unfold okY
  rw [show Nat.ble x.length n = true from Nat.ble_eq_true_of_le hl, Bool.true_and, List.all_eq_true]
  intro b hb
  rw [Bool.and_eq_true]
  exact ⟨decide_eq_true (h b hb).1, decide_eq_true (h b hb).2⟩
noncomputable def I64 : (R : Type) → List DV → (List DV → Option R) → Option R := fun _ ds k => match ds with
  | [.lst (.one .u8) 1 e] => bif okY 20 e then k [.v (.one (.ints .u32 5 (nuU (numY e))))] else none
  | _ => none
theorem c64 : Contract Try.prog 64 { sig := S64, impl := I64 } := by
  refine Contract.refine fun R ds k r h => ?_
  unfold I64 at h
  split at h
  · rename_i e
    refine ⟨_, f64_contract 21 ctxOk_nil, ?_⟩
    rcases hc : okY 20 e with _ | _
    · rw [hc] at h; cases h
    · rw [hc, cond_true] at h
      rw [f64_raw_eq]
      obtain ⟨l, rfl, hl, hb⟩ := okY_of hc
      rw [numY_nats, nuU_def] at h
      rw [← h]
      have := f64_in 21 (fun w0_1 w0_2 w0_3 w0_4 w0_5 => k [DV.v (SV.one (At.ints IntKind.u32 5 w0_5))]) (List.replicate 5 0) hl hb l.length 0 (by omega) 21 (by omega)
      rw [List.take_zero, show valB 256 ([] : List Nat) = 0 from rfl, show nats (digs 4294967296 5 0) = List.replicate 5 0 from by decide] at this
      exact this
  · exact (Option.some_ne_none _ h.symm).elim
noncomputable def Q95 : Ctx := (119, { sig := S119, impl := I119 }) :: (120, { sig := S120, impl := I120 }) :: (121, { sig := S121, impl := I121 }) :: []
theorem Q95_ok : CtxOk Try.prog Q95 := ctxOk_cons ok119 rfl c119 (ctxOk_cons ok120 rfl c120 (ctxOk_cons ok121 rfl c121 ctxOk_nil))
end Go.Proofs.Ytiaddnmloonhgaa

/- What the rows of further laws need: bytes in bulk. -/
namespace Go.Proofs.Ytiaddnmloonhgaa
open Go Go.Eng Go.ChangeShapes Go.WideShapes Go.RowKit
set_option maxRecDepth 100000
theorem okY_row {x : List Int} (hl : x.length ≤ 1048576) (hw : ∀ y ∈ x, (Lit.int .u8 y).wf = true) : okY lim x = true := okY_mk (by unfold lim; omega) fun b hb => wf_u8 (hw b hb)
end Go.Proofs.Ytiaddnmloonhgaa

/- What rows share: slices that are handed in in a slice. -/
namespace Go.Eng
open Go Go.ChangeShapes Go.WideShapes Go.RowKit

section
variable {P : Program} {H : Type} {enc : TypeId × Value → H}

theorem choose_list {α : Type} {n : Nat} {Q : Nat → α → Prop} (h : ∀ i, i < n → ∃ x, Q i x) : ∃ l : List α, l.length = n ∧ ∀ i x, l[i]? = some x → Q i x := by
  induction n with
  | zero => exact ⟨[], rfl, fun i x hx => by simp at hx⟩
  | succ n ih =>
    obtain ⟨l, h1, h2⟩ := ih fun i hi => h i (by omega)
    obtain ⟨x, hx⟩ := h n (by omega)
    refine ⟨l ++ [x], by simp [h1], fun i y hy => ?_⟩
    by_cases hi : i < l.length
    · rw [List.getElem?_append_left hi] at hy; exact h2 i y hy
    · rw [List.getElem?_append_right (by omega)] at hy
      have : i - l.length = 0 := by
        have := (List.getElem?_eq_some_iff.1 hy).1
        simp at this; omega
      rw [this] at hy
      simp at hy; subst hy
      have : i = n := by omega
      subst this; exact hx

/-- one of the slices -/
structure RowOf (k : IntKind) (es : Nat) (w : World) (a : Addr) (i : Nat) (el : Option (DataW H)) (row : List Int) : Prop where
  ex : ∃ A m c pl, w.cell? (a.add i) = some (.slice A m c) ∧ row.length = m * es ∧ m ≤ c ∧ (0 < m → A = pl.map (adr · 0)) ∧ ViewAt (.one k) row pl w ∧ (∀ q, pl = some q → q.1 < w.heap.size) ∧
    ∃ d, el = some d ∧ ((d = .nil ∧ m = 0) ∨ ∃ elems spare, d = .slice elems spare ∧ elems.length = m)
  wf : ∀ y ∈ row, (Lit.int k y).wf = true

/-- slices in a slice: what they hold -/
theorem open_dview {t e e2 : Nat} {k : IntKind} {es : Nat} (ht : P.underlying t = some (.slice e)) (he2 : P.underlying e = some (.slice e2)) (hc1 : P.cellsOf e = 1) (hpos : 0 < es) (he : IntEl H enc P e2 k es) {w : World} {base : Nat} {sp : Nat → Bool} {hd : Bool} {fuel : Nat} {cs : List Value} {x : DataW H × List MemPlace}
    (h : DataW.trod enc P w base sp hd fuel t cs = some x) :
    ∃ (rows : List (List Int)) (len c : Nat) (A : Option Addr) (loc : Option (Nat × Nat)), cs = [.slice A len c] ∧ len ≤ c ∧ rows.length = len ∧ (0 < len → A = loc.map (adr · 0)) ∧ (∀ p, loc = some p → p.1 < w.heap.size) ∧
      (∀ (i : Nat) (row : List Int), rows[i]? = some row → ∃ p A m c pl, loc = some p ∧ w.cell? (adr p i) = some (.slice A m c) ∧ row.length = m * es ∧ m ≤ c ∧ (0 < m → A = pl.map (adr · 0)) ∧ ViewAt (.one k) row pl w ∧ ∀ q, pl = some q → q.1 < w.heap.size) ∧
      (∀ row ∈ rows, ∀ y ∈ row, (Lit.int k y).wf = true) ∧
      ((x.1 = .nil ∧ len = 0) ∨ ∃ elems spare, x.1 = .slice elems spare ∧ elems.length = len ∧ ∀ (i : Nat) (row : List Int), rows[i]? = some row → ∃ d : DataW H, elems[i]? = some d ∧ ∃ m, row.length = m * es ∧ ((d = .nil ∧ m = 0) ∨ ∃ el sp, d = .slice el sp ∧ el.length = m)) := by
  rcases DataW.trod_slice ht h with ⟨rfl, rfl⟩ | ⟨a, len, cap, elems, rest, n, rfl, rfl, rfl, hb, hlc, hcm, hel, hget, _, _⟩
  · exact ⟨[], 0, 0, none, none, rfl, Nat.le_refl _, rfl, fun h => absurd h (by simp), (fun p hp => by cases hp), fun i row hr => by simp at hr, by simp, .inl ⟨rfl, rfl⟩⟩
  · rw [hc1] at hget
    have key : ∀ i, i < len → ∃ row, RowOf k es w a i ((elems.map (·.1))[i]?) row := by
      intro i hi
      have h1 := hget i hi
      rw [List.getElem?_eq_getElem (by omega), Option.bind_eq_some_iff] at h1
      obtain ⟨cs', h2, h3⟩ := h1
      obtain ⟨xs, m, c, A, pl, e1, e2, e3, e4, e5, e6, e7, e8⟩ := open_view he2 hpos he h3
      obtain ⟨_, g2⟩ := cells?_get h2
      have g := g2 0 (by omega)
      rw [e1, Nat.mul_one] at g
      have hz : (a.add i).add 0 = a.add i := by unfold Addr.add; simp
      rw [hz] at g
      refine ⟨xs, ⟨A, m, c, pl, g, e3, e2, fun hm => e5 (by rw [e3]; exact Nat.mul_pos hm hpos), e4, e6, (elems[i]'(by omega)).1, ?_, e8⟩, e7⟩
      rw [List.getElem?_map, List.getElem?_eq_getElem (by omega)]; rfl
    obtain ⟨rows, hr1, hr2⟩ := choose_list key
    have hspot : 0 < len → a.spot = none := fun hl => by
      obtain ⟨⟨A, m, c, pl, g, _⟩, _⟩ := hr2 0 (rows[0]'(by omega)) (List.getElem?_eq_getElem (by omega))
      simpa [Addr.add] using World.cell?_spot g
    refine ⟨rows, len, cap, some a, if 0 < len then some (a.block, a.off) else none, rfl, hlc, hr1, ?_, ?_, ?_, ?_, .inr ⟨elems.map (·.1), rest.map (·.1), rfl, by simpa using hel, ?_⟩⟩
    · intro hp
      rw [if_pos hp]
      have hs := hspot hp
      obtain ⟨b, off, spot⟩ := a
      simp only at hs; subst hs
      rfl
    · intro p hp
      split at hp
      · rename_i hpos'
        injection hp with hp; subst hp
        obtain ⟨⟨A, m, c, pl, g, _⟩, _⟩ := hr2 0 (rows[0]'(by omega)) (List.getElem?_eq_getElem (by omega))
        unfold World.cell? at g
        have e : (a.add 0).block = a.block := by simp [Addr.add]
        rw [e] at g
        cases hh : w.heap[a.block]? with
        | none => rw [hh] at g; cases g
        | some o => exact (Array.getElem?_eq_some_iff.1 hh).1
      · cases hp
    · intro i row hrow
      have hi : i < rows.length := (List.getElem?_eq_some_iff.1 hrow).1
      obtain ⟨⟨A, m, c, pl, g, g1, g2, g3, g4, g5, _⟩, _⟩ := hr2 i row hrow
      have hs := hspot (by omega)
      rw [if_pos (by omega)]
      refine ⟨_, A, m, c, pl, rfl, ?_, g1, g2, g3, g4, g5⟩
      obtain ⟨b, off, spot⟩ := a
      simp only at hs; subst hs
      rw [add_plain] at g
      exact g
    · intro row hrow y hy
      obtain ⟨i, hi⟩ := List.getElem?_of_mem hrow
      exact (hr2 i row hi).wf y hy
    · intro i row hrow
      obtain ⟨⟨A, m, c, pl, g, g1, g2, g3, g4, g5, d, g6, g7⟩, _⟩ := hr2 i row hrow
      exact ⟨d, g6, m, g1, g7⟩

theorem rel_ownD {ρ : Rho} {S : Sh} {m len c : Nat} {A : Option Addr} {rows : List (List Int)} {loc : Option (Nat × Nat)} {cs : List Value} (hS : S m = some (.dview rows.length)) (h1 : cs = [.slice A len c]) (h2 : len ≤ c) (h3 : rows.length = len) (h5 : 0 < len → A = loc.map (adr · 0)) (hloc : ρ.loc m = loc := by rfl) :
    RelAt ρ S (.own m) cs := by
  simp only [RelAt, hS]
  rw [h3, hloc]
  exact ⟨A, c, h1, h2, h5⟩
end
end Go.Eng

/- What the rows of laws over slices of slices need. -/
namespace Go.Proofs.Ytiaddnmloonhgaa
open Go Go.Eng Go.ChangeShapes Go.WideShapes Go.RowKit
set_option maxRecDepth 100000
theorem bulk_mem {H : Type} : ∀ {l : List (DataW H)} {i : Nat} {d : DataW H}, l[i]? = some d → Rows.uptoBulk d ≤ Rows.uptoBulkAll l
  | [], _, _, h => by simp at h
  | x :: l, 0, d, h => by
    simp at h; subst h
    simp only [Rows.uptoBulkAll]; omega
  | x :: l, i + 1, d, h => by
    have := bulk_mem (l := l) (i := i) (d := d) (by simpa using h)
    simp only [Rows.uptoBulkAll]; omega
theorem bulk_rows {H : Type} {d : DataW H} {len : Nat} {rows : List (List Int)} (hl : rows.length = len)
    (h : (d = .nil ∧ len = 0) ∨ ∃ elems spare, d = .slice elems spare ∧ elems.length = len ∧ ∀ (i : Nat) (row : List Int), rows[i]? = some row → ∃ d' : DataW H, elems[i]? = some d' ∧ ∃ m, row.length = m * 1 ∧ ((d' = .nil ∧ m = 0) ∨ ∃ el sp, d' = .slice el sp ∧ el.length = m)) :
    rows.length ≤ Rows.uptoBulk d ∧ ∀ row ∈ rows, row.length ≤ Rows.uptoBulk d := by
  rcases h with ⟨rfl, h0⟩ | ⟨elems, spare, rfl, he, hr⟩
  · have : rows = [] := List.eq_nil_of_length_eq_zero (by omega)
    subst this
    exact ⟨Nat.zero_le _, fun row h => by cases h⟩
  · refine ⟨by rw [hl, ← he]; exact bulk_slice (d := .slice elems spare) (.inr ⟨elems, spare, rfl, rfl⟩), fun row hm => ?_⟩
    obtain ⟨i, hi⟩ := List.getElem?_of_mem hm
    obtain ⟨d', h1, m, h2, h3⟩ := hr i row hi
    have h4 : m ≤ Rows.uptoBulk d' := bulk_slice h3
    have h5 := bulk_mem h1
    have h6 : Rows.uptoBulkAll elems ≤ Rows.uptoBulk (.slice elems spare : DataW H) := by
      simp only [Rows.uptoBulk]; omega
    omega
end Go.Proofs.Ytiaddnmloonhgaa

/- What rime/rimeref12.eight comes to. MADE BY PROGRAM (wip/tools/mkfn.py, EngGen.lean). -/
namespace Go.Proofs.Ytiaddnmloonhgaa
open Go Go.Eng
set_option maxRecDepth 100000
set_option linter.unusedVariables false

noncomputable def f98_raw {R : Type} (N : Nat) (n : Int) (k : List DV → Option R) : Option R :=
 let v0 : Int := IntKind.u64.wrap n;
let v1 : Int := IntKind.i64.wrap (8 * 0);
let v2 : Int := IntKind.u64.wrap v1;
let v3 : Int := shrI IntKind.u64 v0 v2;
let v4 : Int := IntKind.u8.wrap v3;
let v5 : List Int := (zerosOf (1 * 1)).set 0 v4;
let v6 : List Int := [] ++ v5;
let v7 : Int := IntKind.i64.wrap (0 + 1);
let v8 : Int := IntKind.i64.wrap (8 * v7);
let v9 : Int := IntKind.u64.wrap v8;
let v10 : Int := shrI IntKind.u64 v0 v9;
let v11 : Int := IntKind.u8.wrap v10;
let v12 : List Int := (zerosOf (1 * 1)).set 0 v11;
let v13 : List Int := v6 ++ v12;
let v14 : Int := IntKind.i64.wrap (v7 + 1);
let v15 : Int := IntKind.i64.wrap (8 * v14);
let v16 : Int := IntKind.u64.wrap v15;
let v17 : Int := shrI IntKind.u64 v0 v16;
let v18 : Int := IntKind.u8.wrap v17;
let v19 : List Int := (zerosOf (1 * 1)).set 0 v18;
let v20 : List Int := v13 ++ v19;
let v21 : Int := IntKind.i64.wrap (v14 + 1);
let v22 : Int := IntKind.i64.wrap (8 * v21);
let v23 : Int := IntKind.u64.wrap v22;
let v24 : Int := shrI IntKind.u64 v0 v23;
let v25 : Int := IntKind.u8.wrap v24;
let v26 : List Int := (zerosOf (1 * 1)).set 0 v25;
let v27 : List Int := v20 ++ v26;
let v28 : Int := IntKind.i64.wrap (v21 + 1);
let v29 : Int := IntKind.i64.wrap (8 * v28);
let v30 : Int := IntKind.u64.wrap v29;
let v31 : Int := shrI IntKind.u64 v0 v30;
let v32 : Int := IntKind.u8.wrap v31;
let v33 : List Int := (zerosOf (1 * 1)).set 0 v32;
let v34 : List Int := v27 ++ v33;
let v35 : Int := IntKind.i64.wrap (v28 + 1);
let v36 : Int := IntKind.i64.wrap (8 * v35);
let v37 : Int := IntKind.u64.wrap v36;
let v38 : Int := shrI IntKind.u64 v0 v37;
let v39 : Int := IntKind.u8.wrap v38;
let v40 : List Int := (zerosOf (1 * 1)).set 0 v39;
let v41 : List Int := v34 ++ v40;
let v42 : Int := IntKind.i64.wrap (v35 + 1);
let v43 : Int := IntKind.i64.wrap (8 * v42);
let v44 : Int := IntKind.u64.wrap v43;
let v45 : Int := shrI IntKind.u64 v0 v44;
let v46 : Int := IntKind.u8.wrap v45;
let v47 : List Int := (zerosOf (1 * 1)).set 0 v46;
let v48 : List Int := v41 ++ v47;
let v49 : Int := IntKind.i64.wrap (v42 + 1);
let v50 : Int := IntKind.i64.wrap (8 * v49);
let v51 : Int := IntKind.u64.wrap v50;
let v52 : Int := shrI IntKind.u64 v0 v51;
let v53 : Int := IntKind.u8.wrap v52;
let v54 : List Int := (zerosOf (1 * 1)).set 0 v53;
let v55 : List Int := v48 ++ v54;
k [DV.lst (.one IntKind.u8) 1 v55]


noncomputable def E98 (N : Nat) : Env := { Θ := Th, Γ := [], K := K98, ν := N98, fuel := 60, lp := [] }


theorem f98_contract (N : Nat) (hΓ : CtxOk Try.prog []) : Contract Try.prog 98 { sig := S98, impl := fun _ ds k => call (E98 N) S98 20 B98 R98 ds k } :=
  call_contract (E := E98 N) thOk hΓ mixed ok98.look ok98.body ok98.n ok98.rv ok98.name rfl (by decide) (loopsOk_of (l := [(0, B98_0)]) (by kernel_rfl) (allOk_skip rfl trivial))
theorem f98_raw_eq {R : Type} (N : Nat) (n : Int) (k : List DV → Option R) : call (E98 N) S98 20 B98 R98 [.v (.one (.int .i64 n))] k = f98_raw N n k := by kernel_rfl
end Go.Proofs.Ytiaddnmloonhgaa

/- What rime/rimeref12.Numbered comes to. MADE BY PROGRAM (wip/tools/mkfn.py, EngGen.lean). -/
namespace Go.Proofs.Ytiaddnmloonhgaa
open Go Go.Eng
set_option maxRecDepth 100000
set_option linter.unusedVariables false

noncomputable def f70_raw {R : Type} (N : Nat) (n : Int) (k : List DV → Option R) : Option R :=
 let v0 : Int := IntKind.i64.wrap (4 + 0);
let v1 : Int := IntKind.i64.wrap (8 * 0);
let v2 : Int := IntKind.u64.wrap v1;
let v3 : Int := shrI IntKind.u64 n v2;
let v4 : Int := IntKind.u8.wrap v3;
let v5 : List Int := (List.replicate 12 0).set (mulE v0.toNat 1) v4;
let v6 : Int := IntKind.i64.wrap (0 + 1);
let v7 : Int := IntKind.i64.wrap (4 + v6);
let v8 : Int := IntKind.i64.wrap (8 * v6);
let v9 : Int := IntKind.u64.wrap v8;
let v10 : Int := shrI IntKind.u64 n v9;
let v11 : Int := IntKind.u8.wrap v10;
let v12 : List Int := v5.set (mulE v7.toNat 1) v11;
let v13 : Int := IntKind.i64.wrap (v6 + 1);
let v14 : Int := IntKind.i64.wrap (4 + v13);
let v15 : Int := IntKind.i64.wrap (8 * v13);
let v16 : Int := IntKind.u64.wrap v15;
let v17 : Int := shrI IntKind.u64 n v16;
let v18 : Int := IntKind.u8.wrap v17;
let v19 : List Int := v12.set (mulE v14.toNat 1) v18;
let v20 : Int := IntKind.i64.wrap (v13 + 1);
let v21 : Int := IntKind.i64.wrap (4 + v20);
let v22 : Int := IntKind.i64.wrap (8 * v20);
let v23 : Int := IntKind.u64.wrap v22;
let v24 : Int := shrI IntKind.u64 n v23;
let v25 : Int := IntKind.u8.wrap v24;
let v26 : List Int := v19.set (mulE v21.toNat 1) v25;
let v27 : Int := IntKind.i64.wrap (v20 + 1);
let v28 : Int := IntKind.i64.wrap (4 + v27);
let v29 : Int := IntKind.i64.wrap (8 * v27);
let v30 : Int := IntKind.u64.wrap v29;
let v31 : Int := shrI IntKind.u64 n v30;
let v32 : Int := IntKind.u8.wrap v31;
let v33 : List Int := v26.set (mulE v28.toNat 1) v32;
let v34 : Int := IntKind.i64.wrap (v27 + 1);
let v35 : Int := IntKind.i64.wrap (4 + v34);
let v36 : Int := IntKind.i64.wrap (8 * v34);
let v37 : Int := IntKind.u64.wrap v36;
let v38 : Int := shrI IntKind.u64 n v37;
let v39 : Int := IntKind.u8.wrap v38;
let v40 : List Int := v33.set (mulE v35.toNat 1) v39;
let v41 : Int := IntKind.i64.wrap (v34 + 1);
let v42 : Int := IntKind.i64.wrap (4 + v41);
let v43 : Int := IntKind.i64.wrap (8 * v41);
let v44 : Int := IntKind.u64.wrap v43;
let v45 : Int := shrI IntKind.u64 n v44;
let v46 : Int := IntKind.u8.wrap v45;
let v47 : List Int := v40.set (mulE v42.toNat 1) v46;
let v48 : Int := IntKind.i64.wrap (v41 + 1);
let v49 : Int := IntKind.i64.wrap (4 + v48);
let v50 : Int := IntKind.i64.wrap (8 * v48);
let v51 : Int := IntKind.u64.wrap v50;
let v52 : Int := shrI IntKind.u64 n v51;
let v53 : Int := IntKind.u8.wrap v52;
let v54 : List Int := v47.set (mulE v49.toNat 1) v53;
k [DV.v (SV.one (At.ints IntKind.u8 12 v54))]


noncomputable def E70 (N : Nat) : Env := { Θ := Th, Γ := [], K := K70, ν := N70, fuel := 60, lp := [] }


theorem f70_contract (N : Nat) (hΓ : CtxOk Try.prog []) : Contract Try.prog 70 { sig := S70, impl := fun _ ds k => call (E70 N) S70 19 B70 R70 ds k } :=
  call_contract (E := E70 N) thOk hΓ mixed ok70.look ok70.body ok70.n ok70.rv ok70.name rfl (by decide) (loopsOk_of (l := [(0, B70_0)]) (by kernel_rfl) (allOk_skip rfl trivial))
theorem f70_raw_eq {R : Type} (N : Nat) (n : Int) (k : List DV → Option R) : call (E70 N) S70 19 B70 R70 [.v (.one (.int .u64 n))] k = f70_raw N n k := by kernel_rfl
end Go.Proofs.Ytiaddnmloonhgaa

/- What rime/rimeref12.mod comes to. MADE BY PROGRAM (wip/tools/mkfn.py, EngGen.lean). -/
namespace Go.Proofs.Ytiaddnmloonhgaa
open Go Go.Eng
set_option maxRecDepth 100000
set_option linter.unusedVariables false

def f95_4_sh : Shp := { n := 55, lo := 1, slots := [(0, .one (.fix (At.own 0))), (2, .one (.fix (At.ptr 2 0 Off.z 5))), (3, .one (.fix (At.ptr 3 0 Off.z 5))), (4, .one (.fix (At.ptr 4 0 Off.z 5))), (5, .one (.int IntKind.i64)), (6, .one (.int IntKind.i64)), (7, .one (.int IntKind.u32)), (8, .one (.int IntKind.i64))], items := [(0, .view (.one IntKind.u32) 1), (2, .obj [.ints IntKind.u32 5]), (3, .obj [.ints IntKind.u32 5]), (4, .obj [.ints IntKind.u32 5])] }
def f95_4_ex1 : Shp := { n := 55, lo := 1, slots := [(31, .one (.bool)), (0, .one (.fix (At.own 0))), (2, .one (.fix (At.ptr 2 0 Off.z 5))), (3, .one (.fix (At.ptr 3 0 Off.z 5))), (4, .one (.fix (At.ptr 4 0 Off.z 5))), (5, .one (.int IntKind.i64)), (6, .one (.int IntKind.i64)), (7, .one (.int IntKind.u32)), (8, .one (.int IntKind.i64))], items := [(0, .view (.one IntKind.u32) 1), (2, .obj [.ints IntKind.u32 5]), (3, .obj [.ints IntKind.u32 5]), (4, .obj [.ints IntKind.u32 5])] }
noncomputable def f95_4_st {R : Type} (N : Nat) (self : Int → Int → Int → Int → List Int → List Int → List Int → List Int → Option R) (k1 : Bool → Int → Int → Int → Int → List Int → List Int → List Int → List Int → Option R) (x1 : Int) (x2 : Int) (x3 : Int) (x4 : Int) (x5 : List Int) (x6 : List Int) (x7 : List Int) (x8 : List Int) : Option R :=
 bif Decidable.decide (x4 < 5) then
 bif Decidable.decide (0 ≤ x4) && Decidable.decide (x4 < 5) then
 bif Decidable.decide (0 ≤ x4) && Decidable.decide (x4 < 5) then
 bif Decidable.decide (0 ≤ x4) && Decidable.decide (x4 < 5) then
 let v0 : Int := shrI IntKind.u32 (x7.getD (mulE x4.toNat 1) 0) 31;
 let v1 : Int := IntKind.i64.wrap (x4 + 1);
 let v2 : Int := shlI IntKind.u32 (x7.getD (mulE x4.toNat 1) 0) 1;
 let v3 : Int := orI IntKind.u32 v2 x3;
 let v4 : List Int := x7.set (mulE x4.toNat 1) v3;
 self x1 x2 v0 v1 x5 x6 v4 x8
 else Option.none
 else Option.none
 else Option.none
else k1 (Decidable.decide (x4 < 5)) x1 x2 x3 x4 x5 x6 x7 x8
noncomputable def f95_4_lp {R : Type} (N : Nat) (k1 : Bool → Int → Int → Int → Int → List Int → List Int → List Int → List Int → Option R) : Nat → Int → Int → Int → Int → List Int → List Int → List Int → List Int → Option R
 | 0, _, _, _, _, _, _, _, _ => none
 | n + 1, x1, x2, x3, x4, x5, x6, x7, x8 => f95_4_st N (f95_4_lp N k1 n) k1 x1 x2 x3 x4 x5 x6 x7 x8
noncomputable def f95_4_F (N : Nat) : (R : Type) → List Leaf → (X → AS → Option R) → Option R := fun _ ls K => match ls with
 | [.i x1, .i x2, .i x3, .i x4, .l x5, .l x6, .l x7, .l x8] => f95_4_lp N (fun y1 y2 y3 y4 y5 y6 y7 y8 y9 => K (X.normal) (fill f95_4_ex1 [.b y1, .i y2, .i y3, .i y4, .i y5, .l y6, .l y7, .l y8, .l y9])) N x1 x2 x3 x4 x5 x6 x7 x8
 | _ => none
def f95_2_sh : Shp := { n := 55, lo := 1, slots := [(0, .one (.fix (At.own 0))), (2, .one (.fix (At.ptr 2 0 Off.z 5))), (3, .one (.fix (At.ptr 3 0 Off.z 5))), (4, .one (.fix (At.ptr 4 0 Off.z 5))), (5, .one (.int IntKind.i64)), (6, .one (.int IntKind.i64))], items := [(0, .view (.one IntKind.u32) 1), (2, .obj [.ints IntKind.u32 5]), (3, .obj [.ints IntKind.u32 5]), (4, .obj [.ints IntKind.u32 5])] }
def f95_2_ex1 : Shp := { n := 55, lo := 1, slots := [(19, .one (.bool)), (0, .one (.fix (At.own 0))), (2, .one (.fix (At.ptr 2 0 Off.z 5))), (3, .one (.fix (At.ptr 3 0 Off.z 5))), (4, .one (.fix (At.ptr 4 0 Off.z 5))), (5, .one (.int IntKind.i64)), (6, .one (.int IntKind.i64))], items := [(0, .view (.one IntKind.u32) 1), (2, .obj [.ints IntKind.u32 5]), (3, .obj [.ints IntKind.u32 5]), (4, .obj [.ints IntKind.u32 5])] }
noncomputable def f95_2_st {R : Type} (N : Nat) (self : Int → Int → List Int → List Int → List Int → List Int → Option R) (k1 : Bool → Int → Int → List Int → List Int → List Int → List Int → Option R) (x1 : Int) (x2 : Int) (x3 : List Int) (x4 : List Int) (x5 : List Int) (x6 : List Int) : Option R :=
 bif Decidable.decide (x2 ≥ 0) then
 bif Decidable.decide (0 ≤ x1) && Decidable.decide (x1 < nI (rowLen 1 x3)) then
 let v0 : Int := IntKind.u64.wrap x2;
 bif Decidable.decide (0 ≤ v0) then
 let v1 : Int := shrI IntKind.u32 (x3.getD (mulE x1.toNat 1) 0) v0;
 let v2 : Int := andI IntKind.u32 v1 1;
 f95_4_lp N
 (fun w3_1 w3_2 w3_3 w3_4 w3_5 w3_6 w3_7 w3_8 w3_9 =>
 bif okU w3_8 && okU w3_9 then
 bif !Decidable.decide (numU w3_8 < numU w3_9) then
 bif okU w3_8 && (okU w3_9 && Decidable.decide (numU w3_9 ≤ numU w3_8)) then
 let v4 : Int := IntKind.i64.wrap (w3_3 - 1);
 self w3_2 v4 w3_6 w3_7 (nuU (numU w3_8 - numU w3_9)) w3_9
 else Option.none
 else
 let v5 : Int := IntKind.i64.wrap (w3_3 - 1);
 self w3_2 v5 w3_6 w3_7 w3_8 w3_9
 else Option.none)
 N x1 x2 v2 0 x3 x4 x5 x6
 else Option.none
 else Option.none
else k1 (Decidable.decide (x2 ≥ 0)) x1 x2 x3 x4 x5 x6
noncomputable def f95_2_lp {R : Type} (N : Nat) (k1 : Bool → Int → Int → List Int → List Int → List Int → List Int → Option R) : Nat → Int → Int → List Int → List Int → List Int → List Int → Option R
 | 0, _, _, _, _, _, _ => none
 | n + 1, x1, x2, x3, x4, x5, x6 => f95_2_st N (f95_2_lp N k1 n) k1 x1 x2 x3 x4 x5 x6
noncomputable def f95_2_F (N : Nat) : (R : Type) → List Leaf → (X → AS → Option R) → Option R := fun _ ls K => match ls with
 | [.i x1, .i x2, .l x3, .l x4, .l x5, .l x6] => f95_2_lp N (fun y1 y2 y3 y4 y5 y6 y7 => K (X.normal) (fill f95_2_ex1 [.b y1, .i y2, .i y3, .l y4, .l y5, .l y6, .l y7])) N x1 x2 x3 x4 x5 x6
 | _ => none
def f95_0_sh : Shp := { n := 55, lo := 1, slots := [(0, .one (.fix (At.own 0))), (2, .one (.fix (At.ptr 2 0 Off.z 5))), (3, .one (.fix (At.ptr 3 0 Off.z 5))), (4, .one (.fix (At.ptr 4 0 Off.z 5))), (5, .one (.int IntKind.i64))], items := [(0, .view (.one IntKind.u32) 1), (2, .obj [.ints IntKind.u32 5]), (3, .obj [.ints IntKind.u32 5]), (4, .obj [.ints IntKind.u32 5])] }
def f95_0_ex1 : Shp := { n := 55, lo := 1, slots := [(15, .one (.bool)), (0, .one (.fix (At.own 0))), (2, .one (.fix (At.ptr 2 0 Off.z 5))), (3, .one (.fix (At.ptr 3 0 Off.z 5))), (4, .one (.fix (At.ptr 4 0 Off.z 5))), (5, .one (.int IntKind.i64))], items := [(0, .view (.one IntKind.u32) 1), (2, .obj [.ints IntKind.u32 5]), (3, .obj [.ints IntKind.u32 5]), (4, .obj [.ints IntKind.u32 5])] }
noncomputable def f95_0_st {R : Type} (N : Nat) (self : Int → List Int → List Int → List Int → List Int → Option R) (k1 : Bool → Int → List Int → List Int → List Int → List Int → Option R) (x1 : Int) (x2 : List Int) (x3 : List Int) (x4 : List Int) (x5 : List Int) : Option R :=
 bif Decidable.decide (x1 ≥ 0) then
 f95_2_lp N
 (fun w0_1 w0_2 w0_3 w0_4 w0_5 w0_6 w0_7 =>
 let v1 : Int := IntKind.i64.wrap (w0_2 - 1);
 self v1 w0_4 w0_5 w0_6 w0_7)
 N x1 31 x2 x3 x4 x5
else k1 (Decidable.decide (x1 ≥ 0)) x1 x2 x3 x4 x5
noncomputable def f95_0_lp {R : Type} (N : Nat) (k1 : Bool → Int → List Int → List Int → List Int → List Int → Option R) : Nat → Int → List Int → List Int → List Int → List Int → Option R
 | 0, _, _, _, _, _ => none
 | n + 1, x1, x2, x3, x4, x5 => f95_0_st N (f95_0_lp N k1 n) k1 x1 x2 x3 x4 x5
noncomputable def f95_0_F (N : Nat) : (R : Type) → List Leaf → (X → AS → Option R) → Option R := fun _ ls K => match ls with
 | [.i x1, .l x2, .l x3, .l x4, .l x5] => f95_0_lp N (fun y1 y2 y3 y4 y5 y6 => K (X.normal) (fill f95_0_ex1 [.b y1, .i y2, .l y3, .l y4, .l y5, .l y6])) N x1 x2 x3 x4 x5
 | _ => none
noncomputable def f95_raw {R : Type} (N : Nat) (l : List Int) (k : List DV → Option R) : Option R :=
 let v0 : Int := IntKind.i64.wrap (nI (rowLen 1 l) - 1);
f95_0_lp N (fun w1_1 w1_2 w1_3 w1_4 w1_5 w1_6 => k [DV.v (SV.one (At.ints IntKind.u32 5 w1_5))]) N v0 l (List.replicate 5 0) (List.replicate 5 0) (nuU p1305)


noncomputable def E95 (N : Nat) : Env := { Θ := Th, Γ := Q95, K := K95, ν := N95, fuel := 0, lp := [(0, mkL N95_0 f95_0_sh (f95_0_F N)), (2, mkL N95_2 f95_2_sh (f95_2_F N)), (4, mkL N95_4 f95_4_sh (f95_4_F N))] }

theorem f95_4_st_eq {R : Type} (N : Nat) (K : X → AS → Option R) (n : Nat) (x1 : Int) (x2 : Int) (x3 : Int) (x4 : Int) (x5 : List Int) (x6 : List Int) (x7 : List Int) (x8 : List Int) : roundsOf (E95 N) N95_4 4 B95_4 K (n + 1) (fill f95_4_sh [.i x1, .i x2, .i x3, .i x4, .l x5, .l x6, .l x7, .l x8]) = f95_4_st N (fun x1 x2 x3 x4 x5 x6 x7 x8 => roundsOf (E95 N) N95_4 4 B95_4 K n (fill f95_4_sh [.i x1, .i x2, .i x3, .i x4, .l x5, .l x6, .l x7, .l x8])) (fun y1 y2 y3 y4 y5 y6 y7 y8 y9 => K (X.normal) (fill f95_4_ex1 [.b y1, .i y2, .i y3, .i y4, .i y5, .l y6, .l y7, .l y8, .l y9])) x1 x2 x3 x4 x5 x6 x7 x8 := by kernel_rfl
theorem f95_4_lp_eq {R : Type} (N : Nat) (K : X → AS → Option R) : ∀ (n : Nat) (x1 : Int) (x2 : Int) (x3 : Int) (x4 : Int) (x5 : List Int) (x6 : List Int) (x7 : List Int) (x8 : List Int), roundsOf (E95 N) N95_4 4 B95_4 K n (fill f95_4_sh [.i x1, .i x2, .i x3, .i x4, .l x5, .l x6, .l x7, .l x8]) = f95_4_lp N (fun y1 y2 y3 y4 y5 y6 y7 y8 y9 => K (X.normal) (fill f95_4_ex1 [.b y1, .i y2, .i y3, .i y4, .i y5, .l y6, .l y7, .l y8, .l y9])) n x1 x2 x3 x4 x5 x6 x7 x8
  | 0, _, _, _, _, _, _, _, _ => rfl
  | n + 1, x1, x2, x3, x4, x5, x6, x7, x8 => by
    rw [f95_4_st_eq, f95_4_lp, show (fun x1 x2 x3 x4 x5 x6 x7 x8 => roundsOf (E95 N) N95_4 4 B95_4 K n (fill f95_4_sh [.i x1, .i x2, .i x3, .i x4, .l x5, .l x6, .l x7, .l x8])) = f95_4_lp N (fun y1 y2 y3 y4 y5 y6 y7 y8 y9 => K (X.normal) (fill f95_4_ex1 [.b y1, .i y2, .i y3, .i y4, .i y5, .l y6, .l y7, .l y8, .l y9])) n from by funext x1 x2 x3 x4 x5 x6 x7 x8; exact f95_4_lp_eq N K n x1 x2 x3 x4 x5 x6 x7 x8]
theorem f95_4_ok (N : Nat) (hlp : LoopsOk Try.prog (E95 N).lp B95_4) (hΓ : CtxOk Try.prog (E95 N).Γ) : LoopOk Try.prog (mkL N95_4 f95_4_sh (f95_4_F N)) 4 B95_4 := by
  refine loopOk_of (E := E95 N) thOk hΓ mixed hlp ?_
  intro R ls K r h
  unfold f95_4_F at h
  split at h
  · exact ⟨N, by rw [f95_4_lp_eq]; exact h⟩
  · cases h
theorem f95_2_st_eq {R : Type} (N : Nat) (K : X → AS → Option R) (n : Nat) (x1 : Int) (x2 : Int) (x3 : List Int) (x4 : List Int) (x5 : List Int) (x6 : List Int) : roundsOf (E95 N) N95_2 2 B95_2 K (n + 1) (fill f95_2_sh [.i x1, .i x2, .l x3, .l x4, .l x5, .l x6]) = f95_2_st N (fun x1 x2 x3 x4 x5 x6 => roundsOf (E95 N) N95_2 2 B95_2 K n (fill f95_2_sh [.i x1, .i x2, .l x3, .l x4, .l x5, .l x6])) (fun y1 y2 y3 y4 y5 y6 y7 => K (X.normal) (fill f95_2_ex1 [.b y1, .i y2, .i y3, .l y4, .l y5, .l y6, .l y7])) x1 x2 x3 x4 x5 x6 := by kernel_rfl
theorem f95_2_lp_eq {R : Type} (N : Nat) (K : X → AS → Option R) : ∀ (n : Nat) (x1 : Int) (x2 : Int) (x3 : List Int) (x4 : List Int) (x5 : List Int) (x6 : List Int), roundsOf (E95 N) N95_2 2 B95_2 K n (fill f95_2_sh [.i x1, .i x2, .l x3, .l x4, .l x5, .l x6]) = f95_2_lp N (fun y1 y2 y3 y4 y5 y6 y7 => K (X.normal) (fill f95_2_ex1 [.b y1, .i y2, .i y3, .l y4, .l y5, .l y6, .l y7])) n x1 x2 x3 x4 x5 x6
  | 0, _, _, _, _, _, _ => rfl
  | n + 1, x1, x2, x3, x4, x5, x6 => by
    rw [f95_2_st_eq, f95_2_lp, show (fun x1 x2 x3 x4 x5 x6 => roundsOf (E95 N) N95_2 2 B95_2 K n (fill f95_2_sh [.i x1, .i x2, .l x3, .l x4, .l x5, .l x6])) = f95_2_lp N (fun y1 y2 y3 y4 y5 y6 y7 => K (X.normal) (fill f95_2_ex1 [.b y1, .i y2, .i y3, .l y4, .l y5, .l y6, .l y7])) n from by funext x1 x2 x3 x4 x5 x6; exact f95_2_lp_eq N K n x1 x2 x3 x4 x5 x6]
theorem f95_2_ok (N : Nat) (hlp : LoopsOk Try.prog (E95 N).lp B95_2) (hΓ : CtxOk Try.prog (E95 N).Γ) : LoopOk Try.prog (mkL N95_2 f95_2_sh (f95_2_F N)) 2 B95_2 := by
  refine loopOk_of (E := E95 N) thOk hΓ mixed hlp ?_
  intro R ls K r h
  unfold f95_2_F at h
  split at h
  · exact ⟨N, by rw [f95_2_lp_eq]; exact h⟩
  · cases h
theorem f95_0_st_eq {R : Type} (N : Nat) (K : X → AS → Option R) (n : Nat) (x1 : Int) (x2 : List Int) (x3 : List Int) (x4 : List Int) (x5 : List Int) : roundsOf (E95 N) N95_0 0 B95_0 K (n + 1) (fill f95_0_sh [.i x1, .l x2, .l x3, .l x4, .l x5]) = f95_0_st N (fun x1 x2 x3 x4 x5 => roundsOf (E95 N) N95_0 0 B95_0 K n (fill f95_0_sh [.i x1, .l x2, .l x3, .l x4, .l x5])) (fun y1 y2 y3 y4 y5 y6 => K (X.normal) (fill f95_0_ex1 [.b y1, .i y2, .l y3, .l y4, .l y5, .l y6])) x1 x2 x3 x4 x5 := by kernel_rfl
theorem f95_0_lp_eq {R : Type} (N : Nat) (K : X → AS → Option R) : ∀ (n : Nat) (x1 : Int) (x2 : List Int) (x3 : List Int) (x4 : List Int) (x5 : List Int), roundsOf (E95 N) N95_0 0 B95_0 K n (fill f95_0_sh [.i x1, .l x2, .l x3, .l x4, .l x5]) = f95_0_lp N (fun y1 y2 y3 y4 y5 y6 => K (X.normal) (fill f95_0_ex1 [.b y1, .i y2, .l y3, .l y4, .l y5, .l y6])) n x1 x2 x3 x4 x5
  | 0, _, _, _, _, _ => rfl
  | n + 1, x1, x2, x3, x4, x5 => by
    rw [f95_0_st_eq, f95_0_lp, show (fun x1 x2 x3 x4 x5 => roundsOf (E95 N) N95_0 0 B95_0 K n (fill f95_0_sh [.i x1, .l x2, .l x3, .l x4, .l x5])) = f95_0_lp N (fun y1 y2 y3 y4 y5 y6 => K (X.normal) (fill f95_0_ex1 [.b y1, .i y2, .l y3, .l y4, .l y5, .l y6])) n from by funext x1 x2 x3 x4 x5; exact f95_0_lp_eq N K n x1 x2 x3 x4 x5]
theorem f95_0_ok (N : Nat) (hlp : LoopsOk Try.prog (E95 N).lp B95_0) (hΓ : CtxOk Try.prog (E95 N).Γ) : LoopOk Try.prog (mkL N95_0 f95_0_sh (f95_0_F N)) 0 B95_0 := by
  refine loopOk_of (E := E95 N) thOk hΓ mixed hlp ?_
  intro R ls K r h
  unfold f95_0_F at h
  split at h
  · exact ⟨N, by rw [f95_0_lp_eq]; exact h⟩
  · cases h

theorem lok95_4 (N : Nat) (hΓ : CtxOk Try.prog Q95) : LoopOk Try.prog (mkL N95_4 f95_4_sh (f95_4_F N)) 4 B95_4 := f95_4_ok N (loopsOk_of (l := []) (by kernel_rfl) trivial) hΓ
theorem lok95_2 (N : Nat) (hΓ : CtxOk Try.prog Q95) : LoopOk Try.prog (mkL N95_2 f95_2_sh (f95_2_F N)) 2 B95_2 := f95_2_ok N (loopsOk_of (l := [(4, B95_4)]) (by kernel_rfl) (allOk_cons (L := mkL N95_4 f95_4_sh (f95_4_F N)) rfl (lok95_4 N hΓ) trivial)) hΓ
theorem lok95_0 (N : Nat) (hΓ : CtxOk Try.prog Q95) : LoopOk Try.prog (mkL N95_0 f95_0_sh (f95_0_F N)) 0 B95_0 := f95_0_ok N (loopsOk_of (l := [(2, B95_2), (4, B95_4)]) (by kernel_rfl) (allOk_cons (L := mkL N95_2 f95_2_sh (f95_2_F N)) rfl (lok95_2 N hΓ) (allOk_cons (L := mkL N95_4 f95_4_sh (f95_4_F N)) rfl (lok95_4 N hΓ) trivial))) hΓ
theorem f95_contract (N : Nat) (hΓ : CtxOk Try.prog Q95) : Contract Try.prog 95 { sig := S95, impl := fun _ ds k => call (E95 N) S95 55 B95 R95 ds k } :=
  call_contract (E := E95 N) thOk hΓ mixed ok95.look ok95.body ok95.n ok95.rv ok95.name rfl (by decide) (loopsOk_of (l := [(0, B95_0), (2, B95_2), (4, B95_4)]) (by kernel_rfl) (allOk_cons (L := mkL N95_0 f95_0_sh (f95_0_F N)) rfl (lok95_0 N hΓ) (allOk_cons (L := mkL N95_2 f95_2_sh (f95_2_F N)) rfl (lok95_2 N hΓ) (allOk_cons (L := mkL N95_4 f95_4_sh (f95_4_F N)) rfl (lok95_4 N hΓ) trivial))))
theorem f95_raw_eq {R : Type} (N : Nat) (l : List Int) (k : List DV → Option R) : call (E95 N) S95 55 B95 R95 [.lst (.one .u32) 1 l] k = f95_raw N l k := by kernel_rfl
end Go.Proofs.Ytiaddnmloonhgaa

/- The document's numbers: any digits, modulo the prime. -/
namespace Go.Proofs.Ytiaddnmloonhgaa
open Go Go.Eng
set_option maxRecDepth 100000
set_option linter.unusedVariables false

theorem p1305_lt : p1305 < 1361129467683753853853498429727072845824 := by decide
theorem dbl_or {x c : Nat} (hx : x < 4294967296) (hc : c ≤ 1) : orI .u32 (shlI .u32 (x : Int) 1) (c : Int) = (((2 * x + c) % 4294967296 : Nat) : Int) := by
  rw [show (1 : Int) = ((1 : Nat) : Int) from rfl, shlN (k := .u32) rfl (m := 1) (by decide), bits32]
  have e : x * 2 ^ 1 % 4294967296 = (x % 2147483648) * 2 ^ 1 := by omega
  rw [e, orN (k := .u32) rfl (show _ < 2 ^ 32 by omega) (show _ < 2 ^ 32 by omega), or_addN (show c < 2 ^ 1 by omega)]
  congr 1; omega

theorem f95_dbl {R : Type} (N : Nat) (k1 : Bool → Int → Int → Int → Int → List Int → List Int → List Int → List Int → Option R) (x1 x2 : Int) (x5 x6 x8 : List Int) :
    ∀ (B A : List Nat) (c : Nat), A.length + B.length = 5 → (∀ x ∈ B, x < 4294967296) → c ≤ 1 → ∀ fuel, B.length < fuel →
      f95_4_lp N k1 fuel x1 x2 (c : Int) (A.length : Int) x5 x6 (nats (A ++ B)) x8 = k1 false x1 x2 ((dbl32 B c).2 : Int) 5 x5 x6 (nats (A ++ (dbl32 B c).1)) x8 := by
  intro B
  induction B with
  | nil =>
    intro A c hA _ hc fuel hf
    obtain ⟨f, rfl⟩ : ∃ f, fuel = f + 1 := ⟨fuel - 1, by omega⟩
    have hl : A.length = 5 := by simpa using hA
    show f95_4_st N (f95_4_lp N k1 f) k1 _ _ _ _ _ _ _ _ = _
    unfold f95_4_st
    rw [hl]
    rfl
  | cons x B ih =>
    intro A c hA hB hc fuel hf
    obtain ⟨f, rfl⟩ : ∃ f, fuel = f + 1 := ⟨fuel - 1, by omega⟩
    rw [List.length_cons] at hA hf
    have hi : A.length < 5 := by omega
    have hx := hB x (.head _)
    show f95_4_st N (f95_4_lp N k1 f) k1 _ _ _ _ _ _ _ _ = _
    unfold f95_4_st
    rw [decide_eq_true (show (A.length : Int) < 5 by omega), decide_eq_true (show 0 ≤ (A.length : Int) by omega), cond_true, Bool.and_self, cond_true, cond_true, cond_true]
    dsimp only
    rw [ngetD, dbl_or hx hc, show (31 : Int) = ((31 : Nat) : Int) from rfl, shrN (k := .u32) (m := 31) (by decide), show (2 : Nat) ^ 31 = 2147483648 from by decide +kernel, nset, show (A.length : Int) + 1 = ((A.length + 1 : Nat) : Int) from rfl, wi64 (n := A.length + 1) (by omega)]
    simp only [dbl32]
    have := ih (A ++ [(2 * x + c) % 4294967296]) (x / 2147483648) (by rw [app_len]; omega) (fun y hy => hB y (.tail _ hy)) (by omega) f (by omega)
    rw [app_len, ← app_cons, ← app_cons] at this
    exact this

theorem dbl_nuU {v c : Nat} (hv : v < p1305) (hc : c ≤ 1) : nats (dbl32 (digs 4294967296 5 v) c).1 = nuU (2 * v + c) := by
  have hp := p1305_lt
  obtain ⟨h1, h2, h3⟩ := dbl32_spec (digs 4294967296 5 v) c (digs_lt (by decide)) hc
  rw [digs_length] at h1 h3
  have h5 : (4294967296 : Nat) ^ 5 = 1461501637330902918203684832716283019655932542976 := by decide
  rw [digs_val, h5, Nat.mod_eq_of_lt (by omega)] at h3
  have e : (dbl32 (digs 4294967296 5 v) c).2 = 0 := by
    cases hd : (dbl32 (digs 4294967296 5 v) c).2 with
    | zero => rfl
    | succ d => rw [hd, Nat.mul_succ] at h3; omega
  rw [e, Nat.mul_zero, Nat.add_zero] at h3
  rw [nats_nuU h1 h2, h3]

theorem bitN {d m : Nat} (hd : d < 4294967296) (hm : m ≤ 31) : andI .u32 (shrI .u32 (d : Int) ((m : Nat) : Int)) 1 = ((d / 2 ^ m % 2 : Nat) : Int) := by
  rw [shrN (k := .u32) (m := m) (show m ≤ 32 by omega)]
  have := maskN (k := .u32) rfl (a := d / 2 ^ m) (j := 1) (show _ < 2 ^ 32 from Nat.lt_of_le_of_lt (Nat.div_le_self _ _) hd) (by decide)
  exact this

theorem f95_bits {R : Type} {N : Nat} (hN : 40 < N) (k1 : Bool → Int → Int → List Int → List Int → List Int → List Int → Option R) {l : List Nat} {i d v : Nat} (hi : i < l.length) (hd : d < 4294967296) (hld : l.getD i 0 = d) (x4 : List Int) (hv : v < p1305) :
    ∀ m : Nat, m ≤ 32 → ∀ fuel, m < fuel → f95_2_lp N k1 fuel (i : Int) ((m : Int) - 1) (nats l) x4 (nuU ((v * 2 ^ (32 - m) + d / 2 ^ m) % p1305)) (nuU p1305) = k1 false (i : Int) (-1) (nats l) x4 (nuU ((v * 4294967296 + d) % p1305)) (nuU p1305) := by
  have hp0 : 0 < p1305 := by decide
  have hp := p1305_lt
  intro m
  induction m with
  | zero =>
    intro _ fuel hf
    obtain ⟨f, rfl⟩ : ∃ f, fuel = f + 1 := ⟨fuel - 1, by omega⟩
    rw [Nat.sub_zero, Nat.pow_zero, Nat.div_one, show (2 : Nat) ^ 32 = 4294967296 from by decide +kernel]
    rfl
  | succ m ih =>
    intro hm fuel hf
    obtain ⟨f, rfl⟩ : ∃ f, fuel = f + 1 := ⟨fuel - 1, by omega⟩
    have hnext := ih (by omega) f (by omega)
    rw [← hnext]
    show f95_2_st N (f95_2_lp N k1 f) k1 _ _ _ _ _ _ = _
    rw [show ((m + 1 : Nat) : Int) - 1 = (m : Int) by omega]
    unfold f95_2_st
    rw [decide_eq_true (show (m : Int) ≥ 0 by omega), decide_eq_true (show (0 : Int) ≤ (i : Int) by omega), decide_eq_true (show (i : Int) < nI (rowLen 1 (nats l)) by show (i : Int) < (((nats l).length : Nat) : Int); rw [nats_length]; omega)]
    simp only [Bool.and_self, cond_true]
    rw [w64 (n := m) (by omega), decide_eq_true (show (0 : Int) ≤ (m : Int) by omega), cond_true]
    rw [show mulE (Int.toNat (i : Int)) 1 = i from rfl, nats_getD, hld, bitN hd (by omega)]
    generalize hr : (v * 2 ^ (32 - (m + 1)) + d / 2 ^ (m + 1)) % p1305 = r
    have hrlt : r < p1305 := by rw [← hr]; exact Nat.mod_lt _ hp0
    have hbit : d / 2 ^ m % 2 ≤ 1 := by omega
    generalize hbb : d / 2 ^ m % 2 = bb at hbit
    rw [show nuU r = nats ([] ++ digs 4294967296 5 r) from nuU_def r]
    refine (f95_dbl N _ (i : Int) (m : Int) (nats l) x4 (nuU p1305) (digs 4294967296 5 r) [] bb (by rw [digs_length]; rfl) (digs_lt (by decide)) hbit N (by rw [digs_length]; omega)).trans ?_
    rw [List.nil_append, dbl_nuU hrlt hbit, okU_nuU, okU_nuU, numU_nuU (v := 2 * r + bb) (by omega), numU_nuU (v := p1305) (by decide)]
    simp only [Bool.and_self, cond_true, Bool.true_and]
    have e1 : IntKind.i64.wrap ((m : Int) - 1) = (m : Int) - 1 := by
      cases m with
      | zero => decide
      | succ m => rw [show ((m + 1 : Nat) : Int) - 1 = (m : Int) by omega]; exact wi64 (by omega)
    have hval : (2 * r + bb) % p1305 = (v * 2 ^ (32 - m) + d / 2 ^ m) % p1305 := by
      have h1 : v * 2 ^ (32 - m) + d / 2 ^ m = 2 * (v * 2 ^ (32 - (m + 1)) + d / 2 ^ (m + 1)) + bb := by
        have h2 : 32 - m = (32 - (m + 1)) + 1 := by omega
        have h3 : d / 2 ^ (m + 1) = d / 2 ^ m / 2 := by rw [Nat.pow_succ, Nat.div_div_eq_div_mul]
        rw [h2, Nat.pow_succ, h3, ← hbb, ← Nat.mul_assoc]
        generalize v * 2 ^ (32 - (m + 1)) = T
        omega
      rw [h1, ← hr]
      rw [Nat.add_mod, Nat.mul_mod, Nat.mod_mod, ← Nat.mul_mod, ← Nat.add_mod]
    rw [e1, ← hval]
    by_cases h : 2 * r + bb < p1305
    · rw [decide_eq_true h, Bool.not_true, cond_false, Nat.mod_eq_of_lt h]
    · rw [decide_eq_false h, Bool.not_false, cond_true, decide_eq_true (show p1305 ≤ 2 * r + bb by omega), cond_true]
      have : (2 * r + bb) % p1305 = 2 * r + bb - p1305 := by
        rw [Nat.mod_eq_sub_mod (by omega), Nat.mod_eq_of_lt (by omega)]
      rw [this]

theorem f95_digits {R : Type} {N : Nat} (hN : 40 < N) (k1 : Bool → Int → List Int → List Int → List Int → List Int → Option R) {l : List Nat} (hl : l.length ≤ 1000000) (hb : ∀ x ∈ l, x < 4294967296) (x3 : List Int) :
    ∀ m : Nat, m ≤ l.length → ∀ fuel, m < fuel → f95_0_lp N k1 fuel ((m : Int) - 1) (nats l) x3 (nuU (valB 4294967296 (l.drop m) % p1305)) (nuU p1305) = k1 false (-1) (nats l) x3 (nuU (valB 4294967296 l % p1305)) (nuU p1305) := by
  have hp0 : 0 < p1305 := by decide
  intro m
  induction m with
  | zero =>
    intro _ fuel hf
    obtain ⟨f, rfl⟩ : ∃ f, fuel = f + 1 := ⟨fuel - 1, by omega⟩
    rfl
  | succ m ih =>
    intro hm fuel hf
    obtain ⟨f, rfl⟩ : ∃ f, fuel = f + 1 := ⟨fuel - 1, by omega⟩
    rw [← ih (by omega) f (by omega)]
    show f95_0_st N (f95_0_lp N k1 f) k1 _ _ _ _ _ = _
    rw [show ((m + 1 : Nat) : Int) - 1 = (m : Int) by omega]
    unfold f95_0_st
    rw [decide_eq_true (show (m : Int) ≥ 0 by omega), cond_true]
    have h0 := f95_bits (N := N) hN (fun w0_1 w0_2 w0_3 w0_4 w0_5 w0_6 w0_7 => f95_0_lp N k1 f (IntKind.i64.wrap (w0_2 - 1)) w0_4 w0_5 w0_6 w0_7) (l := l) (i := m) (d := l.getD m 0) (v := valB 4294967296 (l.drop (m + 1)) % p1305) (by omega) (getU_lt hb m) rfl x3 (Nat.mod_lt _ hp0) 32 (Nat.le_refl _) N (by omega)
    rw [show (32 : Nat) - 32 = 0 from rfl, Nat.pow_zero, Nat.mul_one, Nat.div_eq_of_lt (show l.getD m 0 < 2 ^ 32 from getU_lt hb m), Nat.add_zero, Nat.mod_mod] at h0
    refine h0.trans ?_
    have e1 : IntKind.i64.wrap ((m : Int) - 1) = (m : Int) - 1 := by
      cases m with
      | zero => decide
      | succ m => rw [show ((m + 1 : Nat) : Int) - 1 = (m : Int) by omega]; exact wi64 (by omega)
    have hv : (valB 4294967296 (l.drop (m + 1)) % p1305 * 4294967296 + l.getD m 0) % p1305 = valB 4294967296 (l.drop m) % p1305 := by
      rw [drop_split (q := l) (i := m) (by omega), valB_cons, Nat.add_comm (l.getD m 0), Nat.mul_comm 4294967296]
      rw [Nat.add_mod, Nat.mul_mod, Nat.mod_mod, ← Nat.mul_mod, ← Nat.add_mod]
    rw [e1, hv]

def okV (x : List Int) : Bool := Nat.ble x.length 64 && x.all fun b => decide (0 ≤ b) && decide (b < 4294967296)
theorem okV_of {x : List Int} (h : okV x = true) : ∃ l : List Nat, x = nats l ∧ l.length ≤ 64 ∧ ∀ b ∈ l, b < 4294967296 := by
  unfold okV at h
  rw [Bool.and_eq_true, List.all_eq_true] at h
  obtain ⟨h1, h2⟩ := h
  have h3 : ∀ b ∈ x, 0 ≤ b ∧ b < 4294967296 := fun b hb => by
    have := h2 b hb
    rw [Bool.and_eq_true] at this
    exact ⟨of_decide_eq_true this.1, of_decide_eq_true this.2⟩
  obtain ⟨l, rfl⟩ := nats_of (xs := x) fun b hb => (h3 b hb).1
  exact ⟨l, rfl, by rw [← nats_length]; exact Nat.le_of_ble_eq_true h1, fun b hb => Int.ofNat_lt.mp (h3 b (List.mem_map.mpr ⟨b, hb, rfl⟩)).2⟩
theorem okV_nats {l : List Nat} (hl : l.length ≤ 64) (h : ∀ b ∈ l, b < 4294967296) : okV (nats l) = true := by
  unfold okV
  rw [nats_length, show Nat.ble l.length 64 = true from Nat.ble_eq_true_of_le hl, Bool.true_and, List.all_eq_true]
  intro b hb
  unfold nats at hb
  obtain ⟨n, hn, rfl⟩ := List.mem_map.mp hb
  have := h n hn
  rw [Bool.and_eq_true]
  exact ⟨decide_eq_true (Int.natCast_nonneg n), decide_eq_true (Int.ofNat_lt.mpr this)⟩
noncomputable def I95 : (R : Type) → List DV → (List DV → Option R) → Option R := fun _ ds k => match ds with
  | [.lst (.one .u32) 1 l] => bif okV l then k [.v (.one (.ints .u32 5 (nuU (numU l % p1305))))] else none
  | _ => none
theorem c95 : Contract Try.prog 95 { sig := S95, impl := I95 } := by
  refine Contract.refine fun R ds k r h => ⟨_, f95_contract 70 Q95_ok, ?_⟩
  unfold I95 at h
  split at h
  · rename_i x
    rcases hc : okV x with _ | _
    · rw [hc] at h; cases h
    · rw [hc, cond_true] at h
      obtain ⟨l, rfl, hl, hb⟩ := okV_of hc
      rw [numU_nats] at h
      rw [f95_raw_eq, ← h]
      unfold f95_raw
      dsimp only
      have e1 : IntKind.i64.wrap (nI (rowLen 1 (nats l)) - 1) = (l.length : Int) - 1 := by
        rw [show nI (rowLen 1 (nats l)) = (l.length : Int) from by show (((nats l).length : Nat) : Int) = _; rw [nats_length]]
        cases hll : l.length with
        | zero => decide
        | succ m => rw [show ((m + 1 : Nat) : Int) - 1 = (m : Int) by omega]; exact wi64 (by omega)
      rw [e1]
      have := f95_digits (N := 70) (by decide) (fun w1_1 w1_2 w1_3 w1_4 w1_5 w1_6 => k [DV.v (SV.one (At.ints IntKind.u32 5 w1_5))]) (l := l) (by omega) hb (List.replicate 5 0) l.length (Nat.le_refl _) 70 (by omega)
      rw [List.drop_length, show valB 4294967296 ([] : List Nat) % p1305 = 0 from by decide, show nuU 0 = List.replicate 5 0 from by rw [nuU_def]; decide] at this
      exact this
  · cases h
noncomputable def Q65 : Ctx := (95, { sig := S95, impl := I95 }) :: []
theorem Q65_ok : CtxOk Try.prog Q65 := ctxOk_cons ok95 rfl c95 ctxOk_nil
end Go.Proofs.Ytiaddnmloonhgaa

/- What rime/rimeref12.times comes to. MADE BY PROGRAM (wip/tools/mkfn.py, EngGen.lean). -/
namespace Go.Proofs.Ytiaddnmloonhgaa
open Go Go.Eng
set_option maxRecDepth 100000
set_option linter.unusedVariables false

def f65_2_sh : Shp := { n := 54, lo := 2, slots := [(2, .one (.fix (At.ptr 2 0 Off.z 5))), (3, .one (.fix (At.ptr 3 0 Off.z 5))), (4, .one (.fix (At.ptr 4 0 Off.z 5))), (5, .one (.fix (At.own 9))), (6, .one (.int IntKind.i64)), (7, .one (.int IntKind.u64)), (8, .one (.int IntKind.i64))], items := [(2, .obj [.ints IntKind.u32 5]), (3, .obj [.ints IntKind.u32 5]), (4, .obj [.ints IntKind.u32 5]), (9, .row (.one IntKind.u32) 1)] }
def f65_2_ex1 : Shp := { n := 54, lo := 2, slots := [(15, .one (.bool)), (2, .one (.fix (At.ptr 2 0 Off.z 5))), (3, .one (.fix (At.ptr 3 0 Off.z 5))), (4, .one (.fix (At.ptr 4 0 Off.z 5))), (5, .one (.fix (At.own 9))), (6, .one (.int IntKind.i64)), (7, .one (.int IntKind.u64)), (8, .one (.int IntKind.i64))], items := [(2, .obj [.ints IntKind.u32 5]), (3, .obj [.ints IntKind.u32 5]), (4, .obj [.ints IntKind.u32 5]), (9, .row (.one IntKind.u32) 1)] }
noncomputable def f65_2_st {R : Type} (N : Nat) (self : Int → Int → Int → List Int → List Int → List Int → List Int → Option R) (k1 : Bool → Int → Int → Int → List Int → List Int → List Int → List Int → Option R) (x1 : Int) (x2 : Int) (x3 : Int) (x4 : List Int) (x5 : List Int) (x6 : List Int) (x7 : List Int) : Option R :=
 bif Decidable.decide (x3 < 5) then
 let v0 : Int := IntKind.i64.wrap (x1 + x3);
 bif Decidable.decide (0 ≤ v0) && Decidable.decide (v0 < nI (rowLen 1 x7)) then
 bif Decidable.decide (0 ≤ x1) && Decidable.decide (x1 < 5) then
 bif Decidable.decide (0 ≤ x3) && Decidable.decide (x3 < 5) then
 bif Decidable.decide (0 ≤ v0) && Decidable.decide (v0 < nI (rowLen 1 x7)) then
 let v1 : Int := IntKind.u64.wrap (x7.getD (mulE v0.toNat 1) 0);
 let v2 : Int := IntKind.u64.wrap (x2 + v1);
 let v3 : Int := IntKind.u64.wrap (x4.getD (mulE x1.toNat 1) 0);
 let v4 : Int := IntKind.u64.wrap (x5.getD (mulE x3.toNat 1) 0);
 let v5 : Int := IntKind.u64.wrap (v3 * v4);
 let v6 : Int := IntKind.u64.wrap (v2 + v5);
 let v7 : Int := shrI IntKind.u64 v6 32;
 let v8 : Int := IntKind.i64.wrap (x3 + 1);
 let v9 : Int := IntKind.u32.wrap v6;
 let v10 : List Int := x7.set (mulE v0.toNat 1) v9;
 self x1 v7 v8 x4 x5 x6 v10
 else Option.none
 else Option.none
 else Option.none
 else Option.none
else k1 (Decidable.decide (x3 < 5)) x1 x2 x3 x4 x5 x6 x7
noncomputable def f65_2_lp {R : Type} (N : Nat) (k1 : Bool → Int → Int → Int → List Int → List Int → List Int → List Int → Option R) : Nat → Int → Int → Int → List Int → List Int → List Int → List Int → Option R
 | 0, _, _, _, _, _, _, _ => none
 | n + 1, x1, x2, x3, x4, x5, x6, x7 => f65_2_st N (f65_2_lp N k1 n) k1 x1 x2 x3 x4 x5 x6 x7
noncomputable def f65_2_F (N : Nat) : (R : Type) → List Leaf → (X → AS → Option R) → Option R := fun _ ls K => match ls with
 | [.i x1, .i x2, .i x3, .l x4, .l x5, .l x6, .l x7] => f65_2_lp N (fun y1 y2 y3 y4 y5 y6 y7 y8 => K (X.normal) (fill f65_2_ex1 [.b y1, .i y2, .i y3, .i y4, .l y5, .l y6, .l y7, .l y8])) N x1 x2 x3 x4 x5 x6 x7
 | _ => none
def f65_0_sh : Shp := { n := 54, lo := 2, slots := [(2, .one (.fix (At.ptr 2 0 Off.z 5))), (3, .one (.fix (At.ptr 3 0 Off.z 5))), (4, .one (.fix (At.ptr 4 0 Off.z 5))), (5, .one (.fix (At.own 9))), (6, .one (.int IntKind.i64))], items := [(2, .obj [.ints IntKind.u32 5]), (3, .obj [.ints IntKind.u32 5]), (4, .obj [.ints IntKind.u32 5]), (9, .row (.one IntKind.u32) 1)] }
def f65_0_ex1 : Shp := { n := 54, lo := 2, slots := [(11, .one (.bool)), (2, .one (.fix (At.ptr 2 0 Off.z 5))), (3, .one (.fix (At.ptr 3 0 Off.z 5))), (4, .one (.fix (At.ptr 4 0 Off.z 5))), (5, .one (.fix (At.own 9))), (6, .one (.int IntKind.i64))], items := [(2, .obj [.ints IntKind.u32 5]), (3, .obj [.ints IntKind.u32 5]), (4, .obj [.ints IntKind.u32 5]), (9, .row (.one IntKind.u32) 1)] }
noncomputable def f65_0_st {R : Type} (N : Nat) (self : Int → List Int → List Int → List Int → List Int → Option R) (k1 : Bool → Int → List Int → List Int → List Int → List Int → Option R) (x1 : Int) (x2 : List Int) (x3 : List Int) (x4 : List Int) (x5 : List Int) : Option R :=
 bif Decidable.decide (x1 < 5) then
 f65_2_lp N
 (fun w0_1 w0_2 w0_3 w0_4 w0_5 w0_6 w0_7 w0_8 =>
 let v1 : Int := IntKind.i64.wrap (w0_2 + 5);
 bif Decidable.decide (0 ≤ v1) && Decidable.decide (v1 < nI (rowLen 1 w0_8)) then
 let v2 : Int := IntKind.i64.wrap (w0_2 + 1);
 let v3 : Int := IntKind.u32.wrap w0_3;
 let v4 : List Int := w0_8.set (mulE v1.toNat 1) v3;
 self v2 w0_5 w0_6 w0_7 v4
 else Option.none)
 N x1 0 0 x2 x3 x4 x5
else k1 (Decidable.decide (x1 < 5)) x1 x2 x3 x4 x5
noncomputable def f65_0_lp {R : Type} (N : Nat) (k1 : Bool → Int → List Int → List Int → List Int → List Int → Option R) : Nat → Int → List Int → List Int → List Int → List Int → Option R
 | 0, _, _, _, _, _ => none
 | n + 1, x1, x2, x3, x4, x5 => f65_0_st N (f65_0_lp N k1 n) k1 x1 x2 x3 x4 x5
noncomputable def f65_0_F (N : Nat) : (R : Type) → List Leaf → (X → AS → Option R) → Option R := fun _ ls K => match ls with
 | [.i x1, .l x2, .l x3, .l x4, .l x5] => f65_0_lp N (fun y1 y2 y3 y4 y5 y6 => K (X.normal) (fill f65_0_ex1 [.b y1, .i y2, .l y3, .l y4, .l y5, .l y6])) N x1 x2 x3 x4 x5
 | _ => none
noncomputable def f65_raw {R : Type} (N : Nat) (a : List Int) (b : List Int) (k : List DV → Option R) : Option R :=
 f65_0_lp N (fun w0_1 w0_2 w0_3 w0_4 w0_5 w0_6 => bif okV w0_6 then k [DV.v (SV.one (At.ints IntKind.u32 5 (nuU (numU w0_6 % p1305))))] else Option.none) N 0 a b (List.replicate 5 0) (zerosOf (mulE (Int.toNat 10) 1))


noncomputable def E65 (N : Nat) : Env := { Θ := Th, Γ := Q65, K := K65, ν := N65, fuel := 0, lp := [(0, mkL N65_0 f65_0_sh (f65_0_F N)), (2, mkL N65_2 f65_2_sh (f65_2_F N))] }

theorem f65_2_st_eq {R : Type} (N : Nat) (K : X → AS → Option R) (n : Nat) (x1 : Int) (x2 : Int) (x3 : Int) (x4 : List Int) (x5 : List Int) (x6 : List Int) (x7 : List Int) : roundsOf (E65 N) N65_2 2 B65_2 K (n + 1) (fill f65_2_sh [.i x1, .i x2, .i x3, .l x4, .l x5, .l x6, .l x7]) = f65_2_st N (fun x1 x2 x3 x4 x5 x6 x7 => roundsOf (E65 N) N65_2 2 B65_2 K n (fill f65_2_sh [.i x1, .i x2, .i x3, .l x4, .l x5, .l x6, .l x7])) (fun y1 y2 y3 y4 y5 y6 y7 y8 => K (X.normal) (fill f65_2_ex1 [.b y1, .i y2, .i y3, .i y4, .l y5, .l y6, .l y7, .l y8])) x1 x2 x3 x4 x5 x6 x7 := by kernel_rfl
theorem f65_2_lp_eq {R : Type} (N : Nat) (K : X → AS → Option R) : ∀ (n : Nat) (x1 : Int) (x2 : Int) (x3 : Int) (x4 : List Int) (x5 : List Int) (x6 : List Int) (x7 : List Int), roundsOf (E65 N) N65_2 2 B65_2 K n (fill f65_2_sh [.i x1, .i x2, .i x3, .l x4, .l x5, .l x6, .l x7]) = f65_2_lp N (fun y1 y2 y3 y4 y5 y6 y7 y8 => K (X.normal) (fill f65_2_ex1 [.b y1, .i y2, .i y3, .i y4, .l y5, .l y6, .l y7, .l y8])) n x1 x2 x3 x4 x5 x6 x7
  | 0, _, _, _, _, _, _, _ => rfl
  | n + 1, x1, x2, x3, x4, x5, x6, x7 => by
    rw [f65_2_st_eq, f65_2_lp, show (fun x1 x2 x3 x4 x5 x6 x7 => roundsOf (E65 N) N65_2 2 B65_2 K n (fill f65_2_sh [.i x1, .i x2, .i x3, .l x4, .l x5, .l x6, .l x7])) = f65_2_lp N (fun y1 y2 y3 y4 y5 y6 y7 y8 => K (X.normal) (fill f65_2_ex1 [.b y1, .i y2, .i y3, .i y4, .l y5, .l y6, .l y7, .l y8])) n from by funext x1 x2 x3 x4 x5 x6 x7; exact f65_2_lp_eq N K n x1 x2 x3 x4 x5 x6 x7]
theorem f65_2_ok (N : Nat) (hlp : LoopsOk Try.prog (E65 N).lp B65_2) (hΓ : CtxOk Try.prog (E65 N).Γ) : LoopOk Try.prog (mkL N65_2 f65_2_sh (f65_2_F N)) 2 B65_2 := by
  refine loopOk_of (E := E65 N) thOk hΓ mixed hlp ?_
  intro R ls K r h
  unfold f65_2_F at h
  split at h
  · exact ⟨N, by rw [f65_2_lp_eq]; exact h⟩
  · cases h
theorem f65_0_st_eq {R : Type} (N : Nat) (K : X → AS → Option R) (n : Nat) (x1 : Int) (x2 : List Int) (x3 : List Int) (x4 : List Int) (x5 : List Int) : roundsOf (E65 N) N65_0 0 B65_0 K (n + 1) (fill f65_0_sh [.i x1, .l x2, .l x3, .l x4, .l x5]) = f65_0_st N (fun x1 x2 x3 x4 x5 => roundsOf (E65 N) N65_0 0 B65_0 K n (fill f65_0_sh [.i x1, .l x2, .l x3, .l x4, .l x5])) (fun y1 y2 y3 y4 y5 y6 => K (X.normal) (fill f65_0_ex1 [.b y1, .i y2, .l y3, .l y4, .l y5, .l y6])) x1 x2 x3 x4 x5 := by kernel_rfl
theorem f65_0_lp_eq {R : Type} (N : Nat) (K : X → AS → Option R) : ∀ (n : Nat) (x1 : Int) (x2 : List Int) (x3 : List Int) (x4 : List Int) (x5 : List Int), roundsOf (E65 N) N65_0 0 B65_0 K n (fill f65_0_sh [.i x1, .l x2, .l x3, .l x4, .l x5]) = f65_0_lp N (fun y1 y2 y3 y4 y5 y6 => K (X.normal) (fill f65_0_ex1 [.b y1, .i y2, .l y3, .l y4, .l y5, .l y6])) n x1 x2 x3 x4 x5
  | 0, _, _, _, _, _ => rfl
  | n + 1, x1, x2, x3, x4, x5 => by
    rw [f65_0_st_eq, f65_0_lp, show (fun x1 x2 x3 x4 x5 => roundsOf (E65 N) N65_0 0 B65_0 K n (fill f65_0_sh [.i x1, .l x2, .l x3, .l x4, .l x5])) = f65_0_lp N (fun y1 y2 y3 y4 y5 y6 => K (X.normal) (fill f65_0_ex1 [.b y1, .i y2, .l y3, .l y4, .l y5, .l y6])) n from by funext x1 x2 x3 x4 x5; exact f65_0_lp_eq N K n x1 x2 x3 x4 x5]
theorem f65_0_ok (N : Nat) (hlp : LoopsOk Try.prog (E65 N).lp B65_0) (hΓ : CtxOk Try.prog (E65 N).Γ) : LoopOk Try.prog (mkL N65_0 f65_0_sh (f65_0_F N)) 0 B65_0 := by
  refine loopOk_of (E := E65 N) thOk hΓ mixed hlp ?_
  intro R ls K r h
  unfold f65_0_F at h
  split at h
  · exact ⟨N, by rw [f65_0_lp_eq]; exact h⟩
  · cases h

theorem lok65_2 (N : Nat) (hΓ : CtxOk Try.prog Q65) : LoopOk Try.prog (mkL N65_2 f65_2_sh (f65_2_F N)) 2 B65_2 := f65_2_ok N (loopsOk_of (l := []) (by kernel_rfl) trivial) hΓ
theorem lok65_0 (N : Nat) (hΓ : CtxOk Try.prog Q65) : LoopOk Try.prog (mkL N65_0 f65_0_sh (f65_0_F N)) 0 B65_0 := f65_0_ok N (loopsOk_of (l := [(2, B65_2)]) (by kernel_rfl) (allOk_cons (L := mkL N65_2 f65_2_sh (f65_2_F N)) rfl (lok65_2 N hΓ) trivial)) hΓ
theorem f65_contract (N : Nat) (hΓ : CtxOk Try.prog Q65) : Contract Try.prog 65 { sig := S65, impl := fun _ ds k => call (E65 N) S65 54 B65 R65 ds k } :=
  call_contract (E := E65 N) thOk hΓ mixed ok65.look ok65.body ok65.n ok65.rv ok65.name rfl (by decide) (loopsOk_of (l := [(0, B65_0), (2, B65_2)]) (by kernel_rfl) (allOk_cons (L := mkL N65_0 f65_0_sh (f65_0_F N)) rfl (lok65_0 N hΓ) (allOk_cons (L := mkL N65_2 f65_2_sh (f65_2_F N)) rfl (lok65_2 N hΓ) trivial)))
theorem f65_raw_eq {R : Type} (N : Nat) (a : List Int) (b : List Int) (k : List DV → Option R) : call (E65 N) S65 54 B65 R65 [.v (.one (.ints .u32 5 a)), .v (.one (.ints .u32 5 b))] k = f65_raw N a b k := by kernel_rfl
end Go.Proofs.Ytiaddnmloonhgaa

