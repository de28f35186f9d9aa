/- ShamirEvals: for any polynomial, place, identifier and identifiers whose data stay within 1,048,576: Eval, At and Split answer as the document. -/
import Derived.Test.YtogcijgklnfjjaaGreatShamirEvalsUptoSaidT4
import Derived.Test.YtogcijgklnfjjaaGreatRows
import Derived.JoinedCond
import Derived.WalkKit
import Derived.ProofKit
set_option linter.unusedVariables false
set_option linter.unusedSimpArgs false

namespace Go.Proofs.YtogcijgklnfjjaaGreat
open Go Go.Eng
set_option maxRecDepth 100000
set_option linter.unusedVariables false

def dupF (xs : List Int) (i : Nat) : Nat → Nat → Bool
  | 0, _ => false
  | m + 1, k => (xs.getD k 0 == xs.getD i 0) || dupF xs i m (k + 1)
def idsE (xs : List Int) : Nat → Nat → Int
  | 0, _ => 0
  | j + 1, i => bif decide (xs.getD i 0 < 1) || decide (xs.getD i 0 > 255) then 4 else bif dupF xs i i 0 then 5 else idsE xs j (i + 1)
def idsN (xs : List Int) : Int := bif Nat.beq xs.length 0 then 8 else idsE xs xs.length 0
theorem rows1 (xs : List Int) : nI (rowLen 1 xs) = (xs.length : Int) := rfl

theorem f73_in {R : Type} (N : Nat) (K : Int → Option R) (G : Int → List Int → Option R) {xs : List Int} {i : Nat} (hi : i < xs.length) (hb : xs.length ≤ 1073741824) :
    ∀ m k : Nat, k + m = i → ∀ fuel, m < fuel → f73_2_lp N (fun w1 _ _ _ _ _ => K w1) (fun _ w2 _ w4 => G w2 w4) fuel (i : Int) (k : Int) xs = bif dupF xs i m k then K 5 else G (i : Int) xs := by
  intro m
  induction m with
  | zero =>
    intro k h fuel hf
    obtain ⟨f, rfl⟩ : ∃ f, fuel = f + 1 := ⟨fuel - 1, by omega⟩
    show f73_2_st N (f73_2_lp N _ _ f) _ _ _ _ _ = _
    unfold f73_2_st
    rw [decide_eq_false (by omega), cond_false]
    rfl
  | succ m ih =>
    intro k h fuel hf
    obtain ⟨f, rfl⟩ : ∃ f, fuel = f + 1 := ⟨fuel - 1, by omega⟩
    show f73_2_st N (f73_2_lp N _ _ f) _ _ _ _ _ = _
    unfold f73_2_st
    have e4 : IntKind.i64.wrap ((k : Int) + 1) = ((k + 1 : Nat) : Int) := by
      rw [show (k : Int) + 1 = ((k + 1 : Nat) : Int) by omega]; exact wi64 (by omega)
    rw [rows1]
    dsimp only
    rw [show mulE (Int.toNat (k : Int)) 1 = k from rfl, show mulE (Int.toNat (i : Int)) 1 = i from rfl, e4, decide_eq_true (show (k : Int) < (i : Int) by omega), decide_eq_true (show (0 : Int) ≤ (k : Int) by omega), decide_eq_true (show (k : Int) < (xs.length : Int) by omega), decide_eq_true (show (0 : Int) ≤ (i : Int) by omega), decide_eq_true (show (i : Int) < (xs.length : Int) by omega)]
    simp only [Bool.and_self, cond_true]
    rw [dupF]
    cases hq : xs.getD k 0 == xs.getD i 0 with
    | true => rfl
    | false =>
      rw [cond_false, Bool.false_or]
      exact ih (k + 1) (by omega) f (by omega)
theorem f73_out {R : Type} {N : Nat} (K : Int → Option R) {xs : List Int} (hb : xs.length ≤ 1073741824) (hN : xs.length < N) :
    ∀ j i : Nat, i + j = xs.length → ∀ fuel, j < fuel → f73_0_lp N (fun w1 _ _ _ _ => K w1) (fun w1 _ _ _ _ _ => K w1) (fun _ _ _ => K 0) fuel (i : Int) xs = K (idsE xs j i) := by
  intro j
  induction j with
  | zero =>
    intro i h fuel hf
    obtain ⟨f, rfl⟩ : ∃ f, fuel = f + 1 := ⟨fuel - 1, by omega⟩
    show f73_0_st N (f73_0_lp N _ _ _ f) _ _ _ _ _ = _
    unfold f73_0_st
    rw [rows1, decide_eq_false (by omega), cond_false]
    rfl
  | succ j ih =>
    intro i h fuel hf
    obtain ⟨f, rfl⟩ : ∃ f, fuel = f + 1 := ⟨fuel - 1, by omega⟩
    show f73_0_st N (f73_0_lp N _ _ _ f) _ _ _ _ _ = _
    unfold f73_0_st
    have hin := f73_in N K (fun w2 w4 => f73_0_lp N (fun w1 _ _ _ _ => K w1) (fun w1 _ _ _ _ _ => K w1) (fun _ _ _ => K 0) f (IntKind.i64.wrap (w2 + 1)) w4) (xs := xs) (i := i) (by omega) hb i 0 (by omega) N (by omega)
    have e4 : IntKind.i64.wrap ((i : Int) + 1) = ((i + 1 : Nat) : Int) := by
      rw [show (i : Int) + 1 = ((i + 1 : Nat) : Int) by omega]; exact wi64 (by omega)
    rw [rows1]
    dsimp only
    rw [show mulE (Int.toNat (i : Int)) 1 = i from rfl, decide_eq_true (show (0 : Int) ≤ (i : Int) by omega), decide_eq_true (show (i : Int) < (xs.length : Int) by omega)]
    simp only [Bool.and_self, cond_true, cond_false]
    rw [idsE]
    cases h1 : decide (xs.getD i 0 < 1) with
    | true => rfl
    | false =>
      rw [cond_false, Bool.false_or]
      cases h2 : decide (xs.getD i 0 > 255) with
      | true => rfl
      | false =>
        rw [cond_false, cond_false]
        refine hin.trans ?_
        rw [e4]
        cases dupF xs i i 0 with
        | true => rfl
        | false => exact ih (i + 1) (by omega) f (by omega)
noncomputable def I73 : (R : Type) → List DV → (List DV → Option R) → Option R := fun _ ds k => match ds with
  | [.lst (.one .i64) 1 xs] => bif Nat.ble xs.length 1073741824 then k [.v (.one (.int .i64 (idsN xs)))] else none
  | _ => none
theorem c73 : Contract Tryz.prog 73 { sig := S73, impl := I73 } := by
  refine Contract.refine fun R ds k r h => ?_
  unfold I73 at h
  split at h
  · rename_i xs
    refine ⟨_, f73_contract (xs.length + 1) ctxOk_nil, ?_⟩
    cases hc : Nat.ble xs.length 1073741824 with
    | false => rw [hc] at h; cases h
    | true =>
      rw [hc, cond_true] at h
      have hb := Nat.le_of_ble_eq_true hc
      rw [f73_raw_eq]
      unfold f73_raw
      unfold idsN at h
      rw [rows1]
      cases hq : Nat.beq xs.length 0 with
      | true =>
        rw [hq] at h
        rw [Nat.eq_of_beq_eq_true hq]
        exact h
      | false =>
        rw [hq, cond_false] at h
        have hq : xs.length ≠ 0 := fun e => by rw [e] at hq; cases hq
        rw [show (((xs.length : Nat) : Int) == 0) = false by simp; intro e; exact hq (by rw [e]; rfl), cond_false]
        exact (f73_out (N := xs.length + 1) (fun w => k [DV.v (SV.one (At.int IntKind.i64 w))]) hb (by omega) xs.length 0 (by omega) (xs.length + 1) (by omega)).trans h
  · exact (Option.some_ne_none _ h.symm).elim
end Go.Proofs.YtogcijgklnfjjaaGreat

namespace Go.Proofs.YtogcijgklnfjjaaGreat
open Go Go.Eng
set_option maxRecDepth 100000

noncomputable def hasZ (x : List Int) : Bool := (fz x (x.length / 32) 0).isSome
noncomputable def firstZ (x : List Int) : Int := (((fz x (x.length / 32) 0).getD 0 : Nat) : Int)
noncomputable def I130b : (R : Type) → List DV → (List DV → Option R) → Option R := fun _ ds k => match ds with
  | [.lst (.one .u8) 32 x] => bif okF x then (bif hasZ x then k [.lst (.one .u8) 32 [], .v (.one (.int .i64 9)), .v (.one (.int .i64 (firstZ x)))] else k [.lst (.one .u8) 32 (invS x), .v (.one (.int .i64 0)), .v (.one (.int .i64 0))]) else none
  | _ => none
theorem c130b : Contract Tryz.prog 130 { sig := S130, impl := I130b } := by
  refine Contract.refine fun R ds k r h => ⟨_, c130, ?_⟩
  unfold I130b at h
  unfold I130
  split at h
  · rename_i x
    show (bif okF x then _ else none) = some r
    cases hc : okF x with
    | false => rw [hc] at h; cases h
    | true =>
      rw [hc, cond_true] at h
      rw [cond_true]
      unfold hasZ firstZ at h
      cases hz : fz x (x.length / 32) 0 with
      | some m => rw [hz] at h; exact h
      | none => rw [hz] at h; exact h
  · cases h
noncomputable def GZ : Ctx := (153, { sig := S153, impl := I153 }) :: (130, { sig := S130, impl := I130b }) :: GX
theorem GZ_ok : CtxOk Tryz.prog GZ := ctxOk_cons ok153 rfl c153 (ctxOk_cons ok130 rfl c130b GX_ok)
end Go.Proofs.YtogcijgklnfjjaaGreat

namespace Go.Eng
open Go

def partI (K : List Nat) : List (Nat × Item) → List (Nat × Item)
  | [] => []
  | (n, it) :: l => match memN n K with | true => (n, it) :: partI K l | false => partI K l
def partO (K : List Nat) : List (Nat × Item) → List (Nat × Item)
  | [] => []
  | (n, it) :: l => match memN n K with | true => partO K l | false => (n, it) :: partO K l

theorem find_partI {K : List Nat} {n : Nat} : ∀ {l : List (Nat × Item)}, findI n (partI K l) = if n ∈ K then findI n l else none
  | [] => by simp [partI, findI]
  | (u, it) :: l => by
    simp only [partI]
    split
    · rename_i h
      rw [findI_cons, findI_cons, find_partI (l := l)]
      by_cases e : n = u
      · subst e; simp [memN_iff.1 h]
      · simp [e]
    · rename_i h
      rw [findI_cons, find_partI (l := l)]
      by_cases e : n = u
      · subst e; simp [memN_false.1 h]
      · simp [e]
theorem find_partO {K : List Nat} {n : Nat} : ∀ {l : List (Nat × Item)}, findI n (partO K l) = if n ∈ K then none else findI n l
  | [] => by simp [partO, findI]
  | (u, it) :: l => by
    simp only [partO]
    split
    · rename_i h
      rw [findI_cons, find_partO (l := l)]
      by_cases e : n = u
      · subst e; simp [memN_iff.1 h]
      · simp [e]
    · rename_i h
      rw [findI_cons, findI_cons, find_partO (l := l)]
      by_cases e : n = u
      · subst e; simp [memN_false.1 h]
      · simp [e]
theorem names_partI {K : List Nat} {n : Nat} : ∀ {l : List (Nat × Item)}, n ∈ putNames (partI K l) → n ∈ putNames l ∧ n ∈ K
  | [], h => by cases h
  | (u, it) :: l, h => by
    simp only [partI] at h
    split at h
    · rename_i hk
      rcases List.mem_cons.1 h with e | h
      · subst e; exact ⟨.head _, memN_iff.1 hk⟩
      · have := names_partI h; exact ⟨.tail _ this.1, this.2⟩
    · have := names_partI h; exact ⟨.tail _ this.1, this.2⟩
theorem names_partO {K : List Nat} {n : Nat} : ∀ {l : List (Nat × Item)}, n ∈ putNames (partO K l) → n ∈ putNames l ∧ n ∉ K
  | [], h => by cases h
  | (u, it) :: l, h => by
    simp only [partO] at h
    split at h
    · have := names_partO h; exact ⟨.tail _ this.1, this.2⟩
    · rename_i hk
      rcases List.mem_cons.1 h with e | h
      · subst e; exact ⟨.head _, memN_false.1 hk⟩
      · have := names_partO h; exact ⟨.tail _ this.1, this.2⟩
theorem nodup_partI {K : List Nat} : ∀ {l : List (Nat × Item)}, Nodup' l → Nodup' (partI K l)
  | [], _ => trivial
  | (u, it) :: l, ⟨h1, h2⟩ => by
    simp only [partI]
    split
    · exact ⟨fun h => h1 (names_partI h).1, nodup_partI h2⟩
    · exact nodup_partI h2
theorem nodup_partO {K : List Nat} : ∀ {l : List (Nat × Item)}, Nodup' l → Nodup' (partO K l)
  | [], _ => trivial
  | (u, it) :: l, ⟨h1, h2⟩ => by
    simp only [partO]
    split
    · exact nodup_partO h2
    · exact ⟨fun h => h1 (names_partO h).1, nodup_partO h2⟩

def sideA (Fr : List (Nat × Item)) : At → Bool
  | .ptr n b o z => match findI n Fr with
    | none => true
    | some it => match o, it with | .z, .obj _ => true | _, _ => false
  | a => disj a.names (putNames Fr)
def sideV (Fr : List (Nat × Item)) : AV → Bool
  | .s (.one a) => sideA Fr a
  | v => disj v.names (putNames Fr)
def sideT (Fr : List (Nat × Item)) : List (Nat × AV) → Bool
  | [] => true
  | (_, v) :: l => sideV Fr v && sideT Fr l
def sideI (lo : Nat) (is : List (Nat × Item)) : List (Nat × Item) → Bool
  | [] => true
  | (n, it) :: l => (match it.own? with | true => true | false => memN n (putNames is) && (Nat.blt n lo || Nat.ble hiN n)) && sideI lo is l

def pinsN (lo : Nat) : List Nat → Bool
  | [] => true
  | n :: l => (Nat.blt n lo || Nat.ble hiN n) && pinsN lo l

theorem pinsN_mem {lo n : Nat} : ∀ {l : List Nat}, pinsN lo l = true → n ∈ l → n < lo ∨ hiN ≤ n
  | m :: l, h, hm => by
    simp only [pinsN, Bool.and_eq_true, Bool.or_eq_true] at h
    rcases List.mem_cons.1 hm with e | hm
    · subst e
      rcases h.1 with h | h
      · left
        have := ble_iff.1 (show Nat.ble (n + 1) lo = true from h); omega
      · right; exact ble_iff.1 h
    · exact pinsN_mem h.2 hm

theorem sideT_mem {Fr : List (Nat × Item)} {t : Nat} {v : AV} : ∀ {l : List (Nat × AV)}, sideT Fr l = true → (t, v) ∈ l → sideV Fr v = true
  | (u, x) :: l, h, hm => by
    simp only [sideT, Bool.and_eq_true] at h
    rcases List.mem_cons.1 hm with e | hm
    · injection e with e1 e2; subst e2; exact h.1
    · exact sideT_mem h.2 hm
theorem sideI_mem {lo : Nat} {is : List (Nat × Item)} {n : Nat} {it : Item} : ∀ {l : List (Nat × Item)}, sideI lo is l = true → (n, it) ∈ l → it.owned = false → n ∈ putNames is ∧ (n < lo ∨ hiN ≤ n)
  | (u, x) :: l, h, hm, ho => by
    simp only [sideI, Bool.and_eq_true] at h
    rcases List.mem_cons.1 hm with e | hm
    · injection e with e1 e2; subst e1; subst e2
      have h1 := h.1
      cases it with
      | view k es xs =>
        simp only [Item.own?, Bool.and_eq_true, Bool.or_eq_true] at h1
        refine ⟨memN_iff.1 h1.1, ?_⟩
        rcases h1.2 with h | h
        · left
          have := ble_iff.1 (show Nat.ble (n + 1) lo = true from h); omega
        · right; exact ble_iff.1 h
      | dview k es xs =>
        simp only [Item.own?, Bool.and_eq_true, Bool.or_eq_true] at h1
        refine ⟨memN_iff.1 h1.1, ?_⟩
        rcases h1.2 with h | h
        · left
          have := ble_iff.1 (show Nat.ble (n + 1) lo = true from h); omega
        · right; exact ble_iff.1 h
      | _ => cases ho
    · exact sideI_mem h.2 hm ho

theorem nodup_apart {l m : List (Nat × Item)} : Nodup' (l ++ m) → Nodup' l ∧ Nodup' m ∧ ∀ n ∈ putNames l, n ∉ putNames m := by
  induction l with
  | nil => intro h; exact ⟨trivial, h, by simp [putNames]⟩
  | cons x l ih =>
    obtain ⟨u, v⟩ := x
    rintro ⟨h1, h2⟩
    obtain ⟨g1, g2, g3⟩ := ih h2
    have h1 : u ∉ putNames (l ++ m) := h1
    rw [putNames_append, List.mem_append, not_or] at h1
    refine ⟨⟨h1.1, g1⟩, g2, fun n hn => ?_⟩
    rcases List.mem_cons.1 hn with e | hn
    · subst e; exact h1.2
    · exact g3 n hn

theorem find_app {l m : List (Nat × Item)} {n : Nat} {it : Item} (h : findI n (l ++ m) = some it) : findI n l = some it ∨ (findI n l = none ∧ findI n m = some it) := by
  rw [findI_append] at h
  cases hl : findI n l with
  | some x => rw [hl] at h; exact .inl h
  | none => rw [hl] at h; exact .inr ⟨rfl, h⟩

theorem none_of {l : List (Nat × Item)} {n : Nat} (h : findI n l = none) : n ∉ putNames l := findI_none_iff.1 h

theorem find_names {l : List (Nat × Item)} {n : Nat} {it : Item} (h : findI n l = some it) : n ∈ putNames l := putNames_iff.2 ⟨it, findI_mem h⟩

theorem reaches_frame {P : Program} {c : Code} {s1 s' : AS} {e : X} (h : Reaches P c s1 e s') {Fr : List (Nat × Item)} (hlo : s'.lo = s1.lo) (hnd : Nodup' (s1.items ++ Fr)) (hnd' : Nodup' (s'.items ++ Fr))
    (hpin : pinsN s1.lo (putNames Fr) = true) (hcl : allIn (putSays' Fr) (putNames Fr) = true) (ht : sideT Fr s'.tmps = true) (hi : disj (putSays' s'.items) (putNames Fr) = true) (hv : sideI s'.lo s1.items s'.items = true) :
    Reaches P c { s1 with items := s1.items ++ Fr } e { s' with items := s'.items ++ Fr } := by
  refine reaches_iff.2 fun w0 Mu ρ a w Q hs hQ => ?_
  obtain ⟨n1, n2, n3⟩ := nodup_apart hnd
  obtain ⟨n1', n2', n3'⟩ := nodup_apart hnd'
  rw [disj_iff] at hi
  rw [allIn_iff] at hcl
  
  have hI1 : ∀ n it, s1.I n = some it → AS.I { s1 with items := s1.items ++ Fr } n = some it := by
    intro n it h
    show findI n (s1.items ++ Fr) = some it
    rw [findI_append, show findI n s1.items = some it from h]
  have hIF : ∀ n it, findI n Fr = some it → AS.I { s1 with items := s1.items ++ Fr } n = some it := by
    intro n it h
    show findI n (s1.items ++ Fr) = some it
    rw [findI_append, findI_none (fun hm => n3 n hm (find_names h))]; exact h
  have hS1 : ∀ n, s1.S n = AS.S { s1 with items := s1.items ++ Fr } n ∨ s1.S n = none := by
    intro n
    unfold AS.S
    cases hh : s1.I n with
    | none => exact .inr rfl
    | some it => left; rw [hI1 n it hh]
  let Mu1 : MuT := { blk := fun b => ∃ n it p, s1.I n = some it ∧ it.owned = true ∧ ρ.loc n = some p ∧ p.1 = b, loc := ρ.loc, tot := ρ.tot, sh := s1.S, out := ρ.out }
  have hs1 : Sim w Mu1 ρ s1 a w := by
    refine ⟨hs.defers, n1, hs.size, ?_, ?_, ?_, ?_, ?_, Nat.le_refl _, fun _ _ _ => rfl, fun n _ => ⟨rfl, rfl, .inl rfl⟩, ⟨rfl, rfl⟩, fun b hb => ⟨Nat.lt_of_lt_of_le (hs.out b hb).1 hs.mono, ?_⟩, rfl⟩
    · intro t
      exact (hs.rel t).frame fun n _ => ⟨rfl, rfl, hS1 n⟩
    · intro n it hh
      exact (hs.hold n it (hI1 n it hh)).frame ⟨rfl, rfl⟩ (fun m _ => ⟨rfl, rfl, hS1 m⟩) (fun _ _ => rfl) (fun b hb => ⟨hb, rfl⟩)
    · intro n it p hh ho hp; exact .inr ⟨n, it, p, hh, ho, hp, rfl⟩
    · intro n m it it' p q h1 h2 ho hne hp hq; exact hs.sep n m it it' p q (hI1 _ _ h1) (hI1 _ _ h2) ho hne hp hq
    · intro n it p h1 hp; exact hs.lt n it p (hI1 _ _ h1) hp
    · rintro ⟨n, it, p, k1, k2, k3, k4⟩
      rcases hs.own n it p (hI1 _ _ k1) k2 k3 with h2 | h2
      · have := (hs.out b hb).1; omega
      · exact (hs.out b hb).2 (k4 ▸ h2)
  refine reaches_iff.1 h w Mu1 ρ a w Q hs1 fun a' w' ρ' hs' => hQ a' w' ρ' ?_
  
  have hFpin : ∀ n, n ∈ putNames Fr → ρ'.loc n = ρ.loc n ∧ ρ'.tot n = ρ.tot n := by
    intro n hn
    have := hs'.pin n (by rw [hlo]; exact pinsN_mem hpin hn)
    exact ⟨this.1, this.2.1⟩
  have hI' : ∀ n it, AS.I { s' with items := s'.items ++ Fr } n = some it → s'.I n = some it ∨ (n ∉ putNames s'.items ∧ findI n Fr = some it) := by
    intro n it hh
    rcases find_app (show findI n (s'.items ++ Fr) = some it from hh) with h1 | ⟨h1, h2⟩
    · exact .inl h1
    · exact .inr ⟨none_of h1, h2⟩
  have hSout : ∀ n, n ∉ putNames Fr → AS.S { s' with items := s'.items ++ Fr } n = s'.S n := by
    intro n hn
    unfold AS.S
    show (findI n (s'.items ++ Fr)).map Item.shape = (findI n s'.items).map Item.shape
    rw [findI_append]
    cases hh : findI n s'.items with
    | some it => rfl
    | none => rw [findI_none hn]
  have hSin : ∀ n, n ∈ putNames Fr → AS.S { s' with items := s'.items ++ Fr } n = AS.S { s1 with items := s1.items ++ Fr } n := by
    intro n hn
    unfold AS.S
    show (findI n (s'.items ++ Fr)).map Item.shape = (findI n (s1.items ++ Fr)).map Item.shape
    rw [findI_append, findI_append, findI_none (fun hm => n3 n hm hn), findI_none (fun hm => n3' n hm hn)]
  have hne : ∀ n m p q it, n ∈ putNames s1.items → s1.I n = some it → it.owned = true → ρ.loc n = some p → m ∈ putNames Fr → ρ.loc m = some q → p.1 ≠ q.1 := by
    intro n m p q it hn h1 ho hp hm hq
    obtain ⟨it', h2⟩ := putNames_iff.1 hm
    cases hf : findI m Fr with
    | none => exact absurd hm (none_of hf)
    | some jt => exact hs.sep n m it jt p q (hI1 n it h1) (hIF m jt hf) ho (fun e => n3 n hn (e ▸ hm)) hp hq
  have hagree : ∀ n, n ∉ putNames Fr → Agree ρ' ρ' s'.S (AS.S { s' with items := s'.items ++ Fr }) n := fun n hn => ⟨rfl, rfl, .inl (hSout n hn)⟩
  have hFheap : ∀ n q, n ∈ putNames Fr → ρ.loc n = some q → w'.heap[q.1]? = w.heap[q.1]? ∧ q.1 < w.heap.size := by
    intro n q hn hq
    have hlt : q.1 < w.heap.size := by
      cases hf : findI n Fr with
      | none => exact absurd hn (none_of hf)
      | some jt => exact hs.lt n jt q (hIF n jt hf) hq
    refine ⟨hs'.frame q.1 hlt ?_, hlt⟩
    rintro ⟨m, it, p, h1, h2, h3, h4⟩
    exact hne m n p q it (find_names h1) h1 h2 h3 hn hq h4
  refine ⟨hs'.defers, hnd', hs'.size, ?_, ?_, ?_, ?_, ?_, Nat.le_trans hs.mono hs'.mono, ?_, ?_, ?_, fun b hb => hs.out b (show ρ.out b from (show ρ'.out = ρ.out from hs'.outp) ▸ hb), (show ρ'.out = ρ.out from hs'.outp).trans hs.outp⟩
  · intro t
    show RelV ρ' _ (findT t s'.tmps) _
    have hr := hs'.rel t
    rcases findT_mem (t := t) (l := s'.tmps) with e | hm
    · rw [e]; exact relDead _ _ _
    · have hsd := sideT_mem ht hm
      change RelV ρ' s'.S (findT t s'.tmps) _ at hr
      revert hr hsd
      generalize findT t s'.tmps = v
      intro hsd hr
      have plain : disj v.names (putNames Fr) = true → RelV ρ' (AS.S { s' with items := s'.items ++ Fr }) v (a'.tmps.getD t undef) :=
        fun hd => hr.frame fun n hn => hagree n (disj_iff.1 hd n hn)
      unfold sideV at hsd
      split at hsd
      · rename_i at0
        unfold sideA at hsd
        split at hsd
        · rename_i n b o z
          split at hsd
          · rename_i hf
            exact hr.frame fun m hm => by
              have : m = n := by simpa [AV.names, SV.names, At.names] using hm
              subst this; exact hagree m (none_of hf)
          · rename_i it hf
            split at hsd
            · rename_i l
              simp only [RelV, RelSV, RelAt] at hr ⊢
              obtain ⟨p, r1, r2, r3⟩ := hr
              refine ⟨p, r1, r2, ?_⟩
              intro sh hsh L hL
              rw [hSin n (find_names hf)] at hsh
              have : AS.S { s1 with items := s1.items ++ Fr } n = some (Item.obj l).shape := S_of (hIF n _ hf)
              rw [this] at hsh
              injection hsh with hsh
              subst hsh
              intro hc; simp [Item.shape, Shape.isObj] at hc
            · cases hsd
        · exact plain hsd
      · exact plain hsd
  · intro n it hh
    rcases hI' n it hh with h1 | ⟨h1, h2⟩
    · refine (hs'.hold n it h1).frame ⟨rfl, rfl⟩ (fun m hm => hagree m (hi m (putSays'_mem (findI_mem h1) hm))) (fun _ _ => rfl) (fun b hb => ⟨hb, rfl⟩)
    · have hnF := find_names h2
      have hl := hFpin n hnF
      refine (hs.hold n it (hIF n it h2)).frame hl (fun m hm => ?_) (fun p hp => (hFheap n p hnF hp).1) (fun b hb => ⟨(show ρ'.out = ρ.out from hs'.outp).symm ▸ hb, hs'.frame b (Nat.lt_of_lt_of_le (hs.out b hb).1 hs.mono) (hs1.out b hb).2⟩)
      have hmF := hcl m (putSays'_mem (findI_mem h2) hm)
      exact ⟨(hFpin m hmF).1, (hFpin m hmF).2, .inl (hSin m hmF)⟩
  · intro n it p hh ho hp
    rcases hI' n it hh with h1 | ⟨h1, h2⟩
    · rcases hs'.own n it p h1 ho hp with g | ⟨m, jt, q, g1, g2, g3, g4⟩
      · exact .inl (Nat.le_trans hs.mono g)
      · rw [← g4]; exact hs.own m jt q (hI1 m jt g1) g2 g3
    · rw [(hFpin n (find_names h2)).1] at hp
      exact hs.own n it p (hIF n it h2) ho hp
  · intro n m it it' p q hh hh' ho hnm hp hq
    rcases hI' n it hh with h1 | ⟨h1, h2⟩
    · rcases hI' m it' hh' with k1 | ⟨k1, k2⟩
      · exact hs'.sep n m it it' p q h1 k1 ho hnm hp hq
      · have hmF := find_names k2
        rw [(hFpin m hmF).1] at hq
        have hlt := (hFheap m q hmF hq).2
        rcases hs'.own n it p h1 ho hp with g | ⟨n', jt, q', g1, g2, g3, g4⟩
        · omega
        · rw [← g4]; exact hne n' m q' q jt (find_names g1) g1 g2 g3 hmF hq
    · have hnF := find_names h2
      rw [(hFpin n hnF).1] at hp
      rcases hI' m it' hh' with k1 | ⟨k1, k2⟩
      · have hlt := (hFheap n p hnF hp).2
        cases ho' : it'.owned with
        | true =>
          rcases hs'.own m it' q k1 ho' hq with g | ⟨n', jt, q', g1, g2, g3, g4⟩
          · omega
          · rw [← g4]; exact (hne n' n q' p jt (find_names g1) g1 g2 g3 hnF hp).symm
        | false =>
          obtain ⟨hm1, hpm⟩ := sideI_mem hv (findI_mem k1) ho'
          cases hf : findI m s1.items with
          | none => exact absurd hm1 (none_of hf)
          | some jt =>
            have hq' : ρ.loc m = some q := by
              have e : ρ'.loc m = ρ.loc m := (hs'.pin m hpm).1
              rw [← e]; exact hq
            exact hs.sep n m it jt p q (hIF n it h2) (hI1 m jt hf) ho hnm hp hq'
      · rw [(hFpin m (find_names k2)).1] at hq
        exact hs.sep n m it it' p q (hIF n it h2) (hIF m it' k2) ho hnm hp hq
  · intro n it p hh hp
    rcases hI' n it hh with h1 | ⟨h1, h2⟩
    · exact hs'.lt n it p h1 hp
    · rw [(hFpin n (find_names h2)).1] at hp
      exact Nat.lt_of_lt_of_le (hFheap n p (find_names h2) hp).2 hs'.mono
  · intro b hb hnb
    rw [hs'.frame b (Nat.lt_of_lt_of_le hb hs.mono) ?_]
    · exact hs.frame b hb hnb
    · rintro ⟨m, it, p, h1, h2, h3, h4⟩
      rcases hs.own m it p (hI1 m it h1) h2 h3 with g | g
      · omega
      · exact hnb (h4 ▸ g)
  · intro n hn
    have hn' : n < s'.lo ∨ hiN ≤ n := hn
    obtain ⟨g1, g2, g3⟩ := hs'.pin n hn'
    obtain ⟨k1, k2, k3⟩ := hs.pin n (by rw [← hlo]; exact hn')
    refine ⟨g1.trans k1, g2.trans k2, ?_⟩
    by_cases hF : n ∈ putNames Fr
    · rw [hSin n hF]; exact k3
    · rw [hSout n hF]
      rcases g3 with g3 | g3
      · rw [g3]
        rcases hS1 n with e | e
        · change s1.S n = _ ∨ s1.S n = none; rw [e]; exact k3
        · exact .inr e
      · exact .inr g3
  · exact ⟨hs'.still.1.trans hs.still.1, hs'.still.2.trans hs.still.2⟩


theorem loop_reach {P : Program} {E : Env} (hΘ : TypesOk P E.Θ) (hΓ : CtxOk P E.Γ) (hm : P.follows .mixedOrders = true) {ν : Nrm} {σ : Shp} {id : Nat} {body : Code} {F : (R : Type) → List Leaf → (X → AS → Option R) → Option R}
    (hlp : LoopsOk P E.lp body) (h : ∀ R ls k r, F R ls k = some r → ∃ fuel, roundsOf E ν id body k fuel (fill σ ls) = some r) {R : Type} {ls : List Leaf} {k : X → AS → Option R} {r : R} (hk : F R ls k = some r) :
    ∃ e s', k e s' = some r ∧ Reaches P (.block id (.loop body)) (fill σ ls) e s' := by
  obtain ⟨fuel, hf⟩ := h R ls k r hk
  have hb : ∀ (s : AS) (k : X → AS → Option R) (r : R), exec E body s k = some r → ∃ e s', k e s' = some r ∧ Reaches P body s e s' := (exec_sound hΘ hΓ hm body hlp).1
  obtain ⟨e, s'', h1, h2⟩ := iter_rounds hb _ _ _ hf
  obtain ⟨he, n, hw⟩ := rounds_wp h2
  have hl : ∀ w0 Mu ρ a w (Q : Exit → Act → World → Prop), Sim w0 Mu ρ (fill σ ls) a w → (∀ a' w' ρ', Sim w0 Mu ρ' s'' a' w' → Exit.inBlock id Q e.out a' w') → (Code.block id (.loop body)).wp P Q a w := by
    intro w0 Mu ρ a w Q hs hQ
    exact wp_block (wp_loop_rounds n (hw w0 Mu ρ a w _ hs hQ))
  cases e with
  | normal => exact absurd rfl he
  | ret => exact ⟨.ret, s'', h1, fun w0 Mu ρ a w Q hs hQ => hl w0 Mu ρ a w Q hs hQ⟩
  | exit i =>
    simp only at h1
    split at h1
    · rename_i e
      have e := beqT e; subst e
      refine ⟨.normal, s'', h1, fun w0 Mu ρ a w Q hs hQ => hl w0 Mu ρ a w Q hs fun a' w' ρ' hs' => ?_⟩
      simp only [X.out, Exit.inBlock, if_true]; exact hQ a' w' ρ' hs'
    · rename_i e
      have e := beqN e
      refine ⟨.exit i, s'', h1, fun w0 Mu ρ a w Q hs hQ => hl w0 Mu ρ a w Q hs fun a' w' ρ' hs' => ?_⟩
      simp only [X.out, Exit.inBlock, if_neg e]; exact hQ a' w' ρ' hs'

def extraN (K : List Nat) (lo : Nat) : List (Nat × Item) → List Nat
  | [] => []
  | (n, _) :: l => match (Nat.blt n lo || Nat.ble hiN n) && !(memN n K) with | true => n :: extraN K lo l | false => extraN K lo l

def backOk (Fr is : List (Nat × Item)) (lo : Nat) (s' : AS) : Bool :=
  Nat.beq s'.lo lo && (nodupN (putNames s'.items ++ putNames Fr) && (sideT Fr s'.tmps && (disj (putSays' s'.items) (putNames Fr) && sideI s'.lo is s'.items)))

def mkLF (ν : Nrm) (σ : Shp) (F : (R : Type) → List Leaf → (X → AS → Option R) → Option R) : LoopFn := fun R s k =>
  match nrm { slots := ν.slots, items := ν.items ++ extraN (ν.items ++ rowNames ν.slots) s.lo s.items } s with
  | some s2 => match proj σ { n := s2.n, lo := s2.lo, tmps := s2.tmps, items := partO (extraN (ν.items ++ rowNames ν.slots) s.lo s.items) s2.items } with
    | some ls => match pinsN s2.lo (putNames (partI (extraN (ν.items ++ rowNames ν.slots) s.lo s.items) s2.items)) && allIn (putSays' (partI (extraN (ν.items ++ rowNames ν.slots) s.lo s.items) s2.items)) (putNames (partI (extraN (ν.items ++ rowNames ν.slots) s.lo s.items) s2.items)) with
      | true => F R ls fun e s' => match backOk (partI (extraN (ν.items ++ rowNames ν.slots) s.lo s.items) s2.items) (partO (extraN (ν.items ++ rowNames ν.slots) s.lo s.items) s2.items) s2.lo s' with
        | true => k e { n := s'.n, lo := s'.lo, tmps := s'.tmps, items := s'.items ++ partI (extraN (ν.items ++ rowNames ν.slots) s.lo s.items) s2.items }
        | false => none
      | false => none
    | none => none
  | none => none

theorem loopOkF_of {P : Program} {E : Env} (hΘ : TypesOk P E.Θ) (hΓ : CtxOk P E.Γ) (hm : P.follows .mixedOrders = true) {ν : Nrm} {σ : Shp} {id : Nat} {body : Code} {F : (R : Type) → List Leaf → (X → AS → Option R) → Option R}
    (hlp : LoopsOk P E.lp body) (h : ∀ R ls k r, F R ls k = some r → ∃ fuel, roundsOf E ν id body k fuel (fill σ ls) = some r) : LoopOk P (mkLF ν σ F) id body := by
  intro R s k r hk
  unfold mkLF at hk
  generalize hX : extraN (ν.items ++ rowNames ν.slots) s.lo s.items = X at hk
  split at hk
  · rename_i s2 hn
    split at hk
    · rename_i ls hp
      split at hk
      · rename_i hb
        rw [Bool.and_eq_true] at hb
        obtain ⟨e, s', h1, h2⟩ := loop_reach hΘ hΓ hm hlp h hk
        rw [proj_fill hp] at h2
        split at h1
        · rename_i hbk
          simp only [backOk, Bool.and_eq_true] at hbk
          obtain ⟨b1, b2, b3, b4, b5⟩ := hbk
          refine ⟨e, _, h1, reaches_iff.2 fun w0 Mu ρ a w Q hs hQ => ?_⟩
          obtain ⟨ρ2, hs2⟩ := hs.nrm hn
          have hnd := hs2.nd
          have hnd2 : Nodup' (partO X s2.items ++ partI X s2.items) := nodup_append (nodup_partO hnd) (nodup_partI hnd) fun n h1 h2 => (names_partO h1).2 (names_partI h2).2
          have heq : Eqv s2 { n := s2.n, lo := s2.lo, tmps := s2.tmps, items := partO X s2.items ++ partI X s2.items } := by
            refine ⟨rfl, rfl, rfl, ?_⟩
            funext n
            show findI n s2.items = findI n (partO X s2.items ++ partI X s2.items)
            rw [findI_append, find_partO, find_partI]
            by_cases h : n ∈ X
            · simp [h]
            · simp only [h, if_false]
              cases findI n s2.items <;> rfl
          have hs3 := hs2.eqv heq hnd2
          refine reaches_iff.1 (reaches_frame h2 (beqT b1) hnd2 (nodup'_of ?_) hb.1 hb.2 b3 b4 b5) w0 Mu ρ2 a w Q hs3 hQ
          rw [putNames_append]; exact nodupN_iff.1 b2
        · cases h1
      · cases hk
    · cases hk
  · cases hk


def svAVs : List SV → List AV
  | [] => []
  | v :: l => .s v :: svAVs l

def retN {R : Type} (Θ : Types) (np : Nat) (rv : List ResultVar) (k : List DV → Option R) (e : X) (s : AS) : Option R :=
  match e with
  | .exit _ => none
  | _ => match Nat.beq s.lo np with
   | false => none
   | true => match resSV Θ s rv with
    | some vs => k [.fr (svAVs vs) s.items]
    | none => none

def callN {R : Type} (E : Env) (np n : Nat) (body : Code) (rv : List ResultVar) (ds : List DV) (k : List DV → Option R) : Option R :=
  match ds with
  | [.fr avs its] => match Nat.beq avs.length np && Nat.ble np n with
    | true => exec E body { n := n, lo := np, tmps := numT 0 avs, items := its } (retN E.Θ np rv k)
    | false => none
  | _ => none

theorem svAVs_length : ∀ {l : List SV}, (svAVs l).length = l.length
  | [] => rfl
  | _ :: l => by simp [svAVs, svAVs_length (l := l)]
theorem svAVs_get : ∀ {l : List SV} {t : Nat}, (svAVs l)[t]? = (l[t]?).map AV.s
  | [], t => rfl
  | v :: l, 0 => rfl
  | v :: l, t + 1 => by simp [svAVs, svAVs_get (l := l)]

theorem inl_contract {P : Program} {E : Env} (hΘ : TypesOk P E.Θ) (hΓ : CtxOk P E.Γ) (hm : P.follows .mixedOrders = true) {g n np : Nat} {fn : Func} {body : Code} {rv : List ResultVar} (ok : FnOk P g fn n body rv) (hlp : LoopsOk P E.lp body) :
    Contract P g { sig := { ps := [], rs := [] }, impl := fun _ ds k => callN E np n body rv ds k, kind := .inl np } := by
  intro R ds k r h
  simp only at h
  unfold callN at h
  split at h
  · rename_i avs its
    split at h
    · rename_i hnp
      rw [Bool.and_eq_true] at hnp
      have hlen := beqT hnp.1
      have hle := ble_iff.1 hnp.2
      obtain ⟨e, s', h1, h2⟩ := (exec_sound hΘ hΓ hm body hlp).1 _ _ _ h
      have key : ∃ vs, (∀ i, e ≠ .exit i) ∧ resSV E.Θ s' rv = some vs ∧ k [.fr (svAVs vs) s'.items] = some r ∧ s'.lo = np := by
        unfold retN at h1
        split at h1
        · cases h1
        · rename_i he
          split at h1
          · cases h1
          · rename_i hlo
            split at h1
            · rename_i vs hvs
              exact ⟨vs, fun i h => he i h, hvs, h1, beqT hlo⟩
            · cases h1
      obtain ⟨vs, he, hvs, hk, hlo⟩ := key
      refine ⟨_, hk, ?_⟩
      intro avs' its' e1
      injection e1 with e1 _; injection e1 with e1 e2; subst e1; subst e2
      refine ⟨_, _, rfl, fun w Mu ρ xs hxl hs0 => ⟨⟨fn, ok.look, by rw [ok.body]; rfl, ok.name⟩, ?_⟩⟩
      have hn := ok.n
      subst hn
      refine calls_of_wp ok.look ok.body ?_
      have hs1 : Sim w Mu ρ { n := fn.ntmps, lo := np, tmps := numT 0 avs, items := its } { tmps := xs.toArray ++ Array.replicate (fn.ntmps - xs.toArray.size) undef, defers := [] } w := by
        refine ⟨rfl, hs0.nd, by simp; omega, ?_, hs0.hold, hs0.own, hs0.sep, hs0.lt, hs0.mono, hs0.frame, hs0.pin, hs0.still, hs0.out, hs0.outp⟩
        intro t
        have hr := hs0.rel t
        by_cases ht : t < xs.length
        · have e : (xs.toArray ++ Array.replicate (fn.ntmps - xs.toArray.size) undef).getD t undef = xs.toArray.getD t undef := by
            rw [Array.getD_eq_getD_getElem?, Array.getElem?_append_left (by simpa using ht), Array.getD_eq_getD_getElem?]
          show RelV ρ _ _ ((xs.toArray ++ Array.replicate (fn.ntmps - xs.toArray.size) undef).getD t undef)
          rw [e]; exact hr
        · have e : AS.T { n := fn.ntmps, lo := np, tmps := numT 0 avs, items := its } t = .s (.one .dead) := by
            show findT t (numT 0 avs) = _
            rw [numT_find avs 0 t (Nat.zero_le _), Nat.sub_zero, List.getElem?_eq_none (by omega)]; rfl
          rw [e]; exact relDead _ _ _
      refine reaches_iff.1 h2 w Mu ρ _ _ _ hs1 ?_
      intro a' w' ρ' hs
      obtain ⟨Xs, x1, x2, x3, x4⟩ := resSV_spec hΘ hs hvs
      have hpost : a'.defers = [] ∧ ∃ v, (results fn a'.tmps).run P w' = .ok v w' ∧ ∃ Xs ρ', Ending.returned v = .returned (resVal Xs) ∧ Xs.length = (svAVs vs).length ∧
          Sim w Mu ρ' { n := (svAVs vs).length, lo := np, tmps := numT 0 (svAVs vs), items := s'.items } { tmps := Xs.toArray, defers := [] } w' := by
        refine ⟨hs.defers, resVal Xs, results_eq fn _ _ (by rw [ok.rv]; exact x4), Xs, ρ', rfl, by rw [svAVs_length]; omega, ?_⟩
        refine ⟨rfl, hs.nd, by rw [svAVs_length]; simp; omega, ?_, hs.hold, hs.own, hs.sep, hs.lt, hs.mono, hs.frame, by rw [← hlo]; exact hs.pin, hs.still, hs.out, hs.outp⟩
        intro t
        show RelV ρ' _ (findT t (numT 0 (svAVs vs))) _
        rw [numT_find _ 0 t (Nat.zero_le _), Nat.sub_zero, svAVs_get]
        by_cases ht : t < vs.length
        · have hv := List.getElem?_eq_getElem ht
          have hX := List.getElem?_eq_getElem (l := Xs) (i := t) (by omega)
          have e : (Xs.toArray).getD t undef = Xs[t]'(by omega) := by
            rw [Array.getD_eq_getD_getElem?]; simp [hX]
          rw [hv]
          show RelV ρ' _ (.s vs[t]) ((Xs.toArray).getD t undef)
          rw [e]
          exact x3 t _ _ hv hX
        · rw [List.getElem?_eq_none (by omega)]; exact relDead _ _ _
      cases e with
      | normal => exact hpost
      | ret => exact hpost
      | exit i => exact absurd rfl (he i)
    · cases h
  · cases h

end Go.Eng

namespace Go.Proofs.YtogcijgklnfjjaaGreat
open Go Go.Eng
set_option maxRecDepth 100000
set_option linter.unusedVariables false

noncomputable def I67 : (R : Type) → List DV → (List DV → Option R) → Option R := fun _ ds k => match ds with
  | [.v (.one (.int .i64 x))] => k [.v (.one (.bool (decide (x ≥ 1) && decide (x ≤ 255))))]
  | _ => none
theorem c67 : Contract Tryz.prog 67 { sig := S67, impl := I67 } := by
  refine Contract.refine fun R ds k r h => ⟨_, f67_contract 0 ctxOk_nil, ?_⟩
  unfold I67 at h
  split at h
  · rename_i x
    rw [f67_raw_eq]
    unfold f67_raw
    cases h1 : decide (x ≥ 1) with
    | false => rw [h1] at h; exact h
    | true => rw [h1] at h; exact h
  · cases h
noncomputable def I13 : (R : Type) → List DV → (List DV → Option R) → Option R := fun _ ds k => match ds with
  | [.v (.one (.int .i64 x))] => k [.v (.one (.int .i64 x))]
  | _ => none
theorem c13 : Contract Tryz.prog 13 { sig := S13, impl := I13 } := by
  refine Contract.refine fun R ds k r h => ⟨_, f13_contract 0 ctxOk_nil, ?_⟩
  unfold I13 at h
  split at h
  · rw [f13_raw_eq]; exact h
  · cases h
noncomputable def GT1 : Ctx := (13, { sig := S13, impl := I13 }) :: (22, { sig := S22, impl := I22 }) :: (68, { sig := S68, impl := I68 }) :: (67, { sig := S67, impl := I67 }) :: GZ
theorem GT1_ok : CtxOk Tryz.prog GT1 := ctxOk_cons ok13 rfl c13 (ctxOk_cons ok22 rfl c22 (ctxOk_cons ok68 rfl c68 (ctxOk_cons ok67 rfl c67 GZ_ok)))
end Go.Proofs.YtogcijgklnfjjaaGreat

namespace Go.Proofs.YtogcijgklnfjjaaGreat
open Go Go.Eng
set_option maxRecDepth 100000
set_option linter.unusedVariables false

def f70_0_sh : Shp := { n := 29, lo := 1, slots := [(3, .one (.fix (At.mapv 9))), (10, .one (.fix (At.own 0))), (11, .one (.int IntKind.i64)), (12, .one (.int IntKind.i64))], items := [(0, .view (RK.one IntKind.i64) 1), (9, .mp (MK.int IntKind.i64) IntKind.i64)] }
def f70_0_ex1 : Shp := { n := 29, lo := 1, slots := [(2, .one (.int IntKind.i64)), (19, .one (.bool)), (5, .one (.int IntKind.i64)), (4, .one (.int IntKind.i64)), (13, .one (.bool)), (3, .one (.fix (At.mapv 9))), (10, .one (.fix (At.own 0))), (11, .one (.int IntKind.i64)), (12, .one (.int IntKind.i64))], items := [(0, .view (RK.one IntKind.i64) 1), (9, .mp (MK.int IntKind.i64) IntKind.i64)] }
def f70_0_ex2 : Shp := { n := 29, lo := 1, slots := [(2, .one (.int IntKind.i64)), (23, .one (.bool)), (19, .one (.bool)), (5, .one (.int IntKind.i64)), (4, .one (.int IntKind.i64)), (13, .one (.bool)), (3, .one (.fix (At.mapv 9))), (10, .one (.fix (At.own 0))), (11, .one (.int IntKind.i64)), (12, .one (.int IntKind.i64))], items := [(0, .view (RK.one IntKind.i64) 1), (9, .mp (MK.int IntKind.i64) IntKind.i64)] }
def f70_0_ex3 : Shp := { n := 29, lo := 1, slots := [(13, .one (.bool)), (3, .one (.fix (At.mapv 9))), (10, .one (.fix (At.own 0))), (11, .one (.int IntKind.i64)), (12, .one (.int IntKind.i64))], items := [(0, .view (RK.one IntKind.i64) 1), (9, .mp (MK.int IntKind.i64) IntKind.i64)] }
noncomputable def f70_0_st {R : Type} (N : Nat) (self : Int → Int → List Int → List (List Int) → Option R) (k1 : Int → Bool → Int → Int → Bool → Int → Int → List Int → List (List Int) → Option R) (k2 : Int → Bool → Bool → Int → Int → Bool → Int → Int → List Int → List (List Int) → Option R) (k3 : Bool → Int → Int → List Int → List (List Int) → Option R) (x1 : Int) (x2 : Int) (x3 : List Int) (x4 : List (List Int)) : Option R :=
 bif Decidable.decide (x2 < x1) then
 bif Decidable.decide (0 ≤ x2) && Decidable.decide (x2 < nI (rowLen 1 x3)) then
 bif !(Decidable.decide (x3.getD (mulE x2.toNat 1) 0 ≥ 1) && Decidable.decide (x3.getD (mulE x2.toNat 1) 0 ≤ 255)) then k1 4 (!(Decidable.decide (x3.getD (mulE x2.toNat 1) 0 ≥ 1) && Decidable.decide (x3.getD (mulE x2.toNat 1) 0 ≤ 255))) (x3.getD (mulE x2.toNat 1) 0) x2 (Decidable.decide (x2 < x1)) x1 x2 x3 x4
 else
 bif Decidable.decide (mget x4 [x3.getD (mulE x2.toNat 1) 0] > 0) then k2 5 (Decidable.decide (mget x4 [x3.getD (mulE x2.toNat 1) 0] > 0)) (!(Decidable.decide (x3.getD (mulE x2.toNat 1) 0 ≥ 1) && Decidable.decide (x3.getD (mulE x2.toNat 1) 0 ≤ 255))) (x3.getD (mulE x2.toNat 1) 0) x2 (Decidable.decide (x2 < x1)) x1 x2 x3 x4
 else
 let v0 : Int := IntKind.i64.wrap (x2 + 1);
 self x1 v0 x3 (mput x4 [x3.getD (mulE x2.toNat 1) 0] v0)
 else Option.none
else k3 (Decidable.decide (x2 < x1)) x1 x2 x3 x4
noncomputable def f70_0_lp {R : Type} (N : Nat) (k1 : Int → Bool → Int → Int → Bool → Int → Int → List Int → List (List Int) → Option R) (k2 : Int → Bool → Bool → Int → Int → Bool → Int → Int → List Int → List (List Int) → Option R) (k3 : Bool → Int → Int → List Int → List (List Int) → Option R) : Nat → Int → Int → List Int → List (List Int) → Option R
 | 0, _, _, _, _ => none
 | n + 1, x1, x2, x3, x4 => f70_0_st N (f70_0_lp N k1 k2 k3 n) k1 k2 k3 x1 x2 x3 x4
noncomputable def f70_0_F (N : Nat) : (R : Type) → List Leaf → (X → AS → Option R) → Option R := fun _ ls K => match ls with
 | [.i x1, .i x2, .l x3, .ll x4] => f70_0_lp N (fun y1 y2 y3 y4 y5 y6 y7 y8 y9 => K (X.ret) (fill f70_0_ex1 [.i y1, .b y2, .i y3, .i y4, .b y5, .i y6, .i y7, .l y8, .ll y9])) (fun y1 y2 y3 y4 y5 y6 y7 y8 y9 y10 => K (X.ret) (fill f70_0_ex2 [.i y1, .b y2, .b y3, .i y4, .i y5, .b y6, .i y7, .i y8, .l y9, .ll y10])) (fun y1 y2 y3 y4 y5 => K (X.normal) (fill f70_0_ex3 [.b y1, .i y2, .i y3, .l y4, .ll y5])) N x1 x2 x3 x4
 | _ => none
noncomputable def f70_raw {R : Type} (N : Nat) (xs : List Int) (k : List DV → Option R) : Option R :=
 bif nI (rowLen 1 xs) == 0 then k [DV.v (SV.one (At.int IntKind.i64 8))] else f70_0_lp N (fun w0_1 w0_2 w0_3 w0_4 w0_5 w0_6 w0_7 w0_8 w0_9 => k [DV.v (SV.one (At.int IntKind.i64 w0_1))]) (fun w1_1 w1_2 w1_3 w1_4 w1_5 w1_6 w1_7 w1_8 w1_9 w1_10 => k [DV.v (SV.one (At.int IntKind.i64 w1_1))]) (fun w2_1 w2_2 w2_3 w2_4 w2_5 => k [DV.v (SV.one (At.int IntKind.i64 0))]) N (nI (rowLen 1 xs)) 0 xs []


noncomputable def E70 (N : Nat) : Env := { Θ := Th, Γ := GT1, K := K70, ν := N70, fuel := 0, lp := [(0, mkL N70_0 f70_0_sh (f70_0_F N))] }

theorem f70_0_st_eq {R : Type} (N : Nat) (K : X → AS → Option R) (n : Nat) (x1 : Int) (x2 : Int) (x3 : List Int) (x4 : List (List Int)) : roundsOf (E70 N) N70_0 0 B70_0 K (n + 1) (fill f70_0_sh [.i x1, .i x2, .l x3, .ll x4]) = f70_0_st N (fun x1 x2 x3 x4 => roundsOf (E70 N) N70_0 0 B70_0 K n (fill f70_0_sh [.i x1, .i x2, .l x3, .ll x4])) (fun y1 y2 y3 y4 y5 y6 y7 y8 y9 => K (X.ret) (fill f70_0_ex1 [.i y1, .b y2, .i y3, .i y4, .b y5, .i y6, .i y7, .l y8, .ll y9])) (fun y1 y2 y3 y4 y5 y6 y7 y8 y9 y10 => K (X.ret) (fill f70_0_ex2 [.i y1, .b y2, .b y3, .i y4, .i y5, .b y6, .i y7, .i y8, .l y9, .ll y10])) (fun y1 y2 y3 y4 y5 => K (X.normal) (fill f70_0_ex3 [.b y1, .i y2, .i y3, .l y4, .ll y5])) x1 x2 x3 x4 := by kernel_rfl
theorem f70_0_lp_eq {R : Type} (N : Nat) (K : X → AS → Option R) : ∀ (n : Nat) (x1 : Int) (x2 : Int) (x3 : List Int) (x4 : List (List Int)), roundsOf (E70 N) N70_0 0 B70_0 K n (fill f70_0_sh [.i x1, .i x2, .l x3, .ll x4]) = f70_0_lp N (fun y1 y2 y3 y4 y5 y6 y7 y8 y9 => K (X.ret) (fill f70_0_ex1 [.i y1, .b y2, .i y3, .i y4, .b y5, .i y6, .i y7, .l y8, .ll y9])) (fun y1 y2 y3 y4 y5 y6 y7 y8 y9 y10 => K (X.ret) (fill f70_0_ex2 [.i y1, .b y2, .b y3, .i y4, .i y5, .b y6, .i y7, .i y8, .l y9, .ll y10])) (fun y1 y2 y3 y4 y5 => K (X.normal) (fill f70_0_ex3 [.b y1, .i y2, .i y3, .l y4, .ll y5])) n x1 x2 x3 x4
  | 0, _, _, _, _ => rfl
  | n + 1, x1, x2, x3, x4 => by
    rw [f70_0_st_eq, f70_0_lp, show (fun x1 x2 x3 x4 => roundsOf (E70 N) N70_0 0 B70_0 K n (fill f70_0_sh [.i x1, .i x2, .l x3, .ll x4])) = f70_0_lp N (fun y1 y2 y3 y4 y5 y6 y7 y8 y9 => K (X.ret) (fill f70_0_ex1 [.i y1, .b y2, .i y3, .i y4, .b y5, .i y6, .i y7, .l y8, .ll y9])) (fun y1 y2 y3 y4 y5 y6 y7 y8 y9 y10 => K (X.ret) (fill f70_0_ex2 [.i y1, .b y2, .b y3, .i y4, .i y5, .b y6, .i y7, .i y8, .l y9, .ll y10])) (fun y1 y2 y3 y4 y5 => K (X.normal) (fill f70_0_ex3 [.b y1, .i y2, .i y3, .l y4, .ll y5])) n from by funext x1 x2 x3 x4; exact f70_0_lp_eq N K n x1 x2 x3 x4]
theorem f70_0_ok (N : Nat) (hlp : LoopsOk Tryz.prog (E70 N).lp B70_0) (hΓ : CtxOk Tryz.prog (E70 N).Γ) : LoopOk Tryz.prog (mkL N70_0 f70_0_sh (f70_0_F N)) 0 B70_0 := by
  refine loopOk_of (E := E70 N) thOk hΓ mixed hlp ?_
  intro R ls K r h
  unfold f70_0_F at h
  split at h
  · exact ⟨N, by rw [f70_0_lp_eq]; exact h⟩
  · cases h

theorem lok70_0 (N : Nat) (hΓ : CtxOk Tryz.prog GT1) : LoopOk Tryz.prog (mkL N70_0 f70_0_sh (f70_0_F N)) 0 B70_0 := f70_0_ok N (loopsOk_of (l := []) (by kernel_rfl) trivial) hΓ
theorem f70_contract (N : Nat) (hΓ : CtxOk Tryz.prog GT1) : Contract Tryz.prog 70 { sig := S70, impl := fun _ ds k => call (E70 N) S70 29 B70 R70 ds k } :=
  call_contract (E := E70 N) thOk hΓ mixed ok70.look ok70.body ok70.n ok70.rv ok70.name rfl (by decide) (loopsOk_of (l := [(0, B70_0)]) (by kernel_rfl) (allOk_cons (L := mkL N70_0 f70_0_sh (f70_0_F N)) rfl (lok70_0 N hΓ) trivial))
theorem f70_raw_eq {R : Type} (N : Nat) (xs : List Int) (k : List DV → Option R) : call (E70 N) S70 29 B70 R70 [.lst (.one .i64) 1 xs] k = f70_raw N xs k := by kernel_rfl
end Go.Proofs.YtogcijgklnfjjaaGreat

namespace Go.Proofs.YtogcijgklnfjjaaGreat
open Go Go.Eng
set_option maxRecDepth 100000
set_option linter.unusedVariables false

theorem mget_put (k k' : List Int) (v : Int) : ∀ l : List (List Int), mget (mput l k v) k' = if k = k' then v else mget l k'
  | [] => by
    show mget [v :: k] k' = _
    unfold mget
    by_cases h : k = k'
    · rw [if_pos h, show decide ((v :: k).tail = k') = true from decide_eq_true h]; rfl
    · rw [if_neg h, show decide ((v :: k).tail = k') = false from decide_eq_false h]; rfl
  | e :: l => by
    unfold mput
    by_cases h1 : e.tail = k
    · rw [decide_eq_true h1]
      show mget ((v :: k) :: l) k' = _
      unfold mget
      by_cases h : k = k'
      · rw [if_pos h, show decide ((v :: k).tail = k') = true from decide_eq_true h]; rfl
      · rw [if_neg h, show decide ((v :: k).tail = k') = false from decide_eq_false h, show decide (e.tail = k') = false from decide_eq_false (fun q => h (h1.symm.trans q))]
    · rw [decide_eq_false h1]
      show mget (e :: mput l k v) k' = _
      unfold mget
      by_cases h2 : e.tail = k'
      · rw [decide_eq_true h2, if_neg (fun q => h1 (h2.trans q.symm))]
      · rw [decide_eq_false h2]; exact mget_put k k' v l

def seenG (key : Nat → List Int) : Nat → List (List Int)
  | 0 => []
  | i + 1 => mput (seenG key i) (key i) ((i : Int) + 1)
def hasK (key : Nat → List Int) (k : List Int) : Nat → Bool
  | 0 => false
  | i + 1 => decide (key i = k) || hasK key k i
theorem seen_has (key : Nat → List Int) (k : List Int) : ∀ i, decide (mget (seenG key i) k > 0) = hasK key k i
  | 0 => rfl
  | i + 1 => by
    unfold seenG hasK
    rw [mget_put]
    by_cases h : key i = k
    · rw [if_pos h, decide_eq_true h, Bool.true_or]; exact decide_eq_true (by omega)
    · rw [if_neg h, decide_eq_false h, Bool.false_or]; exact seen_has key k i
theorem hasK_iff {key : Nat → List Int} {k : List Int} : ∀ {i}, hasK key k i = true ↔ ∃ j, j < i ∧ key j = k
  | 0 => by simp [hasK]
  | i + 1 => by
    unfold hasK
    rw [Bool.or_eq_true, hasK_iff (i := i), decide_eq_true_eq]
    constructor
    · rintro (h | ⟨j, h1, h2⟩)
      · exact ⟨i, by omega, h⟩
      · exact ⟨j, by omega, h2⟩
    · rintro ⟨j, h1, h2⟩
      by_cases e : j = i
      · subst e; exact .inl h2
      · exact .inr ⟨j, by omega, h2⟩

theorem dupF_iff {xs : List Int} {i : Nat} : ∀ {m k}, dupF xs i m k = true ↔ ∃ j, k ≤ j ∧ j < k + m ∧ xs.getD j 0 = xs.getD i 0
  | 0, k => by simp [dupF]; omega
  | m + 1, k => by
    unfold dupF
    rw [Bool.or_eq_true, dupF_iff (m := m), beq_iff_eq]
    constructor
    · rintro (h | ⟨j, h1, h2, h3⟩)
      · exact ⟨k, by omega, by omega, h⟩
      · exact ⟨j, by omega, by omega, h3⟩
    · rintro ⟨j, h1, h2, h3⟩
      by_cases e : j = k
      · subst e; exact .inl h3
      · exact .inr ⟨j, by omega, by omega, h3⟩
theorem dup_has (xs : List Int) (i : Nat) : hasK (fun j => [xs.getD j 0]) [xs.getD i 0] i = dupF xs i i 0 := by
  rw [Bool.eq_iff_iff, hasK_iff, dupF_iff]
  constructor
  · rintro ⟨j, h1, h2⟩; injection h2 with h2; exact ⟨j, by omega, by omega, h2⟩
  · rintro ⟨j, _, h2, h3⟩; exact ⟨j, by omega, by rw [h3]⟩

theorem f70_out {R : Type} {N : Nat} (K : Int → Option R) {xs : List Int} (hb : xs.length ≤ 1073741824) :
    ∀ j i : Nat, i + j = xs.length → ∀ fuel, j < fuel → f70_0_lp N (fun w0_1 _ _ _ _ _ _ _ _ => K w0_1) (fun w1_1 _ _ _ _ _ _ _ _ _ => K w1_1) (fun _ _ _ _ _ => K 0) fuel (xs.length : Int) (i : Int) xs (seenG (fun j => [xs.getD j 0]) i) = K (idsE xs j i) := by
  intro j
  induction j with
  | zero =>
    intro i h fuel hf
    obtain ⟨f, rfl⟩ : ∃ f, fuel = f + 1 := ⟨fuel - 1, by omega⟩
    show f70_0_st N (f70_0_lp N _ _ _ f) _ _ _ _ _ _ _ = _
    unfold f70_0_st
    rw [decide_eq_false (by omega), cond_false]
    rfl
  | succ j ih =>
    intro i h fuel hf
    obtain ⟨f, rfl⟩ : ∃ f, fuel = f + 1 := ⟨fuel - 1, by omega⟩
    show f70_0_st N (f70_0_lp N _ _ _ f) _ _ _ _ _ _ _ = _
    unfold f70_0_st
    have e4 : IntKind.i64.wrap ((i : Int) + 1) = ((i + 1 : Nat) : Int) := by
      rw [show (i : Int) + 1 = ((i + 1 : Nat) : Int) by omega]; exact wi64 (by omega)
    rw [rows1]
    dsimp only
    rw [show mulE (Int.toNat (i : Int)) 1 = i from rfl, decide_eq_true (show (0 : Int) ≤ (i : Int) by omega), decide_eq_true (show (i : Int) < (xs.length : Int) by omega), e4, seen_has, dup_has]
    simp only [Bool.and_self, cond_true]
    rw [idsE]
    have hbad : (!(decide (xs.getD i 0 ≥ 1) && decide (xs.getD i 0 ≤ 255))) = (decide (xs.getD i 0 < 1) || decide (xs.getD i 0 > 255)) := by
      rw [Bool.eq_iff_iff]; simp
    rw [hbad]
    cases h1 : decide (xs.getD i 0 < 1) || decide (xs.getD i 0 > 255) with
    | true => rfl
    | false =>
      rw [cond_false, cond_false]
      cases dupF xs i i 0 with
      | true => rfl
      | false =>
        rw [cond_false, cond_false]
        have := ih (i + 1) (by omega) f (by omega)
        exact this
theorem c70 : Contract Tryz.prog 70 { sig := S70, impl := I73 } := by
  refine Contract.refine fun R ds k r h => ?_
  unfold I73 at h
  split at h
  · rename_i xs
    refine ⟨_, f70_contract (xs.length + 1) GT1_ok, ?_⟩
    cases hc : Nat.ble xs.length 1073741824 with
    | false => rw [hc] at h; cases h
    | true =>
      rw [hc, cond_true] at h
      have hb := Nat.le_of_ble_eq_true hc
      rw [f70_raw_eq]
      unfold f70_raw
      unfold idsN at h
      rw [rows1]
      cases hq : Nat.beq xs.length 0 with
      | true =>
        rw [hq] at h
        rw [Nat.eq_of_beq_eq_true hq]
        exact h
      | false =>
        rw [hq, cond_false] at h
        have hq : xs.length ≠ 0 := fun e => by rw [e] at hq; cases hq
        rw [show (((xs.length : Nat) : Int) == 0) = false by simp; intro e; exact hq (by rw [e]; rfl), cond_false]
        exact (f70_out (N := xs.length + 1) (fun w => k [DV.v (SV.one (At.int IntKind.i64 w))]) hb xs.length 0 (by omega) (xs.length + 1) (by omega)).trans h
  · exact (Option.some_ne_none _ h.symm).elim
noncomputable def GT2 : Ctx := (70, { sig := S70, impl := I73 }) :: GT1
theorem GT2_ok : CtxOk Tryz.prog GT2 := ctxOk_cons ok70 rfl c70 GT1_ok
end Go.Proofs.YtogcijgklnfjjaaGreat

namespace Go.Proofs.YtogcijgklnfjjaaGreat
open Go Go.Eng
set_option maxRecDepth 100000
set_option linter.unusedVariables false

end Go.Proofs.YtogcijgklnfjjaaGreat

namespace Go.Proofs.YtogcijgklnfjjaaGreat
open Go Go.Eng
set_option maxRecDepth 100000
set_option linter.unusedVariables false

theorem wAdd {i : Nat} (h : i < 1073741824) : IntKind.i64.wrap ((i : Int) + 1) = ((i + 1 : Nat) : Int) := by
  rw [show (i : Int) + 1 = ((i + 1 : Nat) : Int) by omega]; exact wi64 (by omega)
theorem toN (i : Nat) : mulE (Int.toNat (i : Int)) 32 = i * 32 := rfl
theorem ge0 (i : Nat) : decide ((0 : Int) ≤ (i : Int)) = true := decide_eq_true (by omega)
theorem ltT {i n : Nat} (h : i < n) : decide ((i : Int) < (n : Int)) = true := decide_eq_true (by omega)
theorem ltF {i n : Nat} (h : ¬ i < n) : decide ((i : Int) < (n : Int)) = false := decide_eq_false (by omega)

end Go.Proofs.YtogcijgklnfjjaaGreat

namespace Go.Proofs.YtogcijgklnfjjaaGreat
open Go Go.Eng
set_option maxRecDepth 100000
set_option linter.unusedVariables false

end Go.Proofs.YtogcijgklnfjjaaGreat

namespace Go.Proofs.YtogcijgklnfjjaaGreat
open Go Go.Eng
set_option maxRecDepth 100000
set_option linter.unusedVariables false

def LtE (g : Nat → Nat) : Prop := ∀ j, g j < ell
end Go.Proofs.YtogcijgklnfjjaaGreat

namespace Go.Proofs.YtogcijgklnfjjaaGreat
open Go Go.Eng
set_option maxRecDepth 100000
set_option linter.unusedVariables false

end Go.Proofs.YtogcijgklnfjjaaGreat

namespace Go.Proofs.YtogcijgklnfjjaaGreat
open Go Go.Eng
set_option maxRecDepth 100000
set_option linter.unusedVariables false

structure PB where
  p : Nat → Nat
  m : Nat
  b : Nat
structure PBOk (s : PB) : Prop where
  p : LtE s.p
  b : s.b < ell
end Go.Proofs.YtogcijgklnfjjaaGreat

namespace Go.Proofs.YtogcijgklnfjjaaGreat
open Go Go.Eng
set_option maxRecDepth 100000
set_option linter.unusedVariables false

end Go.Proofs.YtogcijgklnfjjaaGreat

namespace Go.Proofs.YtogcijgklnfjjaaGreat
open Go Go.Eng Go.ChangeShapes Go.WideShapes Go.RowKit
set_option maxRecDepth 100000
theorem own0 : ownKnob Tryz.prog.godebug = none := by kernel_rfl
theorem laidOut : laidOutB Tryz.prog = true := by kernel_rfl
theorem wf_u8 {y : Int} (h : (Lit.int .u8 y).wf = true) : 0 ≤ y ∧ y < 256 := by
  have := bounds_u8 h; omega
theorem bulk_one {H : Type} (d : DataW H) : 1 ≤ Rows.uptoBulk d := by
  cases d with
  | lit l => cases l <;> simp [Rows.uptoBulk]
  | nil => simp [Rows.uptoBulk]
  | ptr d => simp [Rows.uptoBulk]
  | slice elems spare => simp [Rows.uptoBulk]
  | agg parts => simp [Rows.uptoBulk]
  | iface t d => simp [Rows.uptoBulk]
  | map entries => simp [Rows.uptoBulk]
  | held h => simp [Rows.uptoBulk]
theorem bulk_length {H : Type} (l : List (DataW H)) : l.length ≤ Rows.uptoBulkAll l := by
  induction l with
  | nil => simp [Rows.uptoBulkAll]
  | cons x r ih => have := bulk_one x; simp only [Rows.uptoBulkAll, List.length_cons]; omega
theorem bulk_slice {H : Type} {d : DataW H} {len : Nat} (h : (d = .nil ∧ len = 0) ∨ ∃ elems spare, d = .slice elems spare ∧ elems.length = len) : len ≤ Rows.uptoBulk d := by
  rcases h with ⟨rfl, rfl⟩ | ⟨elems, spare, rfl, rfl⟩
  · exact Nat.zero_le _
  · have := bulk_length elems
    simp only [Rows.uptoBulk]; omega
theorem bulk_bound {H : Type} {l : List (DataW H)} (hk : Rows.uptoSmall H l = true) : Rows.uptoBulkAll l ≤ 1048576 := of_decide_eq_true hk
theorem elSc (H : Type) (enc : TypeId × Value → H) : IntEl H enc Tryz.prog 54 .u8 32 := intEl_array Tryz.underlying54 (by kernel_rfl) (by omega) (intEl_int Tryz.underlying5 (by kernel_rfl))
theorem elInt (H : Type) (enc : TypeId × Value → H) : IntEl H enc Tryz.prog 3 .i64 1 := intEl_int Tryz.underlying3 (by kernel_rfl)
theorem okB_row {x : List Int} (hl : x.length = 32) (hw : ∀ y ∈ x, (Lit.int .u8 y).wf = true) : okB x = true := by
  unfold okB
  rw [decide_eq_true hl, Bool.true_and, List.all_eq_true]
  intro b hb
  have := wf_u8 (hw b hb)
  rw [Bool.and_eq_true]
  exact ⟨decide_eq_true this.1, decide_eq_true this.2⟩
theorem okF_row {x : List Int} {len : Nat} (hm : len ≤ 1048576) (hl : x.length = len * 32) (hw : ∀ y ∈ x, (Lit.int .u8 y).wf = true) : okF x = true := by
  unfold okF
  rw [hl, Nat.mul_mod_left, show Nat.ble (len * 32) 1073741824 = true from Nat.ble_eq_true_of_le (by omega)]
  rw [show (Nat.beq 0 0 && true) = true from rfl, Bool.true_and, List.all_eq_true]
  intro b h
  have := wf_u8 (hw b h)
  rw [Bool.and_eq_true]
  exact ⟨decide_eq_true this.1, decide_eq_true this.2⟩
end Go.Proofs.YtogcijgklnfjjaaGreat

namespace Go.Proofs.YtogcijgklnfjjaaGreat
open Go Go.Eng

set_option maxRecDepth 100000

def Th3 : Types := [(3, ⟨.int .i64, 1, 8, [.int .i64 0]⟩),
  (4, ⟨.bool, 1, 1, [.bool false]⟩),
  (5, ⟨.int .u8, 1, 1, [.int .u8 0]⟩),
  (22, ⟨.slice 78, 1, 24, [.nils]⟩),
  (23, ⟨.slice 118, 1, 24, [.nils]⟩),
  (24, ⟨.slice 41, 1, 24, [.nils]⟩),
  (25, ⟨.slice 120, 1, 24, [.nils]⟩),
  (26, ⟨.slice 122, 1, 24, [.nils]⟩),
  (27, ⟨.slice 40, 1, 24, [.nils]⟩),
  (28, ⟨.slice 124, 1, 24, [.nils]⟩),
  (29, ⟨.slice 126, 1, 24, [.nils]⟩),
  (30, ⟨.slice 128, 1, 24, [.nils]⟩),
  (31, ⟨.slice 22, 1, 24, [.nils]⟩),
  (32, ⟨.slice 130, 1, 24, [.nils]⟩),
  (33, ⟨.slice 132, 1, 24, [.nils]⟩),
  (34, ⟨.slice 134, 1, 24, [.nils]⟩),
  (35, ⟨.slice 136, 1, 24, [.nils]⟩),
  (36, ⟨.slice 138, 1, 24, [.nils]⟩),
  (37, ⟨.slice 140, 1, 24, [.nils]⟩),
  (39, ⟨.struct [(23, 0), (23, 1), (24, 2), (24, 3), (25, 4), (25, 5), (26, 6), (26, 7), (27, 8), (27, 9), (28, 10), (28, 11), (29, 12), (29, 13), (30, 14), (30, 15), (31, 16), (31, 17), (32, 18), (32, 19), (33, 20), (33, 21), (34, 22), (34, 23), (35, 24), (35, 25), (36, 26), (36, 27), (37, 28), (37, 29)], 30, 720, [.nils, .nils, .nils, .nils, .nils, .nils, .nils, .nils, .nils, .nils, .nils, .nils, .nils, .nils, .nils, .nils, .nils, .nils, .nils, .nils, .nils, .nils, .nils, .nils, .nils, .nils, .nils, .nils, .nils, .nils]⟩),
  (40, ⟨.slice 54, 1, 24, [.nils]⟩),
  (41, ⟨.slice 3, 1, 24, [.nils]⟩),
  (54, ⟨.array 32 5, 32, 32, [.ints .u8 32 (List.replicate 32 0)]⟩),
  (78, ⟨.struct [(3, 0), (54, 1)], 33, 40, [.int .i64 0, .ints .u8 32 (List.replicate 32 0)]⟩),
  (118, ⟨.slice 5, 1, 24, [.nils]⟩),
  (120, ⟨.slice 174, 1, 24, [.nils]⟩),
  (122, ⟨.slice 179, 1, 24, [.nils]⟩),
  (124, ⟨.slice 180, 1, 24, [.nils]⟩),
  (126, ⟨.slice 181, 1, 24, [.nils]⟩),
  (128, ⟨.slice 182, 1, 24, [.nils]⟩),
  (130, ⟨.slice 183, 1, 24, [.nils]⟩),
  (132, ⟨.slice 184, 1, 24, [.nils]⟩),
  (134, ⟨.slice 186, 1, 24, [.nils]⟩),
  (136, ⟨.slice 188, 1, 24, [.nils]⟩),
  (138, ⟨.slice 190, 1, 24, [.nils]⟩),
  (140, ⟨.slice 192, 1, 24, [.nils]⟩),
  (174, ⟨.int .u32, 1, 4, [.int .u32 0]⟩),
  (179, ⟨.array 32 5, 32, 32, [.ints .u8 32 (List.replicate 32 0)]⟩),
  (180, ⟨.array 32 5, 32, 32, [.ints .u8 32 (List.replicate 32 0)]⟩),
  (181, ⟨.array 32 5, 32, 32, [.ints .u8 32 (List.replicate 32 0)]⟩),
  (182, ⟨.array 32 5, 32, 32, [.ints .u8 32 (List.replicate 32 0)]⟩),
  (183, ⟨.struct [(3, 0), (54, 1)], 33, 40, [.int .i64 0, .ints .u8 32 (List.replicate 32 0)]⟩),
  (184, ⟨.struct [(3, 0), (54, 1)], 33, 40, [.int .i64 0, .ints .u8 32 (List.replicate 32 0)]⟩),
  (186, ⟨.struct [(3, 0), (180, 1), (180, 33)], 65, 72, [.int .i64 0, .ints .u8 32 (List.replicate 32 0), .ints .u8 32 (List.replicate 32 0)]⟩),
  (188, ⟨.struct [(3, 0), (180, 1)], 33, 40, [.int .i64 0, .ints .u8 32 (List.replicate 32 0)]⟩),
  (190, ⟨.struct [(3, 0), (3, 1), (54, 2)], 34, 48, [.int .i64 0, .int .i64 0, .ints .u8 32 (List.replicate 32 0)]⟩),
  (192, ⟨.struct [(3, 0), (3, 1)], 2, 16, [.int .i64 0, .int .i64 0]⟩)]

theorem thOk3 : TypesOk Tryz.prog Th3 := tysB_ok (by kernel_rfl)

def hiL : List Nat := [0, hiN, hiN + 1, hiN + 2, hiN + 3, hiN + 4, hiN + 5, hiN + 6, hiN + 7, hiN + 8, hiN + 9, hiN + 10, hiN + 11]

noncomputable def B14 : Code := (Tryz.f14.body.getD .skip)
def R14 : List ResultVar := [.tmp 2]
def K14 : List Nat := [0, 2, 3, 4, 5, 6, 7, 8, 9, 10, 11, 12, 13, 14, 15, 16, 17, 24, 42, 49, 67, 74, 92, 99, 117, 124, 142, 149, 167, 174, 192, 199, 217, 224, 242, 249, 267, 274, 292, 299, 317, 324, 342, 349, 367, 374, 392]
def N14_28 : Nrm := { slots := [.tmp 0, .tmp 17], items := hiL }
def N14_26 : Nrm := { slots := [.tmp 0, .tmp 16], items := hiL }
def N14_24 : Nrm := { slots := [.tmp 0, .tmp 15], items := hiL }
def N14_22 : Nrm := { slots := [.tmp 0, .tmp 14], items := hiL }
def N14_20 : Nrm := { slots := [.tmp 0, .tmp 13], items := hiL }
def N14_18 : Nrm := { slots := [.tmp 0, .tmp 12], items := hiL }
def N14_16 : Nrm := { slots := [.tmp 0, .tmp 11], items := hiL }
def N14_14 : Nrm := { slots := [.tmp 0, .tmp 10], items := hiL }
def N14_12 : Nrm := { slots := [.tmp 0, .tmp 9], items := hiL }
def N14_10 : Nrm := { slots := [.tmp 0, .tmp 8], items := hiL }
def N14_8 : Nrm := { slots := [.tmp 0, .tmp 7], items := hiL }
def N14_6 : Nrm := { slots := [.tmp 0, .tmp 6], items := hiL }
def N14_4 : Nrm := { slots := [.tmp 0, .tmp 5], items := hiL }
def N14_2 : Nrm := { slots := [.tmp 0, .tmp 4], items := hiL }
def N14_0 : Nrm := { slots := [.tmp 0, .tmp 3], items := hiL }
noncomputable def B14_28 : Code := bodyIn 28 (loopsIn B14)
noncomputable def B14_26 : Code := bodyIn 26 (loopsIn B14)
noncomputable def B14_24 : Code := bodyIn 24 (loopsIn B14)
noncomputable def B14_22 : Code := bodyIn 22 (loopsIn B14)
noncomputable def B14_20 : Code := bodyIn 20 (loopsIn B14)
noncomputable def B14_18 : Code := bodyIn 18 (loopsIn B14)
noncomputable def B14_16 : Code := bodyIn 16 (loopsIn B14)
noncomputable def B14_14 : Code := bodyIn 14 (loopsIn B14)
noncomputable def B14_12 : Code := bodyIn 12 (loopsIn B14)
noncomputable def B14_10 : Code := bodyIn 10 (loopsIn B14)
noncomputable def B14_8 : Code := bodyIn 8 (loopsIn B14)
noncomputable def B14_6 : Code := bodyIn 6 (loopsIn B14)
noncomputable def B14_4 : Code := bodyIn 4 (loopsIn B14)
noncomputable def B14_2 : Code := bodyIn 2 (loopsIn B14)
noncomputable def B14_0 : Code := bodyIn 0 (loopsIn B14)
def N14 : Nrms := [(28, N14_28), (26, N14_26), (24, N14_24), (22, N14_22), (20, N14_20), (18, N14_18), (16, N14_16), (14, N14_14), (12, N14_12), (10, N14_10), (8, N14_8), (6, N14_6), (4, N14_4), (2, N14_2), (0, N14_0)]
theorem ok14 : FnOk Tryz.prog 14 Tryz.f14 393 B14 R14 := ⟨by kernel_rfl, by kernel_rfl, by kernel_rfl, by kernel_rfl, by decide +kernel⟩

noncomputable def B16 : Code := (Tryz.f16.body.getD .skip)
def R16 : List ResultVar := [.tmp 4]
def K16 : List Nat := [0, 1, 4, 5, 6, 7, 15, 26]
def N16_2 : Nrm := { slots := [.tmp 0, .tmp 1, .tmp 5, .tmp 7], items := [1, 11] }
def N16_0 : Nrm := { slots := [.tmp 0, .tmp 1, .tmp 5, .tmp 6], items := [1, 11] }
noncomputable def B16_2 : Code := bodyIn 2 (loopsIn B16)
noncomputable def B16_0 : Code := bodyIn 0 (loopsIn B16)
def N16 : Nrms := [(2, N16_2), (0, N16_0)]
theorem ok16 : FnOk Tryz.prog 16 Tryz.f16 61 B16 R16 := ⟨by kernel_rfl, by kernel_rfl, by kernel_rfl, by kernel_rfl, by decide +kernel⟩

noncomputable def B20 : Code := (Tryz.f20.body.getD .skip)
def R20 : List ResultVar := [.tmp 4]
def K20 : List Nat := [0, 1, 4, 5, 6, 7, 15, 26]
def N20_2 : Nrm := { slots := [.tmp 0, .tmp 1, .tmp 5, .tmp 7], items := [1, 11] }
def N20_0 : Nrm := { slots := [.tmp 0, .tmp 1, .tmp 5, .tmp 6], items := [1, 11] }
noncomputable def B20_2 : Code := bodyIn 2 (loopsIn B20)
noncomputable def B20_0 : Code := bodyIn 0 (loopsIn B20)
def N20 : Nrms := [(2, N20_2), (0, N20_0)]
theorem ok20 : FnOk Tryz.prog 20 Tryz.f20 61 B20 R20 := ⟨by kernel_rfl, by kernel_rfl, by kernel_rfl, by kernel_rfl, by decide +kernel⟩

end Go.Proofs.YtogcijgklnfjjaaGreat

namespace Go.Proofs.YtogcijgklnfjjaaGreat
open Go Go.Eng
set_option maxRecDepth 100000
set_option linter.unusedVariables false

def f19_0_sh : Shp := { n := 32, lo := 2, slots := [(0, .one (.fix (At.own 0))), (7, .one (.fix (At.own 1000007))), (15, .one (.fix (At.own 1))), (16, .one (.int IntKind.i64)), (17, .one (.int IntKind.i64))], items := [(1000007, .row (RK.mix ck78) 33), (0, .view (RK.one IntKind.u8) 32), (1, .view (RK.one IntKind.i64) 1)] }
def f19_0_ex1 : Shp := { n := 32, lo := 2, slots := [(18, .one (.bool)), (0, .one (.fix (At.own 0))), (7, .one (.fix (At.own 1000007))), (15, .one (.fix (At.own 1))), (16, .one (.int IntKind.i64)), (17, .one (.int IntKind.i64))], items := [(1000007, .row (RK.mix ck78) 33), (0, .view (RK.one IntKind.u8) 32), (1, .view (RK.one IntKind.i64) 1)] }
noncomputable def f19_0_st {R : Type} (N : Nat) (self : Int → Int → List Int → List Int → List Int → Option R) (k1 : Bool → Int → Int → List Int → List Int → List Int → Option R) (x1 : Int) (x2 : Int) (x3 : List Int) (x4 : List Int) (x5 : List Int) : Option R :=
 bif Decidable.decide (x2 < x1) then
 bif Decidable.decide (0 ≤ x2) && Decidable.decide (x2 < nI (rowLen 1 x5)) then
 bif okF x4 && okB (sN (plN (x5.getD (mulE x2.toNat 1) 0))) then
 let v0 : List Int := sN (evN x4 (vS (sN (plN (x5.getD (mulE x2.toNat 1) 0))))) ++ [];
 let v1 : List Int := x5.getD (mulE x2.toNat 1) 0 :: v0 ++ [];
 bif ((2 * (rowLen 33 x3 + rowLen 33 v1) + 192) * 40).ble big48 && (rowLen 33 x3 + rowLen 33 v1).ble big48 then
 let v2 : Int := IntKind.i64.wrap (x2 + 1);
 let v3 : List Int := x3 ++ v1;
 self x1 v2 v3 x4 x5
 else Option.none
 else Option.none
 else Option.none
else k1 (Decidable.decide (x2 < x1)) x1 x2 x3 x4 x5
noncomputable def f19_0_lp {R : Type} (N : Nat) (k1 : Bool → Int → Int → List Int → List Int → List Int → Option R) : Nat → Int → Int → List Int → List Int → List Int → Option R
 | 0, _, _, _, _, _ => none
 | n + 1, x1, x2, x3, x4, x5 => f19_0_st N (f19_0_lp N k1 n) k1 x1 x2 x3 x4 x5
noncomputable def f19_0_F (N : Nat) : (R : Type) → List Leaf → (X → AS → Option R) → Option R := fun _ ls K => match ls with
 | [.i x1, .i x2, .l x3, .l x4, .l x5] => f19_0_lp N (fun y1 y2 y3 y4 y5 y6 => K (X.normal) (fill f19_0_ex1 [.b y1, .i y2, .i y3, .l y4, .l y5, .l y6])) N x1 x2 x3 x4 x5
 | _ => none
noncomputable def f19_raw {R : Type} (N : Nat) (xs : List Int) (ids : List Int) (k : List DV → Option R) : Option R :=
 bif ids.length.ble 1073741824 then bif idsN ids != 0 then k [DV.lst (RK.mix ck78) 33 [], DV.v (SV.one (At.int IntKind.i64 (idsN ids)))] else f19_0_lp N (fun w0_1 w0_2 w0_3 w0_4 w0_5 w0_6 => k [DV.lst (RK.mix ck78) 33 w0_4, DV.v (SV.one (At.int IntKind.i64 0))]) N (nI (rowLen 1 ids)) 0 [] xs ids else Option.none


noncomputable def E19 (N : Nat) : Env := { Θ := Th, Γ := GT2, K := K19, ν := N19, fuel := 0, lp := [(0, mkL N19_0 f19_0_sh (f19_0_F N))] }

theorem f19_0_st_eq {R : Type} (N : Nat) (K : X → AS → Option R) (n : Nat) (x1 : Int) (x2 : Int) (x3 : List Int) (x4 : List Int) (x5 : List Int) : roundsOf (E19 N) N19_0 0 B19_0 K (n + 1) (fill f19_0_sh [.i x1, .i x2, .l x3, .l x4, .l x5]) = f19_0_st N (fun x1 x2 x3 x4 x5 => roundsOf (E19 N) N19_0 0 B19_0 K n (fill f19_0_sh [.i x1, .i x2, .l x3, .l x4, .l x5])) (fun y1 y2 y3 y4 y5 y6 => K (X.normal) (fill f19_0_ex1 [.b y1, .i y2, .i y3, .l y4, .l y5, .l y6])) x1 x2 x3 x4 x5 := by kernel_rfl
theorem f19_0_lp_eq {R : Type} (N : Nat) (K : X → AS → Option R) : ∀ (n : Nat) (x1 : Int) (x2 : Int) (x3 : List Int) (x4 : List Int) (x5 : List Int), roundsOf (E19 N) N19_0 0 B19_0 K n (fill f19_0_sh [.i x1, .i x2, .l x3, .l x4, .l x5]) = f19_0_lp N (fun y1 y2 y3 y4 y5 y6 => K (X.normal) (fill f19_0_ex1 [.b y1, .i y2, .i y3, .l y4, .l y5, .l y6])) n x1 x2 x3 x4 x5
  | 0, _, _, _, _, _ => rfl
  | n + 1, x1, x2, x3, x4, x5 => by
    rw [f19_0_st_eq, f19_0_lp, show (fun x1 x2 x3 x4 x5 => roundsOf (E19 N) N19_0 0 B19_0 K n (fill f19_0_sh [.i x1, .i x2, .l x3, .l x4, .l x5])) = f19_0_lp N (fun y1 y2 y3 y4 y5 y6 => K (X.normal) (fill f19_0_ex1 [.b y1, .i y2, .i y3, .l y4, .l y5, .l y6])) n from by funext x1 x2 x3 x4 x5; exact f19_0_lp_eq N K n x1 x2 x3 x4 x5]
theorem f19_0_ok (N : Nat) (hlp : LoopsOk Tryz.prog (E19 N).lp B19_0) (hΓ : CtxOk Tryz.prog (E19 N).Γ) : LoopOk Tryz.prog (mkL N19_0 f19_0_sh (f19_0_F N)) 0 B19_0 := by
  refine loopOk_of (E := E19 N) thOk hΓ mixed hlp ?_
  intro R ls K r h
  unfold f19_0_F at h
  split at h
  · exact ⟨N, by rw [f19_0_lp_eq]; exact h⟩
  · cases h

theorem lok19_0 (N : Nat) (hΓ : CtxOk Tryz.prog GT2) : LoopOk Tryz.prog (mkL N19_0 f19_0_sh (f19_0_F N)) 0 B19_0 := f19_0_ok N (loopsOk_of (l := []) (by kernel_rfl) trivial) hΓ
theorem f19_contract (N : Nat) (hΓ : CtxOk Tryz.prog GT2) : Contract Tryz.prog 19 { sig := S19, impl := fun _ ds k => call (E19 N) S19 32 B19 R19 ds k } :=
  call_contract (E := E19 N) thOk hΓ mixed ok19.look ok19.body ok19.n ok19.rv ok19.name rfl (by decide) (loopsOk_of (l := [(0, B19_0)]) (by kernel_rfl) (allOk_cons (L := mkL N19_0 f19_0_sh (f19_0_F N)) rfl (lok19_0 N hΓ) trivial))
theorem f19_raw_eq {R : Type} (N : Nat) (xs : List Int) (ids : List Int) (k : List DV → Option R) : call (E19 N) S19 32 B19 R19 [.lst (.one .u8) 32 xs, .lst (.one .i64) 1 ids] k = f19_raw N xs ids k := by kernel_rfl
end Go.Proofs.YtogcijgklnfjjaaGreat

namespace Go.Proofs.YtogcijgklnfjjaaGreat
open Go Go.Eng
set_option maxRecDepth 100000
set_option linter.unusedVariables false

theorem plN_lt (x : Int) : plN x < ell := by
  have h : plN x < 18446744073709551616 := by
    unfold plN IntKind.wrap
    simp only [IntKind.bits, IntKind.signed, Bool.false_and, Bool.false_eq_true, if_false, show (2 : Int) ^ 64 = 18446744073709551616 by decide]
    omega
  rw [ell_def]; omega
theorem headG_lenK {g : Nat → List Int} {K : Nat} (hg : ∀ i, (g i).length = K) : ∀ n, (headG g n).length = n * K
  | 0 => by simp [headG]
  | n + 1 => by rw [headG, List.length_append, headG_lenK hg n, hg, Nat.succ_mul]
noncomputable def shG (d : Nat → Int) (f : Nat → Nat) (n : Nat) : List Int := headG (fun i => d i :: sN (f i)) n
theorem shG_len (d : Nat → Int) (f : Nat → Nat) (n : Nat) : (shG d f n).length = n * 33 := headG_lenK (fun i => by rw [List.length_cons, sN_len]) n
theorem shG_div (d : Nat → Int) (f : Nat → Nat) (n : Nat) : (shG d f n).length / 33 = n := by rw [shG_len]; omega
theorem f19_loop {R : Type} {N : Nat} (k1 : Bool → Int → Int → List Int → List Int → List Int → Option R) {xs ids : List Int} {n : Nat} (hx : okF xs = true) (hn : ids.length = n) (hb : n ≤ 1073741823) :
    ∀ j i : Nat, i + j = n → ∀ fuel, j < fuel → f19_0_lp N k1 fuel (n : Int) (i : Int) (shG (fun i => ids.getD i 0) (fun i => evN xs (plN (ids.getD i 0))) i) xs ids =
      k1 false (n : Int) (n : Int) (shG (fun i => ids.getD i 0) (fun i => evN xs (plN (ids.getD i 0))) n) xs ids := by
  intro j
  induction j with
  | zero =>
    intro i h fuel hf
    obtain ⟨f, rfl⟩ : ∃ f, fuel = f + 1 := ⟨fuel - 1, by omega⟩
    show f19_0_st N (f19_0_lp N _ f) _ _ _ _ _ _ = _
    unfold f19_0_st
    rw [ltF (by omega), cond_false, show i = n by omega]
  | succ j ih =>
    intro i h fuel hf
    obtain ⟨f, rfl⟩ : ∃ f, fuel = f + 1 := ⟨fuel - 1, by omega⟩
    show f19_0_st N (f19_0_lp N _ f) _ _ _ _ _ _ = _
    unfold f19_0_st
    rw [rows1, hn, ltT (show i < n by omega), ge0, show mulE (Int.toNat (i : Int)) 1 = i from rfl, hx, okB_sN, vS_sN (plN_lt _)]
    dsimp only
    rw [List.append_nil]
    have e1 : rowLen 33 (shG (fun i => ids.getD i 0) (fun i => evN xs (plN (ids.getD i 0))) i) = i := shG_div _ _ _
    have e2 : rowLen 33 (ids.getD i 0 :: (sN (evN xs (plN (ids.getD i 0))) ++ [])) = 1 := by
      show (ids.getD i 0 :: (sN (evN xs (plN (ids.getD i 0))) ++ [])).length / 33 = 1
      rw [List.append_nil, List.length_cons, sN_len]
    have hle : (Nat.ble ((2 * (i + 1) + 192) * 40) big48 && Nat.ble (i + 1) big48) = true := by
      rw [Bool.and_eq_true, Nat.ble_eq, Nat.ble_eq]; unfold big48; omega
    rw [e1, e2, hle, wAdd (by omega), List.append_nil]
    simp only [Bool.and_self, cond_true]
    exact ih (i + 1) (by omega) f (by omega)
noncomputable def splitG (xs ids : List Int) : List Int := shG (fun i => ids.getD i 0) (fun i => evN xs (plN (ids.getD i 0))) ids.length
noncomputable def I19 : (R : Type) → List DV → (List DV → Option R) → Option R := fun _ ds k => match ds with
  | [.lst (.one .u8) 32 xs, .lst (.one .i64) 1 ids] => bif okF xs && Nat.ble ids.length 1073741823 then (bif decide (idsN ids = 0) then k [.lst (.mix ck78) 33 (splitG xs ids), .v (.one (.int .i64 0))] else k [.lst (.mix ck78) 33 [], .v (.one (.int .i64 (idsN ids)))]) else none
  | _ => none
theorem c19 : Contract Tryz.prog 19 { sig := S19, impl := I19 } := by
  refine Contract.refine fun R ds k r h => ?_
  unfold I19 at h
  split at h
  · rename_i xs ids
    refine ⟨_, f19_contract (ids.length + 1) GT2_ok, ?_⟩
    cases hc : okF xs && Nat.ble ids.length 1073741823 with
    | false => rw [hc] at h; cases h
    | true =>
      rw [hc, cond_true] at h
      rw [Bool.and_eq_true] at hc
      have hb := Nat.le_of_ble_eq_true hc.2
      rw [f19_raw_eq]
      unfold f19_raw
      rw [show Nat.ble ids.length 1073741824 = true from Nat.ble_eq_true_of_le (by omega), cond_true]
      by_cases h0 : idsN ids = 0
      · rw [decide_eq_true h0, cond_true] at h
        rw [h0, show ((0 : Int) != 0) = false from rfl, cond_false]
        exact (f19_loop (N := ids.length + 1) _ hc.1 rfl hb ids.length 0 (by omega) (ids.length + 1) (by omega)).trans h
      · rw [decide_eq_false h0, cond_false] at h
        rw [show (idsN ids != 0) = true by simpa using h0, cond_true]
        exact h
  · exact (Option.some_ne_none _ h.symm).elim
end Go.Proofs.YtogcijgklnfjjaaGreat

namespace Go.Proofs.YtogcijgklnfjjaaGreat
open Go Go.Eng
set_option maxRecDepth 100000
set_option linter.unusedVariables false

noncomputable def f65_raw {R : Type} (N : Nat) (i : Int) (j : Int) (k : List DV → Option R) : Option R :=
 let v0 : Int := IntKind.u8.wrap i;
let v1 : List Int := (List.replicate 32 0).set 0 v0;
let v2 : Int := shrI IntKind.i64 i 8;
let v3 : Int := IntKind.u8.wrap v2;
let v4 : List Int := v1.set 1 v3;
let v5 : Int := IntKind.u8.wrap j;
let v6 : List Int := v4.set 2 v5;
let v7 : Int := shrI IntKind.i64 j 8;
let v8 : Int := IntKind.u8.wrap v7;
let v9 : List Int := v6.set 3 v8;
let v10 : List Int := v9.set 4 77;
k [DV.v (SV.one (At.ints IntKind.u8 32 v10))]


noncomputable def E65 (N : Nat) : Env := { Θ := Th, Γ := [], K := K65, ν := N65, fuel := 0, lp := [] }


theorem f65_contract (N : Nat) (hΓ : CtxOk Tryz.prog []) : Contract Tryz.prog 65 { sig := S65, impl := fun _ ds k => call (E65 N) S65 16 B65 R65 ds k } :=
  call_contract (E := E65 N) thOk hΓ mixed ok65.look ok65.body ok65.n ok65.rv ok65.name rfl (by decide) (loopsOk_of (l := []) (by kernel_rfl) trivial)
theorem f65_raw_eq {R : Type} (N : Nat) (i : Int) (j : Int) (k : List DV → Option R) : call (E65 N) S65 16 B65 R65 [.v (.one (.int .i64 i)), .v (.one (.int .i64 j))] k = f65_raw N i j k := by kernel_rfl
end Go.Proofs.YtogcijgklnfjjaaGreat

namespace Go.Proofs.YtogcijgklnfjjaaGreat
open Go Go.Eng
set_option maxRecDepth 100000
set_option linter.unusedVariables false

noncomputable def f66_raw {R : Type} (N : Nat) (xs : List Int) (k : List DV → Option R) : Option R :=
 bif (rowLen 32 xs * 32).ble big48 && (rowLen 32 xs).ble big48 then k [DV.lst (RK.one IntKind.u8) 32 xs] else Option.none


noncomputable def E66 (N : Nat) : Env := { Θ := Th, Γ := [], K := K66, ν := N66, fuel := 0, lp := [] }


theorem f66_contract (N : Nat) (hΓ : CtxOk Tryz.prog []) : Contract Tryz.prog 66 { sig := S66, impl := fun _ ds k => call (E66 N) S66 8 B66 R66 ds k } :=
  call_contract (E := E66 N) thOk hΓ mixed ok66.look ok66.body ok66.n ok66.rv ok66.name rfl (by decide) (loopsOk_of (l := []) (by kernel_rfl) trivial)
theorem f66_raw_eq {R : Type} (N : Nat) (xs : List Int) (k : List DV → Option R) : call (E66 N) S66 8 B66 R66 [.lst (.one .u8) 32 xs] k = f66_raw N xs k := by kernel_rfl
end Go.Proofs.YtogcijgklnfjjaaGreat

namespace Go.Proofs.YtogcijgklnfjjaaGreat
open Go Go.Eng
set_option maxRecDepth 100000
set_option linter.unusedVariables false

noncomputable def f71_raw {R : Type} (N : Nat) (i : Int) (j : Int) (k : List DV → Option R) : Option R :=
 let v0 : Int := IntKind.i64.wrap (i + 1);
let v1 : Int := IntKind.i64.wrap (100003 * v0);
let v2 : Int := IntKind.i64.wrap (-1 - v1);
let v3 : Int := IntKind.i64.wrap (7 * j);
let v4 : Int := IntKind.i64.wrap (v2 - v3);
k [DV.v (SV.one (At.int IntKind.i64 v4))]


noncomputable def E71 (N : Nat) : Env := { Θ := Th, Γ := [], K := K71, ν := N71, fuel := 0, lp := [] }


theorem f71_contract (N : Nat) (hΓ : CtxOk Tryz.prog []) : Contract Tryz.prog 71 { sig := S71, impl := fun _ ds k => call (E71 N) S71 12 B71 R71 ds k } :=
  call_contract (E := E71 N) thOk hΓ mixed ok71.look ok71.body ok71.n ok71.rv ok71.name rfl (by decide) (loopsOk_of (l := []) (by kernel_rfl) trivial)
theorem f71_raw_eq {R : Type} (N : Nat) (i : Int) (j : Int) (k : List DV → Option R) : call (E71 N) S71 12 B71 R71 [.v (.one (.int .i64 i)), .v (.one (.int .i64 j))] k = f71_raw N i j k := by kernel_rfl
end Go.Proofs.YtogcijgklnfjjaaGreat

namespace Go.Proofs.YtogcijgklnfjjaaGreat
open Go Go.Eng
set_option maxRecDepth 100000
set_option linter.unusedVariables false

noncomputable def f72_raw {R : Type} (N : Nat) (xs : List Int) (k : List DV → Option R) : Option R :=
 bif (rowLen 1 xs * 8).ble big48 && (rowLen 1 xs).ble big48 then k [DV.lst (RK.one IntKind.i64) 1 xs] else Option.none


noncomputable def E72 (N : Nat) : Env := { Θ := Th, Γ := [], K := K72, ν := N72, fuel := 0, lp := [] }


theorem f72_contract (N : Nat) (hΓ : CtxOk Tryz.prog []) : Contract Tryz.prog 72 { sig := S72, impl := fun _ ds k => call (E72 N) S72 8 B72 R72 ds k } :=
  call_contract (E := E72 N) thOk hΓ mixed ok72.look ok72.body ok72.n ok72.rv ok72.name rfl (by decide) (loopsOk_of (l := []) (by kernel_rfl) trivial)
theorem f72_raw_eq {R : Type} (N : Nat) (xs : List Int) (k : List DV → Option R) : call (E72 N) S72 8 B72 R72 [.lst (.one .i64) 1 xs] k = f72_raw N xs k := by kernel_rfl
end Go.Proofs.YtogcijgklnfjjaaGreat

namespace Go.Proofs.YtogcijgklnfjjaaGreat
open Go Go.Eng
set_option maxRecDepth 100000
set_option linter.unusedVariables false

noncomputable def f44_raw {R : Type} (N : Nat) (i : Int) (j : Int) (k : List DV → Option R) : Option R :=
 let v0 : Int := IntKind.i64.wrap (i + 1);
let v1 : Int := IntKind.i64.wrap (-1000003 * v0);
let v2 : Int := IntKind.i64.wrap (v1 - j);
k [DV.v (SV.agg [At.int IntKind.i64 v2, At.ints IntKind.u8 32 (List.replicate 32 0)])]


noncomputable def E44 (N : Nat) : Env := { Θ := Th, Γ := [], K := K44, ν := N44, fuel := 0, lp := [] }


theorem f44_contract (N : Nat) (hΓ : CtxOk Tryz.prog []) : Contract Tryz.prog 44 { sig := S44, impl := fun _ ds k => call (E44 N) S44 11 B44 R44 ds k } :=
  call_contract (E := E44 N) thOk hΓ mixed ok44.look ok44.body ok44.n ok44.rv ok44.name rfl (by decide) (loopsOk_of (l := []) (by kernel_rfl) trivial)
theorem f44_raw_eq {R : Type} (N : Nat) (i : Int) (j : Int) (k : List DV → Option R) : call (E44 N) S44 11 B44 R44 [.v (.one (.int .i64 i)), .v (.one (.int .i64 j))] k = f44_raw N i j k := by kernel_rfl
end Go.Proofs.YtogcijgklnfjjaaGreat

namespace Go.Proofs.YtogcijgklnfjjaaGreat
open Go Go.Eng
set_option maxRecDepth 100000
set_option linter.unusedVariables false

end Go.Proofs.YtogcijgklnfjjaaGreat

namespace Go.Proofs.YtogcijgklnfjjaaGreat
open Go Go.Eng
set_option maxRecDepth 100000
set_option linter.unusedVariables false

def mS (i j : Int) : List Int := (((((List.replicate 32 0).set 0 (IntKind.u8.wrap i)).set 1 (IntKind.u8.wrap (shrI IntKind.i64 i 8))).set 2 (IntKind.u8.wrap j)).set 3 (IntKind.u8.wrap (shrI IntKind.i64 j 8))).set 4 77
theorem mS_len (i j : Int) : (mS i j).length = 32 := by unfold mS; simp only [List.length_set, List.length_replicate]
def mI (i j : Int) : Int := IntKind.i64.wrap (IntKind.i64.wrap (-1 - IntKind.i64.wrap (100003 * IntKind.i64.wrap (i + 1))) - IntKind.i64.wrap (7 * j))
def mH (i j : Int) : Int := IntKind.i64.wrap (IntKind.i64.wrap (-1000003 * IntKind.i64.wrap (i + 1)) - j)
noncomputable def I65 : (R : Type) → List DV → (List DV → Option R) → Option R := fun _ ds k => match ds with
  | [.v (.one (.int .i64 i)), .v (.one (.int .i64 j))] => k [.v (.one (.ints .u8 32 (mS i j)))]
  | _ => none
theorem c65 : Contract Tryz.prog 65 { sig := S65, impl := I65 } := by
  refine Contract.refine fun R ds k r h => ⟨_, f65_contract 0 ctxOk_nil, ?_⟩
  unfold I65 at h
  split at h
  · rw [f65_raw_eq]; exact h
  · cases h
noncomputable def I71 : (R : Type) → List DV → (List DV → Option R) → Option R := fun _ ds k => match ds with
  | [.v (.one (.int .i64 i)), .v (.one (.int .i64 j))] => k [.v (.one (.int .i64 (mI i j)))]
  | _ => none
theorem c71 : Contract Tryz.prog 71 { sig := S71, impl := I71 } := by
  refine Contract.refine fun R ds k r h => ⟨_, f71_contract 0 ctxOk_nil, ?_⟩
  unfold I71 at h
  split at h
  · rw [f71_raw_eq]; exact h
  · cases h
noncomputable def I44 : (R : Type) → List DV → (List DV → Option R) → Option R := fun _ ds k => match ds with
  | [.v (.one (.int .i64 i)), .v (.one (.int .i64 j))] => k [.v (.agg [.int .i64 (mH i j), .ints .u8 32 (List.replicate 32 0)])]
  | _ => none
theorem c44 : Contract Tryz.prog 44 { sig := S44, impl := I44 } := by
  refine Contract.refine fun R ds k r h => ⟨_, f44_contract 0 ctxOk_nil, ?_⟩
  unfold I44 at h
  split at h
  · rw [f44_raw_eq]; exact h
  · cases h
noncomputable def I66 : (R : Type) → List DV → (List DV → Option R) → Option R := fun _ ds k => match ds with
  | [.lst (.one .u8) 32 xs] => bif Nat.ble (rowLen 32 xs * 32) big48 && Nat.ble (rowLen 32 xs) big48 then k [.lst (.one .u8) 32 xs] else none
  | _ => none
theorem c66 : Contract Tryz.prog 66 { sig := S66, impl := I66 } := by
  refine Contract.refine fun R ds k r h => ⟨_, f66_contract 0 ctxOk_nil, ?_⟩
  unfold I66 at h
  split at h
  · rw [f66_raw_eq]; exact h
  · cases h
noncomputable def I72 : (R : Type) → List DV → (List DV → Option R) → Option R := fun _ ds k => match ds with
  | [.lst (.one .i64) 1 xs] => bif Nat.ble (rowLen 1 xs * 8) big48 && Nat.ble (rowLen 1 xs) big48 then k [.lst (.one .i64) 1 xs] else none
  | _ => none
theorem c72 : Contract Tryz.prog 72 { sig := S72, impl := I72 } := by
  refine Contract.refine fun R ds k r h => ⟨_, f72_contract 0 ctxOk_nil, ?_⟩
  unfold I72 at h
  split at h
  · rw [f72_raw_eq]; exact h
  · cases h
noncomputable def GG0 : Ctx := (65, { sig := S65, impl := I65 }) :: (66, { sig := S66, impl := I66 }) :: (71, { sig := S71, impl := I71 }) :: (72, { sig := S72, impl := I72 }) :: (44, { sig := S44, impl := I44 }) :: []
theorem GG0_ok : CtxOk Tryz.prog GG0 := ctxOk_cons ok65 rfl c65 (ctxOk_cons ok66 rfl c66 (ctxOk_cons ok71 rfl c71 (ctxOk_cons ok72 rfl c72 (ctxOk_cons ok44 rfl c44 ctxOk_nil))))
theorem blk_set {g : Nat → List Int} {K : Nat} (hg : ∀ j, (g j).length = K) {w : List Int} (hw : w.length = K) {i n : Nat} (h : i < n) :
    splice (headG g n) (.at (i * K)) w = headG (fun j => if j = i then w else g j) n := by
  have e1 : ∀ m, m ≤ i → headG (fun j => if j = i then w else g j) m = headG g m := by
    intro m
    induction m with
    | zero => intro _; rfl
    | succ m ih => intro hm; show headG _ m ++ (if m = i then w else g m) = headG g m ++ g m; rw [ih (by omega), if_neg (by omega)]
  have key : ∀ m, i < m → ∃ C, headG g m = headG g i ++ (g i ++ C) ∧ headG (fun j => if j = i then w else g j) m = headG g i ++ (w ++ C) := by
    intro m
    induction m with
    | zero => intro hm; omega
    | succ m ih =>
      intro hm
      by_cases e : m = i
      · subst e
        refine ⟨[], ?_, ?_⟩
        · show headG g m ++ g m = _; rw [List.append_nil]
        · show headG _ m ++ (if m = m then w else g m) = _; rw [e1 m (Nat.le_refl _), if_pos rfl, List.append_nil]
      · obtain ⟨C, h1, h2⟩ := ih (by omega)
        refine ⟨C ++ g m, ?_, ?_⟩
        · show headG g m ++ g m = _; rw [h1]; simp only [List.append_assoc]
        · show headG _ m ++ (if m = i then w else g m) = _; rw [h2, if_neg e]; simp only [List.append_assoc]
  obtain ⟨C, h1, h2⟩ := key n h
  rw [h1, h2]
  exact splice_mid (headG_lenK hg i) (by rw [hg, hw])
end Go.Proofs.YtogcijgklnfjjaaGreat

namespace Go.Proofs.YtogcijgklnfjjaaGreat
open Go Go.Eng
set_option maxRecDepth 100000
set_option linter.unusedVariables false

def f16_0_sh : Shp := { n := 61, lo := 2, slots := [(0, .one (.fix (At.ptr 0 0 Off.z 30))), (1, .one (.fix (At.own 1))), (5, .one (.fix (At.own 11))), (6, .one (.int IntKind.i64))], items := [(1, .view (RK.one IntKind.u8) 32), (11, .row (RK.one IntKind.u8) 32)] }
def f16_0_ex1 : Shp := { n := 61, lo := 2, slots := [(15, .one (.bool)), (0, .one (.fix (At.ptr 0 0 Off.z 30))), (1, .one (.fix (At.own 1))), (5, .one (.fix (At.own 11))), (6, .one (.int IntKind.i64))], items := [(1, .view (RK.one IntKind.u8) 32), (11, .row (RK.one IntKind.u8) 32)] }
noncomputable def f16_0_st {R : Type} (N : Nat) (self : Int → List Int → List Int → Option R) (k1 : Bool → Int → List Int → List Int → Option R) (x1 : Int) (x2 : List Int) (x3 : List Int) : Option R :=
 bif Decidable.decide (x1 < nI (rowLen 32 x3)) then
 bif Decidable.decide (0 ≤ x1) && Decidable.decide (x1 < nI (rowLen 32 x3)) then
 let v0 : Int := IntKind.i64.wrap (x1 + 1);
 let v1 : List Int := splice x3 (Off.at (mulE x1.toNat 32)) (mS 987 x1);
 self v0 x2 v1
 else Option.none
else k1 (Decidable.decide (x1 < nI (rowLen 32 x3))) x1 x2 x3
noncomputable def f16_0_lp {R : Type} (N : Nat) (k1 : Bool → Int → List Int → List Int → Option R) : Nat → Int → List Int → List Int → Option R
 | 0, _, _, _ => none
 | n + 1, x1, x2, x3 => f16_0_st N (f16_0_lp N k1 n) k1 x1 x2 x3
noncomputable def f16_0_F (N : Nat) : (R : Type) → List Leaf → (X → AS → Option R) → Option R := fun _ ls K => match ls with
 | [.i x1, .l x2, .l x3] => f16_0_lp N (fun y1 y2 y3 y4 => K (X.normal) (fill f16_0_ex1 [.b y1, .i y2, .l y3, .l y4])) N x1 x2 x3
 | _ => none
def f16_2_sh : Shp := { n := 61, lo := 2, slots := [(0, .one (.fix (At.ptr 0 0 Off.z 30))), (1, .one (.fix (At.own 1))), (5, .one (.fix (At.own 11))), (7, .one (.int IntKind.i64))], items := [(1, .view (RK.one IntKind.u8) 32), (11, .row (RK.one IntKind.u8) 32)] }
def f16_2_ex1 : Shp := { n := 61, lo := 2, slots := [(26, .one (.bool)), (0, .one (.fix (At.ptr 0 0 Off.z 30))), (1, .one (.fix (At.own 1))), (5, .one (.fix (At.own 11))), (7, .one (.int IntKind.i64))], items := [(1, .view (RK.one IntKind.u8) 32), (11, .row (RK.one IntKind.u8) 32)] }
noncomputable def f16_2_st {R : Type} (N : Nat) (self : Int → List Int → List Int → Option R) (k1 : Bool → Int → List Int → List Int → Option R) (x1 : Int) (x2 : List Int) (x3 : List Int) : Option R :=
 bif Decidable.decide (x1 < nI (rowLen 32 x2)) then
 bif Decidable.decide (0 ≤ x1) && Decidable.decide (x1 < nI (rowLen 32 x2)) then
 bif Decidable.decide (0 ≤ x1) && Decidable.decide (x1 < nI (rowLen 32 x3)) then
 let v0 : Int := IntKind.i64.wrap (x1 + 1);
 let v1 : List Int := splice x3 (Off.at (mulE x1.toNat 32)) (List.take 32 (List.drop (mulE x1.toNat 32) x2));
 self v0 x2 v1
 else Option.none
 else Option.none
else k1 (Decidable.decide (x1 < nI (rowLen 32 x2))) x1 x2 x3
noncomputable def f16_2_lp {R : Type} (N : Nat) (k1 : Bool → Int → List Int → List Int → Option R) : Nat → Int → List Int → List Int → Option R
 | 0, _, _, _ => none
 | n + 1, x1, x2, x3 => f16_2_st N (f16_2_lp N k1 n) k1 x1 x2 x3
noncomputable def f16_2_F (N : Nat) : (R : Type) → List Leaf → (X → AS → Option R) → Option R := fun _ ls K => match ls with
 | [.i x1, .l x2, .l x3] => f16_2_lp N (fun y1 y2 y3 y4 => K (X.normal) (fill f16_2_ex1 [.b y1, .i y2, .l y3, .l y4])) N x1 x2 x3
 | _ => none
noncomputable def E16 (N : Nat) : Env := { Θ := Th3, Γ := GG0, K := K16, ν := N16, fuel := 0, lp := [(0, mkL N16_0 f16_0_sh (f16_0_F N)), (2, mkL N16_2 f16_2_sh (f16_2_F N))] }

theorem f16_0_st_eq {R : Type} (N : Nat) (K : X → AS → Option R) (n : Nat) (x1 : Int) (x2 : List Int) (x3 : List Int) : roundsOf (E16 N) N16_0 0 B16_0 K (n + 1) (fill f16_0_sh [.i x1, .l x2, .l x3]) = f16_0_st N (fun x1 x2 x3 => roundsOf (E16 N) N16_0 0 B16_0 K n (fill f16_0_sh [.i x1, .l x2, .l x3])) (fun y1 y2 y3 y4 => K (X.normal) (fill f16_0_ex1 [.b y1, .i y2, .l y3, .l y4])) x1 x2 x3 := by kernel_rfl
theorem f16_0_lp_eq {R : Type} (N : Nat) (K : X → AS → Option R) : ∀ (n : Nat) (x1 : Int) (x2 : List Int) (x3 : List Int), roundsOf (E16 N) N16_0 0 B16_0 K n (fill f16_0_sh [.i x1, .l x2, .l x3]) = f16_0_lp N (fun y1 y2 y3 y4 => K (X.normal) (fill f16_0_ex1 [.b y1, .i y2, .l y3, .l y4])) n x1 x2 x3
  | 0, _, _, _ => rfl
  | n + 1, x1, x2, x3 => by
    rw [f16_0_st_eq, f16_0_lp, show (fun x1 x2 x3 => roundsOf (E16 N) N16_0 0 B16_0 K n (fill f16_0_sh [.i x1, .l x2, .l x3])) = f16_0_lp N (fun y1 y2 y3 y4 => K (X.normal) (fill f16_0_ex1 [.b y1, .i y2, .l y3, .l y4])) n from by funext x1 x2 x3; exact f16_0_lp_eq N K n x1 x2 x3]
theorem f16_2_st_eq {R : Type} (N : Nat) (K : X → AS → Option R) (n : Nat) (x1 : Int) (x2 : List Int) (x3 : List Int) : roundsOf (E16 N) N16_2 2 B16_2 K (n + 1) (fill f16_2_sh [.i x1, .l x2, .l x3]) = f16_2_st N (fun x1 x2 x3 => roundsOf (E16 N) N16_2 2 B16_2 K n (fill f16_2_sh [.i x1, .l x2, .l x3])) (fun y1 y2 y3 y4 => K (X.normal) (fill f16_2_ex1 [.b y1, .i y2, .l y3, .l y4])) x1 x2 x3 := by kernel_rfl
theorem f16_2_lp_eq {R : Type} (N : Nat) (K : X → AS → Option R) : ∀ (n : Nat) (x1 : Int) (x2 : List Int) (x3 : List Int), roundsOf (E16 N) N16_2 2 B16_2 K n (fill f16_2_sh [.i x1, .l x2, .l x3]) = f16_2_lp N (fun y1 y2 y3 y4 => K (X.normal) (fill f16_2_ex1 [.b y1, .i y2, .l y3, .l y4])) n x1 x2 x3
  | 0, _, _, _ => rfl
  | n + 1, x1, x2, x3 => by
    rw [f16_2_st_eq, f16_2_lp, show (fun x1 x2 x3 => roundsOf (E16 N) N16_2 2 B16_2 K n (fill f16_2_sh [.i x1, .l x2, .l x3])) = f16_2_lp N (fun y1 y2 y3 y4 => K (X.normal) (fill f16_2_ex1 [.b y1, .i y2, .l y3, .l y4])) n from by funext x1 x2 x3; exact f16_2_lp_eq N K n x1 x2 x3]
end Go.Proofs.YtogcijgklnfjjaaGreat

namespace Go.Proofs.YtogcijgklnfjjaaGreat
open Go Go.Eng
set_option maxRecDepth 100000
set_option linter.unusedVariables false

theorem blk_all {K : Nat} : ∀ {n : Nat} {x : List Int}, x.length = n * K → headG (fun i => List.take K (List.drop (i * K) x)) n = x := by
  have key : ∀ (x : List Int) (n : Nat), n * K ≤ x.length → headG (fun i => List.take K (List.drop (i * K) x)) n = x.take (n * K) := by
    intro x n
    induction n with
    | zero => intro _; rw [Nat.zero_mul]; rfl
    | succ n ih =>
      intro h
      have e : (n + 1) * K = n * K + K := Nat.succ_mul n K
      show headG (fun i => List.take K (List.drop (i * K) x)) n ++ List.take K (List.drop (n * K) x) = _
      rw [ih (by omega), e, List.take_add]
  intro n x h
  rw [key x n (by omega), List.take_of_length_le (by omega)]
def upTo (w g : Nat → List Int) (i j : Nat) : List Int := if j < i then w j else g j
theorem upTo_len {w g : Nat → List Int} {K : Nat} (hw : ∀ j, (w j).length = K) (hg : ∀ j, (g j).length = K) (i j : Nat) : (upTo w g i j).length = K := by
  unfold upTo; split; exact hw j; exact hg j
theorem upTo_set {w g : Nat → List Int} {K : Nat} (hw : ∀ j, (w j).length = K) (hg : ∀ j, (g j).length = K) {i n : Nat} (h : i < n) :
    splice (headG (upTo w g i) n) (.at (i * K)) (w i) = headG (upTo w g (i + 1)) n := by
  rw [blk_set (upTo_len hw hg i) (hw i) h]
  congr 1
  funext j
  unfold upTo
  by_cases e : j = i
  · subst e; rw [if_pos rfl, if_pos (by omega)]
  · rw [if_neg e]
    by_cases e2 : j < i
    · rw [if_pos e2, if_pos (by omega)]
    · rw [if_neg e2, if_neg (by omega)]
theorem upTo_zero (w g : Nat → List Int) : upTo w g 0 = g := by funext j; unfold upTo; rw [if_neg (by omega)]
theorem headG_congr {f g : Nat → List Int} : ∀ {n : Nat}, (∀ i, i < n → f i = g i) → headG f n = headG g n
  | 0, _ => rfl
  | n + 1, h => by show headG f n ++ f n = headG g n ++ g n; rw [headG_congr (n := n) fun i hi => h i (by omega), h n (by omega)]
theorem upTo_all {w g : Nat → List Int} {n : Nat} : headG (upTo w g n) n = headG w n := headG_congr fun i hi => by unfold upTo; rw [if_pos hi]
def elP (x : List Int) (K i : Nat) : List Int := (List.take K (List.drop (i * K) x)) ++ List.replicate (K - (List.take K (List.drop (i * K) x)).length) 0
theorem elP_len (x : List Int) (K i : Nat) : (elP x K i).length = K := by
  unfold elP
  rw [List.length_append, List.length_replicate, List.length_take]; omega
theorem elP_in {x : List Int} {K i n : Nat} (hl : x.length = n * K) (hi : i < n) : elP x K i = List.take K (List.drop (i * K) x) := by
  have h1 : (i + 1) * K ≤ n * K := Nat.mul_le_mul_right K hi
  have h2 : (i + 1) * K = i * K + K := Nat.succ_mul i K
  have : (List.take K (List.drop (i * K) x)).length = K := by rw [List.length_take, List.length_drop]; omega
  unfold elP
  rw [this, Nat.sub_self]; simp
theorem blk_elP {x : List Int} {K n : Nat} (hl : x.length = n * K) : headG (elP x K) n = x := (headG_congr fun i hi => elP_in hl hi).trans (blk_all hl)
noncomputable def mkB (n : Nat) : List Int := headG (fun j => mS 987 (j : Int)) n
theorem f16_marks {R : Type} {N : Nat} (k1 : Bool → Int → List Int → List Int → Option R) (x : List Int) {g : Nat → List Int} (hg : ∀ j, (g j).length = 32) {n : Nat} (hb : n ≤ 1073741823) :
    ∀ j i : Nat, i + j = n → ∀ fuel, j < fuel → f16_0_lp N k1 fuel (i : Int) x (headG (upTo (fun j => mS 987 (j : Int)) g i) n) = k1 false (n : Int) x (mkB n) := by
  have hw : ∀ j : Nat, (mS 987 (j : Int)).length = 32 := fun j => mS_len _ _
  have hr : ∀ i, nI (rowLen 32 (headG (upTo (fun j => mS 987 (j : Int)) g i) n)) = (n : Int) := fun i => by
    show (((headG (upTo (fun j => mS 987 (j : Int)) g i) n).length / 32 : Nat) : Int) = _
    rw [headG_lenK (upTo_len hw hg i) n, Nat.mul_div_cancel _ (by decide)]
  intro j
  induction j with
  | zero =>
    intro i h fuel hf
    obtain ⟨f, rfl⟩ : ∃ f, fuel = f + 1 := ⟨fuel - 1, by omega⟩
    show f16_0_st N (f16_0_lp N _ f) _ _ _ _ = _
    unfold f16_0_st
    rw [hr, ltF (by omega), cond_false, show i = n by omega, upTo_all]; rfl
  | succ j ih =>
    intro i h fuel hf
    obtain ⟨f, rfl⟩ : ∃ f, fuel = f + 1 := ⟨fuel - 1, by omega⟩
    show f16_0_st N (f16_0_lp N _ f) _ _ _ _ = _
    unfold f16_0_st
    rw [hr, ltT (show i < n by omega), ge0, toN, wAdd (by omega), upTo_set (w := fun j => mS 987 (j : Int)) hw hg (show i < n by omega)]
    simp only [Bool.and_self, cond_true]
    exact ih (i + 1) (by omega) f (by omega)
theorem f16_copy {R : Type} {N : Nat} (k1 : Bool → Int → List Int → List Int → Option R) {x : List Int} {g : Nat → List Int} (hg : ∀ j, (g j).length = 32) {m n : Nat} (hx : x.length = m * 32) (hm : m ≤ n) (hb : n ≤ 1073741823) :
    ∀ j i : Nat, i + j = m → ∀ fuel, j < fuel → f16_2_lp N k1 fuel (i : Int) x (headG (upTo (elP x 32) g i) n) = k1 false (m : Int) x (headG (upTo (elP x 32) g m) n) := by
  have hw : ∀ j : Nat, (elP x 32 j).length = 32 := fun j => elP_len _ _ _
  have hr : ∀ i, nI (rowLen 32 (headG (upTo (elP x 32) g i) n)) = (n : Int) := fun i => by
    show (((headG (upTo (elP x 32) g i) n).length / 32 : Nat) : Int) = _
    rw [headG_lenK (upTo_len hw hg i) n, Nat.mul_div_cancel _ (by decide)]
  have hx2 : nI (rowLen 32 x) = (m : Int) := by
    show ((x.length / 32 : Nat) : Int) = _
    rw [hx, Nat.mul_div_cancel _ (by decide)]
  intro j
  induction j with
  | zero =>
    intro i h fuel hf
    obtain ⟨f, rfl⟩ : ∃ f, fuel = f + 1 := ⟨fuel - 1, by omega⟩
    show f16_2_st N (f16_2_lp N _ f) _ _ _ _ = _
    unfold f16_2_st
    rw [hx2, ltF (by omega), cond_false, show i = m by omega]
  | succ j ih =>
    intro i h fuel hf
    obtain ⟨f, rfl⟩ : ∃ f, fuel = f + 1 := ⟨fuel - 1, by omega⟩
    show f16_2_st N (f16_2_lp N _ f) _ _ _ _ = _
    unfold f16_2_st
    rw [hr, hx2, ltT (show i < m by omega), ltT (show i < n by omega), ge0, toN, wAdd (by omega), ← elP_in hx (show i < m by omega), upTo_set hw hg (show i < n by omega)]
    simp only [Bool.and_self, cond_true]
    exact ih (i + 1) (by omega) f (by omega)
end Go.Proofs.YtogcijgklnfjjaaGreat

namespace Go.Proofs.YtogcijgklnfjjaaGreat
open Go Go.Eng
set_option maxRecDepth 100000
set_option linter.unusedVariables false

def okK (x : List Int) (K n : Nat) : Bool := Nat.beq x.length (n * K) && Nat.ble n 1073741823
theorem okK_iff {x : List Int} {K n : Nat} : okK x K n = true ↔ x.length = n * K ∧ n ≤ 1073741823 := by
  unfold okK
  rw [Bool.and_eq_true, Nat.beq_eq, Nat.ble_eq]
noncomputable def L16_0 : LoopFn := mkLF N16_0 f16_0_sh fun _ ls K => match ls with
  | [.i x1, .l x2, .l x3] => bif decide (x1 = 0) && okK x3 32 (x3.length / 32) then K X.normal (fill f16_0_ex1 [.b false, .i (nI (x3.length / 32)), .l x2, .l (mkB (x3.length / 32))]) else none
  | _ => none
noncomputable def overB (x y : List Int) : List Int := headG (upTo (elP x 32) (elP y 32) (x.length / 32)) (y.length / 32)
noncomputable def L16_2 : LoopFn := mkLF N16_2 f16_2_sh fun _ ls K => match ls with
  | [.i x1, .l x2, .l x3] => bif decide (x1 = 0) && (okK x2 32 (x2.length / 32) && (okK x3 32 (x3.length / 32) && Nat.ble (x2.length / 32) (x3.length / 32))) then K X.normal (fill f16_2_ex1 [.b false, .i (nI (x2.length / 32)), .l x2, .l (overB x2 x3)]) else none
  | _ => none
theorem L16_0_ok : LoopOk Tryz.prog L16_0 0 B16_0 := by
  refine loopOkF_of (E := E16 0) thOk3 GG0_ok mixed (loopsOk_of (l := []) (by kernel_rfl) trivial) ?_
  intro R ls K r h
  split at h
  · rename_i x1 x2 x3
    refine ⟨x3.length / 32 + 1, ?_⟩
    rw [f16_0_lp_eq]
    cases hc : decide (x1 = 0) && okK x3 32 (x3.length / 32) with
    | true =>
      rw [hc] at h
      rw [Bool.and_eq_true] at hc
      obtain ⟨h1, h2⟩ := okK_iff.1 hc.2
      have := f16_marks (N := 0) (fun y1 y2 y3 y4 => K X.normal (fill f16_0_ex1 [.b y1, .i y2, .l y3, .l y4])) x2 (g := elP x3 32) (elP_len x3 32) h2 (x3.length / 32) 0 (by omega) (x3.length / 32 + 1) (by omega)
      rw [upTo_zero, blk_elP h1] at this
      rw [of_decide_eq_true hc.1]
      exact this.trans h
    | false => rw [hc] at h; cases h
  · cases h
theorem L16_2_ok : LoopOk Tryz.prog L16_2 2 B16_2 := by
  refine loopOkF_of (E := E16 0) thOk3 GG0_ok mixed (loopsOk_of (l := []) (by kernel_rfl) trivial) ?_
  intro R ls K r h
  split at h
  · rename_i x1 x2 x3
    refine ⟨x2.length / 32 + 1, ?_⟩
    rw [f16_2_lp_eq]
    cases hc : decide (x1 = 0) && (okK x2 32 (x2.length / 32) && (okK x3 32 (x3.length / 32) && Nat.ble (x2.length / 32) (x3.length / 32))) with
    | true =>
      rw [hc] at h
      simp only [Bool.and_eq_true] at hc
      obtain ⟨h0, h1, h2, h3⟩ := hc
      obtain ⟨h4, h5⟩ := okK_iff.1 h1
      obtain ⟨h6, h7⟩ := okK_iff.1 h2
      have := f16_copy (N := 0) (fun y1 y2 y3 y4 => K X.normal (fill f16_2_ex1 [.b y1, .i y2, .l y3, .l y4])) (g := elP x3 32) (elP_len x3 32) h4 (Nat.le_of_ble_eq_true h3) h7 (x2.length / 32) 0 (by omega) (x2.length / 32 + 1) (by omega)
      rw [upTo_zero, blk_elP h6] at this
      rw [of_decide_eq_true h0]
      exact this.trans h
    | false => rw [hc] at h; cases h
  · cases h
noncomputable def EG16 : Env := { Θ := Th3, Γ := GG0, K := K16, ν := [], fuel := 0, lp := [(0, L16_0), (2, L16_2)] }
noncomputable def G16 : FI := { sig := { ps := [], rs := [] }, impl := fun _ ds k => callN EG16 2 61 B16 R16 ds k, kind := .inl 2 }
theorem cG16 : Contract Tryz.prog 16 G16 := inl_contract (E := EG16) thOk3 GG0_ok mixed ok16 (loopsOk_of (l := [(0, B16_0), (2, B16_2)]) (by kernel_rfl) (allOk_cons (L := L16_0) rfl L16_0_ok (allOk_cons (L := L16_2) rfl L16_2_ok trivial)))
end Go.Proofs.YtogcijgklnfjjaaGreat

namespace Go.Proofs.YtogcijgklnfjjaaGreat
open Go Go.Eng
set_option maxRecDepth 100000
set_option linter.unusedVariables false

def f20_0_sh : Shp := { n := 61, lo := 2, slots := [(0, .one (.fix (At.ptr 0 0 Off.z 30))), (1, .one (.fix (At.own 1))), (5, .one (.fix (At.own 11))), (6, .one (.int IntKind.i64))], items := [(1, .view (RK.one IntKind.i64) 1), (11, .row (RK.one IntKind.i64) 1)] }
def f20_0_ex1 : Shp := { n := 61, lo := 2, slots := [(15, .one (.bool)), (0, .one (.fix (At.ptr 0 0 Off.z 30))), (1, .one (.fix (At.own 1))), (5, .one (.fix (At.own 11))), (6, .one (.int IntKind.i64))], items := [(1, .view (RK.one IntKind.i64) 1), (11, .row (RK.one IntKind.i64) 1)] }
noncomputable def f20_0_st {R : Type} (N : Nat) (self : Int → List Int → List Int → Option R) (k1 : Bool → Int → List Int → List Int → Option R) (x1 : Int) (x2 : List Int) (x3 : List Int) : Option R :=
 bif Decidable.decide (x1 < nI (rowLen 1 x3)) then
 bif Decidable.decide (0 ≤ x1) && Decidable.decide (x1 < nI (rowLen 1 x3)) then
 let v0 : Int := IntKind.i64.wrap (x1 + 1);
 let v1 : List Int := x3.set (mulE x1.toNat 1) (mI 987 x1);
 self v0 x2 v1
 else Option.none
else k1 (Decidable.decide (x1 < nI (rowLen 1 x3))) x1 x2 x3
noncomputable def f20_0_lp {R : Type} (N : Nat) (k1 : Bool → Int → List Int → List Int → Option R) : Nat → Int → List Int → List Int → Option R
 | 0, _, _, _ => none
 | n + 1, x1, x2, x3 => f20_0_st N (f20_0_lp N k1 n) k1 x1 x2 x3
noncomputable def f20_0_F (N : Nat) : (R : Type) → List Leaf → (X → AS → Option R) → Option R := fun _ ls K => match ls with
 | [.i x1, .l x2, .l x3] => f20_0_lp N (fun y1 y2 y3 y4 => K (X.normal) (fill f20_0_ex1 [.b y1, .i y2, .l y3, .l y4])) N x1 x2 x3
 | _ => none
def f20_2_sh : Shp := { n := 61, lo := 2, slots := [(0, .one (.fix (At.ptr 0 0 Off.z 30))), (1, .one (.fix (At.own 1))), (5, .one (.fix (At.own 11))), (7, .one (.int IntKind.i64))], items := [(1, .view (RK.one IntKind.i64) 1), (11, .row (RK.one IntKind.i64) 1)] }
def f20_2_ex1 : Shp := { n := 61, lo := 2, slots := [(26, .one (.bool)), (0, .one (.fix (At.ptr 0 0 Off.z 30))), (1, .one (.fix (At.own 1))), (5, .one (.fix (At.own 11))), (7, .one (.int IntKind.i64))], items := [(1, .view (RK.one IntKind.i64) 1), (11, .row (RK.one IntKind.i64) 1)] }
noncomputable def f20_2_st {R : Type} (N : Nat) (self : Int → List Int → List Int → Option R) (k1 : Bool → Int → List Int → List Int → Option R) (x1 : Int) (x2 : List Int) (x3 : List Int) : Option R :=
 bif Decidable.decide (x1 < nI (rowLen 1 x2)) then
 bif Decidable.decide (0 ≤ x1) && Decidable.decide (x1 < nI (rowLen 1 x2)) then
 bif Decidable.decide (0 ≤ x1) && Decidable.decide (x1 < nI (rowLen 1 x3)) then
 let v0 : Int := IntKind.i64.wrap (x1 + 1);
 let v1 : List Int := x3.set (mulE x1.toNat 1) (x2.getD (mulE x1.toNat 1) 0);
 self v0 x2 v1
 else Option.none
 else Option.none
else k1 (Decidable.decide (x1 < nI (rowLen 1 x2))) x1 x2 x3
noncomputable def f20_2_lp {R : Type} (N : Nat) (k1 : Bool → Int → List Int → List Int → Option R) : Nat → Int → List Int → List Int → Option R
 | 0, _, _, _ => none
 | n + 1, x1, x2, x3 => f20_2_st N (f20_2_lp N k1 n) k1 x1 x2 x3
noncomputable def f20_2_F (N : Nat) : (R : Type) → List Leaf → (X → AS → Option R) → Option R := fun _ ls K => match ls with
 | [.i x1, .l x2, .l x3] => f20_2_lp N (fun y1 y2 y3 y4 => K (X.normal) (fill f20_2_ex1 [.b y1, .i y2, .l y3, .l y4])) N x1 x2 x3
 | _ => none
noncomputable def E20 (N : Nat) : Env := { Θ := Th3, Γ := GG0, K := K20, ν := N20, fuel := 0, lp := [(0, mkL N20_0 f20_0_sh (f20_0_F N)), (2, mkL N20_2 f20_2_sh (f20_2_F N))] }

theorem f20_0_st_eq {R : Type} (N : Nat) (K : X → AS → Option R) (n : Nat) (x1 : Int) (x2 : List Int) (x3 : List Int) : roundsOf (E20 N) N20_0 0 B20_0 K (n + 1) (fill f20_0_sh [.i x1, .l x2, .l x3]) = f20_0_st N (fun x1 x2 x3 => roundsOf (E20 N) N20_0 0 B20_0 K n (fill f20_0_sh [.i x1, .l x2, .l x3])) (fun y1 y2 y3 y4 => K (X.normal) (fill f20_0_ex1 [.b y1, .i y2, .l y3, .l y4])) x1 x2 x3 := by kernel_rfl
theorem f20_0_lp_eq {R : Type} (N : Nat) (K : X → AS → Option R) : ∀ (n : Nat) (x1 : Int) (x2 : List Int) (x3 : List Int), roundsOf (E20 N) N20_0 0 B20_0 K n (fill f20_0_sh [.i x1, .l x2, .l x3]) = f20_0_lp N (fun y1 y2 y3 y4 => K (X.normal) (fill f20_0_ex1 [.b y1, .i y2, .l y3, .l y4])) n x1 x2 x3
  | 0, _, _, _ => rfl
  | n + 1, x1, x2, x3 => by
    rw [f20_0_st_eq, f20_0_lp, show (fun x1 x2 x3 => roundsOf (E20 N) N20_0 0 B20_0 K n (fill f20_0_sh [.i x1, .l x2, .l x3])) = f20_0_lp N (fun y1 y2 y3 y4 => K (X.normal) (fill f20_0_ex1 [.b y1, .i y2, .l y3, .l y4])) n from by funext x1 x2 x3; exact f20_0_lp_eq N K n x1 x2 x3]
theorem f20_2_st_eq {R : Type} (N : Nat) (K : X → AS → Option R) (n : Nat) (x1 : Int) (x2 : List Int) (x3 : List Int) : roundsOf (E20 N) N20_2 2 B20_2 K (n + 1) (fill f20_2_sh [.i x1, .l x2, .l x3]) = f20_2_st N (fun x1 x2 x3 => roundsOf (E20 N) N20_2 2 B20_2 K n (fill f20_2_sh [.i x1, .l x2, .l x3])) (fun y1 y2 y3 y4 => K (X.normal) (fill f20_2_ex1 [.b y1, .i y2, .l y3, .l y4])) x1 x2 x3 := by kernel_rfl
theorem f20_2_lp_eq {R : Type} (N : Nat) (K : X → AS → Option R) : ∀ (n : Nat) (x1 : Int) (x2 : List Int) (x3 : List Int), roundsOf (E20 N) N20_2 2 B20_2 K n (fill f20_2_sh [.i x1, .l x2, .l x3]) = f20_2_lp N (fun y1 y2 y3 y4 => K (X.normal) (fill f20_2_ex1 [.b y1, .i y2, .l y3, .l y4])) n x1 x2 x3
  | 0, _, _, _ => rfl
  | n + 1, x1, x2, x3 => by
    rw [f20_2_st_eq, f20_2_lp, show (fun x1 x2 x3 => roundsOf (E20 N) N20_2 2 B20_2 K n (fill f20_2_sh [.i x1, .l x2, .l x3])) = f20_2_lp N (fun y1 y2 y3 y4 => K (X.normal) (fill f20_2_ex1 [.b y1, .i y2, .l y3, .l y4])) n from by funext x1 x2 x3; exact f20_2_lp_eq N K n x1 x2 x3]
end Go.Proofs.YtogcijgklnfjjaaGreat

namespace Go.Eng
open Go

def fillG (f : Nat → Int) (n : Nat) (xs : List Int) : List Int := xs.mapIdx fun i x => if i < n then f i else x
theorem fillG_zero (f : Nat → Int) (xs : List Int) : fillG f 0 xs = xs := by
  unfold fillG
  apply List.ext_getElem?
  intro i
  simp
theorem fillG_length (f : Nat → Int) (n : Nat) (xs : List Int) : (fillG f n xs).length = xs.length := by simp [fillG]
theorem fillG_set (f : Nat → Int) {n : Nat} {xs : List Int} : (fillG f n xs).set n (f n) = fillG f (n + 1) xs := by
  unfold fillG
  apply List.ext_getElem?
  intro i
  rw [List.getElem?_set, List.getElem?_mapIdx, List.getElem?_mapIdx, List.length_mapIdx]
  by_cases h : n = i
  · subst h
    rw [if_pos rfl]
    by_cases hl : n < xs.length
    · rw [if_pos hl, List.getElem?_eq_getElem hl]; simp
    · rw [if_neg hl, List.getElem?_eq_none (by omega)]; rfl
  · rw [if_neg h]
    by_cases hl : i < n
    · have : i < n + 1 := by omega
      simp [hl, this]
    · have : ¬ i < n + 1 := by omega
      simp [hl, this]
def overG (x y : List Int) : List Int := fillG (fun i => x.getD i 0) x.length y
theorem overG_length (x y : List Int) : (overG x y).length = y.length := fillG_length _ _ _
end Go.Eng

namespace Go.Proofs.YtogcijgklnfjjaaGreat
open Go Go.Eng
set_option maxRecDepth 100000
set_option linter.unusedVariables false

def mkI (n : Nat) : List Int := (List.range n).map fun (i : Nat) => mI 987 (i : Int)
theorem fillI_all (xs : List Int) : fillG (fun (i : Nat) => mI 987 (i : Int)) xs.length xs = mkI xs.length := by
  unfold fillG mkI
  apply List.ext_getElem?
  intro i
  rw [List.getElem?_mapIdx, List.getElem?_map]
  by_cases h : i < xs.length
  · rw [List.getElem?_eq_getElem h, List.getElem?_range h]; simp [h]
  · rw [List.getElem?_eq_none (by omega), List.getElem?_eq_none (by simp; omega)]; rfl
theorem f20_marks {R : Type} {N : Nat} (k1 : Bool → Int → List Int → List Int → Option R) (y xs : List Int) (hb : xs.length ≤ 1073741823) :
    ∀ (m i : Nat), i + m = xs.length → ∀ fuel, m < fuel → f20_0_lp N k1 fuel (i : Int) y (fillG (fun (j : Nat) => mI 987 (j : Int)) i xs) = k1 false (xs.length : Int) y (mkI xs.length) := by
  have hr : ∀ i, nI (rowLen 1 (fillG (fun (j : Nat) => mI 987 (j : Int)) i xs)) = (xs.length : Int) := fun i => by
    show (((fillG (fun (j : Nat) => mI 987 (j : Int)) i xs).length : Nat) : Int) = _
    rw [fillG_length]
  intro m
  induction m with
  | zero =>
    intro i h fuel hf
    obtain ⟨f, rfl⟩ : ∃ f, fuel = f + 1 := ⟨fuel - 1, by omega⟩
    have : i = xs.length := by omega
    subst this
    show f20_0_st N (f20_0_lp N _ f) _ _ _ _ = _
    unfold f20_0_st
    rw [hr, ltF (by omega), cond_false, fillI_all]
  | succ m ih =>
    intro i h fuel hf
    obtain ⟨f, rfl⟩ : ∃ f, fuel = f + 1 := ⟨fuel - 1, by omega⟩
    show f20_0_st N (f20_0_lp N _ f) _ _ _ _ = _
    unfold f20_0_st
    rw [hr, ltT (show i < xs.length by omega), ge0, show mulE (Int.toNat (i : Int)) 1 = i from rfl, wAdd (by omega)]
    dsimp only
    rw [fillG_set (fun (j : Nat) => mI 987 (j : Int))]
    simp only [Bool.and_self, cond_true]
    exact ih (i + 1) (by omega) f (by omega)
theorem f20_copy {R : Type} {N : Nat} (k1 : Bool → Int → List Int → List Int → Option R) (y xs : List Int) (hb : y.length ≤ 1073741823) (hl : y.length ≤ xs.length) :
    ∀ (m i : Nat), i + m = y.length → ∀ fuel, m < fuel → f20_2_lp N k1 fuel (i : Int) y (fillG (fun (j : Nat) => y.getD j 0) i xs) = k1 false (y.length : Int) y (overG y xs) := by
  have hr : ∀ i, nI (rowLen 1 (fillG (fun (j : Nat) => y.getD j 0) i xs)) = (xs.length : Int) := fun i => by
    show (((fillG (fun (j : Nat) => y.getD j 0) i xs).length : Nat) : Int) = _
    rw [fillG_length]
  have hy : nI (rowLen 1 y) = (y.length : Int) := rfl
  intro m
  induction m with
  | zero =>
    intro i h fuel hf
    obtain ⟨f, rfl⟩ : ∃ f, fuel = f + 1 := ⟨fuel - 1, by omega⟩
    have : i = y.length := by omega
    subst this
    show f20_2_st N (f20_2_lp N _ f) _ _ _ _ = _
    unfold f20_2_st
    rw [hy, ltF (by omega), cond_false]
    rfl
  | succ m ih =>
    intro i h fuel hf
    obtain ⟨f, rfl⟩ : ∃ f, fuel = f + 1 := ⟨fuel - 1, by omega⟩
    show f20_2_st N (f20_2_lp N _ f) _ _ _ _ = _
    unfold f20_2_st
    rw [hr, hy, ltT (show i < y.length by omega), ltT (show i < xs.length by omega), ge0, show mulE (Int.toNat (i : Int)) 1 = i from rfl, wAdd (by omega)]
    dsimp only
    rw [fillG_set (fun (j : Nat) => y.getD j 0)]
    simp only [Bool.and_self, cond_true]
    exact ih (i + 1) (by omega) f (by omega)
noncomputable def L20_0 : LoopFn := mkLF N20_0 f20_0_sh fun _ ls K => match ls with
  | [.i x1, .l x2, .l x3] => bif decide (x1 = 0) && Nat.ble x3.length 1073741823 then K X.normal (fill f20_0_ex1 [.b false, .i (nI x3.length), .l x2, .l (mkI x3.length)]) else none
  | _ => none
noncomputable def L20_2 : LoopFn := mkLF N20_2 f20_2_sh fun _ ls K => match ls with
  | [.i x1, .l x2, .l x3] => bif decide (x1 = 0) && (Nat.ble x2.length 1073741823 && Nat.ble x2.length x3.length) then K X.normal (fill f20_2_ex1 [.b false, .i (nI x2.length), .l x2, .l (overG x2 x3)]) else none
  | _ => none
theorem L20_0_ok : LoopOk Tryz.prog L20_0 0 B20_0 := by
  refine loopOkF_of (E := E20 0) thOk3 GG0_ok mixed (loopsOk_of (l := []) (by kernel_rfl) trivial) ?_
  intro R ls K r h
  split at h
  · rename_i x1 x2 x3
    refine ⟨x3.length + 1, ?_⟩
    rw [f20_0_lp_eq]
    cases hc : decide (x1 = 0) && Nat.ble x3.length 1073741823 with
    | true =>
      rw [hc] at h
      rw [Bool.and_eq_true] at hc
      have := f20_marks (N := 0) (fun y1 y2 y3 y4 => K X.normal (fill f20_0_ex1 [.b y1, .i y2, .l y3, .l y4])) x2 x3 (Nat.le_of_ble_eq_true hc.2) x3.length 0 (by omega) (x3.length + 1) (by omega)
      rw [fillG_zero] at this
      rw [of_decide_eq_true hc.1]
      exact this.trans h
    | false => rw [hc] at h; cases h
  · cases h
theorem L20_2_ok : LoopOk Tryz.prog L20_2 2 B20_2 := by
  refine loopOkF_of (E := E20 0) thOk3 GG0_ok mixed (loopsOk_of (l := []) (by kernel_rfl) trivial) ?_
  intro R ls K r h
  split at h
  · rename_i x1 x2 x3
    refine ⟨x2.length + 1, ?_⟩
    rw [f20_2_lp_eq]
    cases hc : decide (x1 = 0) && (Nat.ble x2.length 1073741823 && Nat.ble x2.length x3.length) with
    | true =>
      rw [hc] at h
      rw [Bool.and_eq_true, Bool.and_eq_true] at hc
      have := f20_copy (N := 0) (fun y1 y2 y3 y4 => K X.normal (fill f20_2_ex1 [.b y1, .i y2, .l y3, .l y4])) x2 x3 (Nat.le_of_ble_eq_true hc.2.1) (Nat.le_of_ble_eq_true hc.2.2) x2.length 0 (by omega) (x2.length + 1) (by omega)
      rw [fillG_zero] at this
      rw [of_decide_eq_true hc.1]
      exact this.trans h
    | false => rw [hc] at h; cases h
  · cases h
noncomputable def EG20 : Env := { Θ := Th3, Γ := GG0, K := K20, ν := [], fuel := 0, lp := [(0, L20_0), (2, L20_2)] }
noncomputable def G20 : FI := { sig := { ps := [], rs := [] }, impl := fun _ ds k => callN EG20 2 61 B20 R20 ds k, kind := .inl 2 }
theorem cG20 : Contract Tryz.prog 20 G20 := inl_contract (E := EG20) thOk3 GG0_ok mixed ok20 (loopsOk_of (l := [(0, B20_0), (2, B20_2)]) (by kernel_rfl) (allOk_cons (L := L20_0) rfl L20_0_ok (allOk_cons (L := L20_2) rfl L20_2_ok trivial)))
end Go.Proofs.YtogcijgklnfjjaaGreat

namespace Go.Proofs.YtogcijgklnfjjaaGreat
open Go Go.Eng
set_option maxRecDepth 100000
set_option linter.unusedVariables false

def f12_0_sh : Shp := { n := 26, lo := 2, slots := [(0, .one (.fix (At.own 0))), (1, .one (.fix (At.own 1))), (5, .one (.int IntKind.i64))], items := [(0, .view (RK.one IntKind.i64) 1), (1, .view (RK.one IntKind.i64) 1)] }
def f12_0_ex1 : Shp := { n := 26, lo := 2, slots := [(4, .one (.bool)), (25, .one (.bool)), (14, .one (.bool)), (0, .one (.fix (At.own 0))), (1, .one (.fix (At.own 1))), (5, .one (.int IntKind.i64))], items := [(0, .view (RK.one IntKind.i64) 1), (1, .view (RK.one IntKind.i64) 1)] }
def f12_0_ex2 : Shp := { n := 26, lo := 2, slots := [(14, .one (.bool)), (0, .one (.fix (At.own 0))), (1, .one (.fix (At.own 1))), (5, .one (.int IntKind.i64))], items := [(0, .view (RK.one IntKind.i64) 1), (1, .view (RK.one IntKind.i64) 1)] }
noncomputable def f12_0_st {R : Type} (N : Nat) (self : Int → List Int → List Int → Option R) (k1 : Bool → Bool → Bool → Int → List Int → List Int → Option R) (k2 : Bool → Int → List Int → List Int → Option R) (x1 : Int) (x2 : List Int) (x3 : List Int) : Option R :=
 bif Decidable.decide (x1 < nI (rowLen 1 x2)) then
 bif Decidable.decide (0 ≤ x1) && Decidable.decide (x1 < nI (rowLen 1 x2)) then
 bif Decidable.decide (0 ≤ x1) && Decidable.decide (x1 < nI (rowLen 1 x3)) then
 bif x2.getD (mulE x1.toNat 1) 0 != x3.getD (mulE x1.toNat 1) 0 then k1 Bool.false (x2.getD (mulE x1.toNat 1) 0 != x3.getD (mulE x1.toNat 1) 0) (Decidable.decide (x1 < nI (rowLen 1 x2))) x1 x2 x3
 else
 let v0 : Int := IntKind.i64.wrap (x1 + 1);
 self v0 x2 x3
 else Option.none
 else Option.none
else k2 (Decidable.decide (x1 < nI (rowLen 1 x2))) x1 x2 x3
noncomputable def f12_0_lp {R : Type} (N : Nat) (k1 : Bool → Bool → Bool → Int → List Int → List Int → Option R) (k2 : Bool → Int → List Int → List Int → Option R) : Nat → Int → List Int → List Int → Option R
 | 0, _, _, _ => none
 | n + 1, x1, x2, x3 => f12_0_st N (f12_0_lp N k1 k2 n) k1 k2 x1 x2 x3
noncomputable def f12_0_F (N : Nat) : (R : Type) → List Leaf → (X → AS → Option R) → Option R := fun _ ls K => match ls with
 | [.i x1, .l x2, .l x3] => f12_0_lp N (fun y1 y2 y3 y4 y5 y6 => K (X.ret) (fill f12_0_ex1 [.b y1, .b y2, .b y3, .i y4, .l y5, .l y6])) (fun y1 y2 y3 y4 => K (X.normal) (fill f12_0_ex2 [.b y1, .i y2, .l y3, .l y4])) N x1 x2 x3
 | _ => none
noncomputable def f12_raw {R : Type} (N : Nat) (a : List Int) (b : List Int) (k : List DV → Option R) : Option R :=
 bif nI (rowLen 1 a) != nI (rowLen 1 b) then k [DV.v (SV.one (At.bool Bool.false))] else f12_0_lp N (fun w0_1 w0_2 w0_3 w0_4 w0_5 w0_6 => k [DV.v (SV.one (At.bool w0_1))]) (fun w1_1 w1_2 w1_3 w1_4 => k [DV.v (SV.one (At.bool Bool.true))]) N 0 a b


noncomputable def E12 (N : Nat) : Env := { Θ := Th, Γ := [], K := K12, ν := N12, fuel := 0, lp := [(0, mkL N12_0 f12_0_sh (f12_0_F N))] }

theorem f12_0_st_eq {R : Type} (N : Nat) (K : X → AS → Option R) (n : Nat) (x1 : Int) (x2 : List Int) (x3 : List Int) : roundsOf (E12 N) N12_0 0 B12_0 K (n + 1) (fill f12_0_sh [.i x1, .l x2, .l x3]) = f12_0_st N (fun x1 x2 x3 => roundsOf (E12 N) N12_0 0 B12_0 K n (fill f12_0_sh [.i x1, .l x2, .l x3])) (fun y1 y2 y3 y4 y5 y6 => K (X.ret) (fill f12_0_ex1 [.b y1, .b y2, .b y3, .i y4, .l y5, .l y6])) (fun y1 y2 y3 y4 => K (X.normal) (fill f12_0_ex2 [.b y1, .i y2, .l y3, .l y4])) x1 x2 x3 := by kernel_rfl
theorem f12_0_lp_eq {R : Type} (N : Nat) (K : X → AS → Option R) : ∀ (n : Nat) (x1 : Int) (x2 : List Int) (x3 : List Int), roundsOf (E12 N) N12_0 0 B12_0 K n (fill f12_0_sh [.i x1, .l x2, .l x3]) = f12_0_lp N (fun y1 y2 y3 y4 y5 y6 => K (X.ret) (fill f12_0_ex1 [.b y1, .b y2, .b y3, .i y4, .l y5, .l y6])) (fun y1 y2 y3 y4 => K (X.normal) (fill f12_0_ex2 [.b y1, .i y2, .l y3, .l y4])) n x1 x2 x3
  | 0, _, _, _ => rfl
  | n + 1, x1, x2, x3 => by
    rw [f12_0_st_eq, f12_0_lp, show (fun x1 x2 x3 => roundsOf (E12 N) N12_0 0 B12_0 K n (fill f12_0_sh [.i x1, .l x2, .l x3])) = f12_0_lp N (fun y1 y2 y3 y4 y5 y6 => K (X.ret) (fill f12_0_ex1 [.b y1, .b y2, .b y3, .i y4, .l y5, .l y6])) (fun y1 y2 y3 y4 => K (X.normal) (fill f12_0_ex2 [.b y1, .i y2, .l y3, .l y4])) n from by funext x1 x2 x3; exact f12_0_lp_eq N K n x1 x2 x3]
theorem f12_0_ok (N : Nat) (hlp : LoopsOk Tryz.prog (E12 N).lp B12_0) (hΓ : CtxOk Tryz.prog (E12 N).Γ) : LoopOk Tryz.prog (mkL N12_0 f12_0_sh (f12_0_F N)) 0 B12_0 := by
  refine loopOk_of (E := E12 N) thOk hΓ mixed hlp ?_
  intro R ls K r h
  unfold f12_0_F at h
  split at h
  · exact ⟨N, by rw [f12_0_lp_eq]; exact h⟩
  · cases h

theorem lok12_0 (N : Nat) (hΓ : CtxOk Tryz.prog []) : LoopOk Tryz.prog (mkL N12_0 f12_0_sh (f12_0_F N)) 0 B12_0 := f12_0_ok N (loopsOk_of (l := []) (by kernel_rfl) trivial) hΓ
theorem f12_contract (N : Nat) (hΓ : CtxOk Tryz.prog []) : Contract Tryz.prog 12 { sig := S12, impl := fun _ ds k => call (E12 N) S12 26 B12 R12 ds k } :=
  call_contract (E := E12 N) thOk hΓ mixed ok12.look ok12.body ok12.n ok12.rv ok12.name rfl (by decide) (loopsOk_of (l := [(0, B12_0)]) (by kernel_rfl) (allOk_cons (L := mkL N12_0 f12_0_sh (f12_0_F N)) rfl (lok12_0 N hΓ) trivial))
theorem f12_raw_eq {R : Type} (N : Nat) (a : List Int) (b : List Int) (k : List DV → Option R) : call (E12 N) S12 26 B12 R12 [.lst (.one .i64) 1 a, .lst (.one .i64) 1 b] k = f12_raw N a b k := by kernel_rfl
end Go.Proofs.YtogcijgklnfjjaaGreat

namespace Go.Proofs.YtogcijgklnfjjaaGreat
open Go Go.Eng
set_option maxRecDepth 100000
set_option linter.unusedVariables false

end Go.Proofs.YtogcijgklnfjjaaGreat

namespace Go.Proofs.YtogcijgklnfjjaaGreat
open Go Go.Eng
set_option maxRecDepth 100000
set_option linter.unusedVariables false

end Go.Proofs.YtogcijgklnfjjaaGreat

namespace Go.Proofs.YtogcijgklnfjjaaGreat
open Go Go.Eng
set_option maxRecDepth 100000
set_option linter.unusedVariables false

end Go.Proofs.YtogcijgklnfjjaaGreat

namespace Go.Proofs.YtogcijgklnfjjaaGreat
open Go Go.Eng
set_option maxRecDepth 100000
set_option linter.unusedVariables false

end Go.Proofs.YtogcijgklnfjjaaGreat

namespace Go.Proofs.YtogcijgklnfjjaaGreat
open Go Go.Eng
set_option maxRecDepth 100000
set_option linter.unusedVariables false

end Go.Proofs.YtogcijgklnfjjaaGreat

namespace Go.Proofs.YtogcijgklnfjjaaGreat
open Go Go.Eng
set_option maxRecDepth 100000
set_option linter.unusedVariables false

end Go.Proofs.YtogcijgklnfjjaaGreat

namespace Go.Proofs.YtogcijgklnfjjaaGreat
open Go Go.Eng
set_option maxRecDepth 100000
set_option linter.unusedVariables false

end Go.Proofs.YtogcijgklnfjjaaGreat

namespace Go.Proofs.YtogcijgklnfjjaaGreat
open Go Go.Eng
set_option maxRecDepth 100000
set_option linter.unusedVariables false

noncomputable def plF (ids : List Int) (i : Nat) : Nat := plN (ids.getD i 0)
end Go.Proofs.YtogcijgklnfjjaaGreat

namespace Go.Proofs.YtogcijgklnfjjaaGreat
open Go Go.Eng
end Go.Proofs.YtogcijgklnfjjaaGreat

namespace Go.Proofs.YtogcijgklnfjjaaGreat
open Go Go.Eng
set_option maxRecDepth 100000
set_option linter.unusedVariables false

end Go.Proofs.YtogcijgklnfjjaaGreat

namespace Go.Proofs.YtogcijgklnfjjaaGreat
open Go Go.Eng
set_option maxRecDepth 100000
set_option linter.unusedVariables false

end Go.Proofs.YtogcijgklnfjjaaGreat

namespace Go.Proofs.YtogcijgklnfjjaaGreat
open Go Go.Eng
set_option maxRecDepth 100000
set_option linter.unusedVariables false

end Go.Proofs.YtogcijgklnfjjaaGreat

namespace Go.Proofs.YtogcijgklnfjjaaGreat
open Go Go.Eng
set_option maxRecDepth 100000
set_option linter.unusedVariables false

instance : NeZero ell := ⟨by have := ell_pos; omega⟩
abbrev Q := Fin ell
def q (n : Nat) : Q := Fin.ofNat ell n
noncomputable def qi (a : Q) : Q := q (invN a.val)
noncomputable def ev : Nat → (Nat → Q) → Q → Q
  | 0, _, _ => 0
  | n + 1, c, x => c 0 + x * ev n (fun i => c (i + 1)) x
noncomputable def quo : Nat → (Nat → Q) → Q → Nat → Q
  | 0, _, _, _ => 0
  | n + 1, c, s, 0 => ev (n + 1) (fun i => c (i + 1)) s
  | n + 1, c, s, i + 1 => quo n (fun i => c (i + 1)) s i
end Go.Proofs.YtogcijgklnfjjaaGreat

namespace Go.Proofs.YtogcijgklnfjjaaGreat
open Go Go.Eng
set_option maxRecDepth 100000
set_option linter.unusedVariables false

section
variable (X y : Nat → Q)
noncomputable def dd : Nat → Nat → Q
  | 0, j => y j
  | k + 1, j => (dd k j - dd k (j - 1)) * qi (X j - X (j - (k + 1)))
end

end Go.Proofs.YtogcijgklnfjjaaGreat

namespace Go.Proofs.YtogcijgklnfjjaaGreat
open Go Go.Eng
set_option maxRecDepth 100000
set_option linter.unusedVariables false

theorem blk_el {g : Nat → List Int} {n : Nat} (h : ∀ i, i < n → (g i).length = 32) : ∀ m, m ≤ n → (headG g m).length = m * 32 ∧ ∀ i, i < m → elF (headG g m) i = g i
  | 0, _ => ⟨rfl, fun i hi => by omega⟩
  | m + 1, hm => by
    obtain ⟨h1, h2⟩ := blk_el h m (by omega)
    have hl : (headG g (m + 1)).length = (m + 1) * 32 := by
      show (headG g m ++ g m).length = _
      rw [List.length_append, h1, h m (by omega)]; omega
    refine ⟨hl, fun i hi => ?_⟩
    show List.take 32 (List.drop (i * 32) (headG g m ++ g m)) = g i
    by_cases e : i = m
    · subst e
      rw [List.drop_left' h1, List.take_of_length_le (by rw [h i (by omega)]; omega)]
    · have := h2 i (by omega)
      unfold elF at this
      rw [List.drop_append_of_le_length (by omega), List.take_append_of_le_length (by rw [List.length_drop]; omega)]
      exact this
theorem blk_okF {g : Nat → List Int} {n : Nat} (h : ∀ i, i < n → okB (g i) = true) (hb : n * 32 ≤ 1073741824) : okF (headG g n) = true := by
  have hl := (blk_el (g := g) (n := n) (fun i hi => okB_len' (h i hi)) n (Nat.le_refl _)).1
  unfold okF
  rw [Bool.and_eq_true, Bool.and_eq_true]
  refine ⟨⟨?_, ?_⟩, ?_⟩
  · rw [hl, show n * 32 % 32 = 0 by omega]; rfl
  · rw [hl]; exact Nat.ble_eq ▸ hb
  · rw [List.all_eq_true]
    clear hl hb
    induction n with
    | zero => intro b hb; cases hb
    | succ n ih =>
      intro b hb
      have hb : b ∈ headG g n ++ g n := hb
      rcases List.mem_append.1 hb with hb | hb
      · exact ih (fun i hi => h i (by omega)) b hb
      · have := h n (by omega)
        unfold okB at this
        rw [Bool.and_eq_true, List.all_eq_true] at this
        exact this.2 b hb
end Go.Proofs.YtogcijgklnfjjaaGreat

namespace Go.Proofs.YtogcijgklnfjjaaGreat
open Go Go.Eng
set_option maxRecDepth 100000
set_option linter.unusedVariables false

end Go.Proofs.YtogcijgklnfjjaaGreat

namespace Go.Proofs.YtogcijgklnfjjaaGreat
open Go Go.Eng
set_option maxRecDepth 100000
set_option linter.unusedVariables false

end Go.Proofs.YtogcijgklnfjjaaGreat

namespace Go.Proofs.YtogcijgklnfjjaaGreat
open Go Go.Eng
set_option maxRecDepth 100000
set_option linter.unusedVariables false

end Go.Proofs.YtogcijgklnfjjaaGreat

namespace Go.Proofs.YtogcijgklnfjjaaGreat
open Go Go.Eng
set_option maxRecDepth 100000
set_option linter.unusedVariables false

end Go.Proofs.YtogcijgklnfjjaaGreat

namespace Go.Proofs.YtogcijgklnfjjaaGreat
open Go Go.Eng
set_option maxRecDepth 100000
set_option linter.unusedVariables false

end Go.Proofs.YtogcijgklnfjjaaGreat

namespace Go.Proofs.YtogcijgklnfjjaaGreat
open Go Go.Eng
set_option maxRecDepth 100000
set_option linter.unusedVariables false

structure IdsOk (xs : List Int) : Prop where
  pos : 1 ≤ xs.length
  le : xs.length ≤ 255
  rng : ∀ k, k < xs.length → 1 ≤ xs.getD k 0 ∧ xs.getD k 0 ≤ 255
  ne : ∀ a b, a < b → b < xs.length → xs.getD a 0 ≠ xs.getD b 0
theorem plN_id {x : Int} (h1 : 1 ≤ x) (h2 : x ≤ 255) : plN x = x.toNat := by
  unfold plN IntKind.wrap
  simp only [IntKind.bits, IntKind.signed, Bool.false_and, Bool.false_eq_true, if_false, show (2 : Int) ^ 64 = 18446744073709551616 by decide]
  omega
theorem IdsOk.pl {xs : List Int} (h : IdsOk xs) : ∀ i j, i < j → j < xs.length → plF xs i ≠ plF xs j := fun i j h1 h2 => by
  have a1 := h.rng i (by omega)
  have a2 := h.rng j h2
  have a3 := h.ne i j h1 h2
  unfold plF
  rw [plN_id a1.1 a1.2, plN_id a2.1 a2.2]; omega
noncomputable def zS : List Int := sN 0
theorem zS_eq : List.replicate 32 (0 : Int) = zS := b_zero'
end Go.Proofs.YtogcijgklnfjjaaGreat

namespace Go.Proofs.YtogcijgklnfjjaaGreat
open Go Go.Eng
set_option maxRecDepth 100000
set_option linter.unusedVariables false

noncomputable def f17_raw {R : Type} (N : Nat) (xs : List Int) (x : Int) (k : List DV → Option R) : Option R :=
 bif !(Decidable.decide (x ≥ 1) && Decidable.decide (x ≤ 255)) then k [DV.v (SV.one (At.ints IntKind.u8 32 (List.replicate 32 0))), DV.v (SV.one (At.int IntKind.i64 4))] else bif okF xs && okB (sN (plN x)) then k [DV.v (SV.one (At.ints IntKind.u8 32 (sN (evN xs (vS (sN (plN x))))))), DV.v (SV.one (At.int IntKind.i64 0))] else Option.none


noncomputable def E17 (N : Nat) : Env := { Θ := Th, Γ := GT1, K := K17, ν := N17, fuel := 0, lp := [] }


theorem f17_contract (N : Nat) (hΓ : CtxOk Tryz.prog GT1) : Contract Tryz.prog 17 { sig := S17, impl := fun _ ds k => call (E17 N) S17 14 B17 R17 ds k } :=
  call_contract (E := E17 N) thOk hΓ mixed ok17.look ok17.body ok17.n ok17.rv ok17.name rfl (by decide) (loopsOk_of (l := []) (by kernel_rfl) trivial)
theorem f17_raw_eq {R : Type} (N : Nat) (xs : List Int) (x : Int) (k : List DV → Option R) : call (E17 N) S17 14 B17 R17 [.lst (.one .u8) 32 xs, .v (.one (.int .i64 x))] k = f17_raw N xs x k := by kernel_rfl
end Go.Proofs.YtogcijgklnfjjaaGreat

namespace Go.Proofs.YtogcijgklnfjjaaGreat
open Go Go.Eng
set_option maxRecDepth 100000

def elC : Nat := 7237005577332262213973186563042994240857116359379907606001950938285454250989
theorem ell_elC : ell = elC := ell_def
def sC (v : Nat) : List Int := nats (digs 256 32 v)
theorem sN_sC (v : Nat) : sN v = sC v := sN_def v
def vC (x : List Int) : Nat := numB x % elC
theorem vS_vC (x : List Int) : vS x = vC x := by rw [vS_def, ell_elC]; rfl
def pwC : Nat → Nat → Nat → Nat
  | 0, _, _ => 1
  | n + 1, b, e => bif Nat.beq (e % 2) 1 then b * pwC n (b * b % elC) (e / 2) % elC else pwC n (b * b % elC) (e / 2)
theorem pwC_eq : ∀ (n b e : Nat), e < 2 ^ n → pwC n b e % elC = b ^ e % elC
  | 0, b, e, h => by
    have : e = 0 := by simp at h; exact h
    subst this; rfl
  | n + 1, b, e, h => by
    have ih := pwC_eq n (b * b % elC) (e / 2) (by rw [Nat.pow_succ] at h; omega)
    have e1 : (b * b % elC) ^ (e / 2) % elC = b ^ (2 * (e / 2)) % elC := by
      rw [← Nat.pow_mod, ← Nat.pow_two, ← Nat.pow_mul]
    unfold pwC
    have h2 := Nat.mod_two_eq_zero_or_one e
    cases hb : Nat.beq (e % 2) 1 with
    | true =>
      have h3 := Nat.eq_of_beq_eq_true hb
      rw [cond_true, Nat.mod_mod, Nat.mul_mod, ih, e1, ← Nat.mul_mod]
      have : e = 2 * (e / 2) + 1 := by omega
      rw [show b * b ^ (2 * (e / 2)) = b ^ (2 * (e / 2) + 1) by rw [Nat.pow_succ, Nat.mul_comm], ← this]
    | false =>
      have h3 : e % 2 ≠ 1 := fun q => by rw [q] at hb; cases hb
      rw [cond_false, ih, e1]
      have : e = 2 * (e / 2) := by omega
      rw [← this]
def inC (a : Nat) : Nat := pwC 256 a 7237005577332262213973186563042994240857116359379907606001950938285454250987 % elC
theorem invN_inC (a : Nat) : invN a = inC a := by
  rw [invN_def, powN_def, ell_elC]
  exact (pwC_eq 256 a _ (by decide +kernel)).symm

def adC (a b : Nat) : Nat := (a + b) % elC
def ngC (a : Nat) : Nat := (elC - a) % elC
def mlC (a b : Nat) : Nat := a * b % elC
theorem addN_adC (a b : Nat) : addN a b = adC a b := by rw [addN_def, ell_elC]; rfl
theorem negN_ngC (a : Nat) : negN a = ngC a := by rw [negN_def, ell_elC]; rfl
theorem mulN_mlC (a b : Nat) : mulN a b = mlC a b := by rw [mulN_def, ell_elC]; rfl
theorem difN_C (a b : Nat) : difN a b = adC a (ngC b) := by unfold difN; rw [addN_adC, negN_ngC]

def C42 : (R : Type) → List DV → (List DV → Option R) → Option R := fun _ ds k => match ds with
  | [.v (.one (.ints .u8 32 x)), .v (.one (.ints .u8 32 y))] => bif okB x && okB y then k [.v (.one (.ints .u8 32 (sC (adC (vC x) (vC y)))))] else none
  | _ => none
def C79 : (R : Type) → List DV → (List DV → Option R) → Option R := fun _ ds k => match ds with
  | [.v (.one (.ints .u8 32 x)), .v (.one (.ints .u8 32 y))] => bif okB x && okB y then k [.v (.one (.ints .u8 32 (sC (adC (vC x) (ngC (vC y))))))] else none
  | _ => none
def C80 : (R : Type) → List DV → (List DV → Option R) → Option R := fun _ ds k => match ds with
  | [.v (.one (.ints .u8 32 x)), .v (.one (.ints .u8 32 y))] => bif okB x && okB y then k [.v (.one (.ints .u8 32 (sC (mlC (vC x) (vC y)))))] else none
  | _ => none
def C74 : (R : Type) → List DV → (List DV → Option R) → Option R := fun _ ds k => match ds with
  | [.v (.one (.ints .u8 32 x)), .v (.one (.ints .u8 32 y)), .v (.one (.ints .u8 32 z))] => bif okB x && okB y && okB z then k [.v (.one (.ints .u8 32 (sC (adC (mlC (vC x) (vC y)) (vC z)))))] else none
  | _ => none
def C111 : (R : Type) → List DV → (List DV → Option R) → Option R := fun _ ds k => match ds with
  | [.v (.one (.ints .u8 32 x))] => bif okB x then k [.v (.one (.ints .u8 32 (sC (ngC (vC x)))))] else none
  | _ => none
def C154 : (R : Type) → List DV → (List DV → Option R) → Option R := fun _ ds k => match ds with
  | [.v (.one (.ints .u8 32 x))] => bif okB x then k [.v (.one (.bool (Nat.beq (vC x) 0)))] else none
  | _ => none
def C78 : (R : Type) → List DV → (List DV → Option R) → Option R := fun _ ds k => match ds with
  | [.v (.one (.ints .u8 32 x))] => bif okB x then (bif Nat.beq (vC x) 0 then k [.v (.one (.ints .u8 32 (List.replicate 32 0))), .v (.one (.int .i64 9))] else k [.v (.one (.ints .u8 32 (sC (inC (vC x))))), .v (.one (.int .i64 0))]) else none
  | _ => none
def C68 : (R : Type) → List DV → (List DV → Option R) → Option R := fun _ ds k => match ds with
  | [.v (.one (.int .i64 x))] => k [.v (.one (.ints .u8 32 (sC (IntKind.u64.wrap x).toNat)))]
  | _ => none

theorem beq_dec (a : Nat) : Nat.beq a 0 = decide (a = 0) := by cases a <;> rfl
theorem cC30 : Contract Tryz.prog 42 { sig := S42, impl := C42 } := by
  refine Contract.refine fun R ds k r h => ⟨_, c42, ?_⟩
  unfold C42 at h
  unfold I42
  split at h
  · simp only [sN_sC, addN_adC, vS_vC]; exact h
  · cases h
theorem cC32 : Contract Tryz.prog 79 { sig := S79, impl := C79 } := by
  refine Contract.refine fun R ds k r h => ⟨_, c79, ?_⟩
  unfold C79 at h
  unfold I79
  split at h
  · simp only [sN_sC, difN_C, vS_vC]; exact h
  · cases h
theorem cC33 : Contract Tryz.prog 80 { sig := S80, impl := C80 } := by
  refine Contract.refine fun R ds k r h => ⟨_, c80, ?_⟩
  unfold C80 at h
  unfold I80
  split at h
  · simp only [sN_sC, mulN_mlC, vS_vC]; exact h
  · cases h
theorem cC42 : Contract Tryz.prog 74 { sig := S74, impl := C74 } := by
  refine Contract.refine fun R ds k r h => ⟨_, c74, ?_⟩
  unfold C74 at h
  unfold I74
  split at h
  · simp only [sN_sC, mulN_mlC, addN_adC, vS_vC]; exact h
  · cases h
theorem cC71 : Contract Tryz.prog 111 { sig := S111, impl := C111 } := by
  refine Contract.refine fun R ds k r h => ⟨_, c111, ?_⟩
  unfold C111 at h
  unfold I111
  split at h
  · simp only [sN_sC, negN_ngC, vS_vC]; exact h
  · cases h
theorem cC88 : Contract Tryz.prog 154 { sig := S154, impl := C154 } := by
  refine Contract.refine fun R ds k r h => ⟨_, c154, ?_⟩
  unfold C154 at h
  unfold I154
  split at h
  · simp only [vS_vC, ← beq_dec]; exact h
  · cases h
theorem cC31 : Contract Tryz.prog 78 { sig := S78, impl := C78 } := by
  refine Contract.refine fun R ds k r h => ⟨_, c78, ?_⟩
  unfold C78 at h
  unfold I78
  split at h
  · simp only [sN_sC, invN_inC, vS_vC, ← beq_dec]; exact h
  · cases h
theorem cC40 : Contract Tryz.prog 68 { sig := S68, impl := C68 } := by
  refine Contract.refine fun R ds k r h => ⟨_, c68, ?_⟩
  unfold C68 at h
  unfold I68
  split at h
  · simp only [sN_sC, plN]; exact h
  · cases h

def hzC (x : List Int) : Nat → Nat → Bool
  | 0, _ => false
  | j + 1, i => bif Nat.beq (vC (elF x i)) 0 then true else hzC x j (i + 1)
theorem hzC_eq (x : List Int) : ∀ j i, (fz x j i).isSome = hzC x j i
  | 0, _ => rfl
  | j + 1, i => by
    unfold fz hzC
    rw [vS_vC, beq_dec]
    by_cases h : vC (elF x i) = 0
    · rw [if_pos h, decide_eq_true h]; rfl
    · rw [if_neg h, decide_eq_false h]; exact hzC_eq x j (i + 1)
def C130 : (R : Type) → List DV → (List DV → Option R) → Option R := fun _ ds k => match ds with
  | [.lst (.one .u8) 32 x] => bif okF x && !(hzC x (x.length / 32) 0) then k [.lst (.one .u8) 32 (headG (fun i => sC (inC (vC (elF x i)))) (x.length / 32)), .v (.one (.int .i64 0)), .v (.one (.int .i64 0))] else none
  | _ => none
theorem cC77 : Contract Tryz.prog 130 { sig := S130, impl := C130 } := by
  refine Contract.refine fun R ds k r h => ⟨_, c130b, ?_⟩
  unfold C130 at h
  unfold I130b
  split at h
  · rename_i x
    cases hc : okF x && !(hzC x (x.length / 32) 0) with
    | false => rw [hc] at h; cases h
    | true =>
      rw [hc, cond_true] at h
      rw [Bool.and_eq_true, Bool.not_eq_true'] at hc
      have e : hasZ x = false := by unfold hasZ; rw [hzC_eq]; exact hc.2
      have e2 : invS x = headG (fun i => sC (inC (vC (elF x i)))) (x.length / 32) := by
        unfold invS; simp only [sN_sC, invN_inC, vS_vC]
      show (bif okF x then (bif hasZ x then _ else _) else none) = some r
      rw [hc.1, e, e2]; exact h
  · cases h
def dtC (x y : List Int) : Nat → Nat
  | 0 => 0
  | i + 1 => adC (dtC x y i) (mlC (vC (elF x i)) (vC (elF y i)))
theorem dotF_dtC (x y : List Int) : ∀ i, dotF x y i = dtC x y i
  | 0 => rfl
  | i + 1 => by unfold dotF dtC; rw [addN_adC, mulN_mlC, vS_vC, vS_vC, dotF_dtC x y i]
def C153 : (R : Type) → List DV → (List DV → Option R) → Option R := fun _ ds k => match ds with
  | [.lst (.one .u8) 32 x, .lst (.one .u8) 32 y] => bif okF x && okF y then (bif Nat.beq (x.length / 32) (y.length / 32) then k [.v (.one (.ints .u8 32 (sC (dtC x y (x.length / 32))))), .v (.one (.int .i64 0))] else none) else none
  | _ => none
theorem cC76 : Contract Tryz.prog 153 { sig := S153, impl := C153 } := by
  refine Contract.refine fun R ds k r h => ⟨_, c153, ?_⟩
  unfold C153 at h
  unfold I153
  split at h
  · rename_i x y
    cases hc : okF x && okF y with
    | false => rw [hc] at h; cases h
    | true =>
      rw [hc, cond_true] at h
      cases he : Nat.beq (x.length / 32) (y.length / 32) with
      | false => rw [he] at h; cases h
      | true =>
        rw [he, cond_true] at h
        simp only [hc, he, cond_true, dotF_dtC, sN_sC]; exact h
  · cases h
def GC : Ctx := [(153, { sig := S153, impl := C153 }), (130, { sig := S130, impl := C130 }), (42, { sig := S42, impl := C42 }), (78, { sig := S78, impl := C78 }), (79, { sig := S79, impl := C79 }), (80, { sig := S80, impl := C80 }), (68, { sig := S68, impl := C68 }), (74, { sig := S74, impl := C74 }), (111, { sig := S111, impl := C111 }), (154, { sig := S154, impl := C154 })]
theorem GC_ok : CtxOk Tryz.prog GC := ctxOk_cons ok153 rfl cC76 (ctxOk_cons ok130 rfl cC77 (ctxOk_cons ok42 rfl cC30 (ctxOk_cons ok78 rfl cC31 (ctxOk_cons ok79 rfl cC32 (ctxOk_cons ok80 rfl cC33 (ctxOk_cons ok68 rfl cC40 (ctxOk_cons ok74 rfl cC42 (ctxOk_cons ok111 rfl cC71 (ctxOk_cons ok154 rfl cC88 ctxOk_nil)))))))))
end Go.Proofs.YtogcijgklnfjjaaGreat

namespace Go.Proofs.YtogcijgklnfjjaaGreat
open Go Go.Eng
set_option maxRecDepth 100000

noncomputable def AE13 : Env := { Θ := Th, Γ := GC, K := K13, ν := [], fuel := 64, lp := [] }
theorem al13 : Contract Tryz.prog 13 { sig := S13, impl := fun _ ds k => call AE13 S13 4 B13 R13 ds k } :=
  call_contract (E := AE13) thOk GC_ok mixed ok13.look ok13.body ok13.n ok13.rv ok13.name rfl (by decide) (loopsOk_of (l := []) (by kernel_rfl) trivial)
noncomputable def GA13 : Ctx := (13, { sig := S13, impl := fun _ ds k => call AE13 S13 4 B13 R13 ds k }) :: GC
theorem GA12_ok : CtxOk Tryz.prog GA13 := ctxOk_cons ok13 rfl al13 GC_ok

noncomputable def AE67 : Env := { Θ := Th, Γ := GA13, K := K67, ν := [], fuel := 64, lp := [] }
theorem al67 : Contract Tryz.prog 67 { sig := S67, impl := fun _ ds k => call AE67 S67 9 B67 R67 ds k } :=
  call_contract (E := AE67) thOk GA12_ok mixed ok67.look ok67.body ok67.n ok67.rv ok67.name rfl (by decide) (loopsOk_of (l := []) (by kernel_rfl) trivial)
noncomputable def GA67 : Ctx := (67, { sig := S67, impl := fun _ ds k => call AE67 S67 9 B67 R67 ds k }) :: GA13
theorem GA43_ok : CtxOk Tryz.prog GA67 := ctxOk_cons ok67 rfl al67 GA12_ok

noncomputable def AE110 : Env := { Θ := Th, Γ := GA67, K := K110, ν := [], fuel := 64, lp := [] }
theorem al110 : Contract Tryz.prog 110 { sig := S110, impl := fun _ ds k => call AE110 S110 9 B110 R110 ds k } :=
  call_contract (E := AE110) thOk GA43_ok mixed ok110.look ok110.body ok110.n ok110.rv ok110.name rfl (by decide) (loopsOk_of (l := []) (by kernel_rfl) trivial)
noncomputable def GA110 : Ctx := (110, { sig := S110, impl := fun _ ds k => call AE110 S110 9 B110 R110 ds k }) :: GA67
theorem GA70_ok : CtxOk Tryz.prog GA110 := ctxOk_cons ok110 rfl al110 GA43_ok

noncomputable def AE187 : Env := { Θ := Th, Γ := GA110, K := K187, ν := [], fuel := 64, lp := [] }
theorem al187 : Contract Tryz.prog 187 { sig := S187, impl := fun _ ds k => call AE187 S187 6 B187 R187 ds k } :=
  call_contract (E := AE187) thOk GA70_ok mixed ok187.look ok187.body ok187.n ok187.rv ok187.name rfl (by decide) (loopsOk_of (l := []) (by kernel_rfl) trivial)
noncomputable def GA187 : Ctx := (187, { sig := S187, impl := fun _ ds k => call AE187 S187 6 B187 R187 ds k }) :: GA110
theorem GA108_ok : CtxOk Tryz.prog GA187 := ctxOk_cons ok187 rfl al187 GA70_ok

noncomputable def AE166 : Env := { Θ := Th, Γ := GA187, K := K166, ν := [], fuel := 64, lp := [] }
theorem al166 : Contract Tryz.prog 166 { sig := S166, impl := fun _ ds k => call AE166 S166 17 B166 R166 ds k } :=
  call_contract (E := AE166) thOk GA108_ok mixed ok166.look ok166.body ok166.n ok166.rv ok166.name rfl (by decide) (loopsOk_of (l := []) (by kernel_rfl) trivial)
noncomputable def GA166 : Ctx := (166, { sig := S166, impl := fun _ ds k => call AE166 S166 17 B166 R166 ds k }) :: GA187
theorem GA97_ok : CtxOk Tryz.prog GA166 := ctxOk_cons ok166 rfl al166 GA108_ok

noncomputable def AE160 : Env := { Θ := Th, Γ := GA166, K := K160, ν := [(0, ⟨[], []⟩), (2, ⟨[], []⟩)], fuel := 64, lp := [] }
theorem al160 : Contract Tryz.prog 160 { sig := { ps := [], rs := [] }, impl := fun _ ds k => callN AE160 3 49 B160 R160 ds k, kind := .inl 3 } :=
  inl_contract (E := AE160) thOk GA97_ok mixed ok160 (loopsOk_of (l := [(0, B160_0), (2, B160_2)]) (by kernel_rfl) (allOk_skip rfl (allOk_skip rfl trivial)))
noncomputable def GA160 : Ctx := (160, { sig := { ps := [], rs := [] }, impl := fun _ ds k => callN AE160 3 49 B160 R160 ds k, kind := .inl 3 }) :: GA166
theorem GA91_ok : CtxOk Tryz.prog GA160 := ctxOk_cons ok160 rfl al160 GA97_ok

noncomputable def AE170 : Env := { Θ := Th, Γ := GA160, K := K170, ν := [], fuel := 64, lp := [] }
theorem al170 : Contract Tryz.prog 170 { sig := S170, impl := fun _ ds k => call AE170 S170 25 B170 R170 ds k } :=
  call_contract (E := AE170) thOk GA91_ok mixed ok170.look ok170.body ok170.n ok170.rv ok170.name rfl (by decide) (loopsOk_of (l := []) (by kernel_rfl) trivial)
noncomputable def GA170 : Ctx := (170, { sig := S170, impl := fun _ ds k => call AE170 S170 25 B170 R170 ds k }) :: GA160
theorem GA101_ok : CtxOk Tryz.prog GA170 := ctxOk_cons ok170 rfl al170 GA91_ok

noncomputable def AE118 : Env := { Θ := Th, Γ := GA170, K := K118, ν := [], fuel := 64, lp := [] }
theorem al118 : Contract Tryz.prog 118 { sig := S118, impl := fun _ ds k => call AE118 S118 8 B118 R118 ds k } :=
  call_contract (E := AE118) thOk GA101_ok mixed ok118.look ok118.body ok118.n ok118.rv ok118.name rfl (by decide) (loopsOk_of (l := []) (by kernel_rfl) trivial)
noncomputable def GA118 : Ctx := (118, { sig := S118, impl := fun _ ds k => call AE118 S118 8 B118 R118 ds k }) :: GA170
theorem GA75_ok : CtxOk Tryz.prog GA118 := ctxOk_cons ok118 rfl al118 GA101_ok

noncomputable def AE117 : Env := { Θ := Th, Γ := GA118, K := K117, ν := [(0, ⟨[], []⟩)], fuel := 64, lp := [] }
theorem al117 : Contract Tryz.prog 117 { sig := { ps := [], rs := [] }, impl := fun _ ds k => callN AE117 4 134 B117 R117 ds k, kind := .inl 4 } :=
  inl_contract (E := AE117) thOk GA75_ok mixed ok117 (loopsOk_of (l := [(0, B117_0)]) (by kernel_rfl) (allOk_skip rfl trivial))
noncomputable def GA117 : Ctx := (117, { sig := { ps := [], rs := [] }, impl := fun _ ds k => callN AE117 4 134 B117 R117 ds k, kind := .inl 4 }) :: GA118
theorem GA74_ok : CtxOk Tryz.prog GA117 := ctxOk_cons ok117 rfl al117 GA75_ok

noncomputable def AE43 : Env := { Θ := Th, Γ := GA117, K := K43, ν := [], fuel := 64, lp := [] }
theorem al43 : Contract Tryz.prog 43 { sig := { ps := [], rs := [] }, impl := fun _ ds k => callN AE43 1 11 B43 R43 ds k, kind := .inl 1 } :=
  inl_contract (E := AE43) thOk GA74_ok mixed ok43 (loopsOk_of (l := []) (by kernel_rfl) trivial)
noncomputable def GA43 : Ctx := (43, { sig := { ps := [], rs := [] }, impl := fun _ ds k => callN AE43 1 11 B43 R43 ds k, kind := .inl 1 }) :: GA117
theorem GA46_ok : CtxOk Tryz.prog GA43 := ctxOk_cons ok43 rfl al43 GA74_ok

noncomputable def AE70 : Env := { Θ := Th, Γ := GA43, K := K70, ν := [(0, ⟨[], []⟩)], fuel := 64, lp := [] }
theorem al70 : Contract Tryz.prog 70 { sig := S70, impl := fun _ ds k => call AE70 S70 29 B70 R70 ds k } :=
  call_contract (E := AE70) thOk GA46_ok mixed ok70.look ok70.body ok70.n ok70.rv ok70.name rfl (by decide) (loopsOk_of (l := [(0, B70_0)]) (by kernel_rfl) (allOk_skip rfl trivial))
noncomputable def GA70 : Ctx := (70, { sig := S70, impl := fun _ ds k => call AE70 S70 29 B70 R70 ds k }) :: GA43
theorem GA39_ok : CtxOk Tryz.prog GA70 := ctxOk_cons ok70 rfl al70 GA46_ok

noncomputable def AE22 : Env := { Θ := Th, Γ := GA70, K := K22, ν := [(0, ⟨[], []⟩)], fuel := 64, lp := [] }
theorem al22 : Contract Tryz.prog 22 { sig := S22, impl := fun _ ds k => call AE22 S22 22 B22 R22 ds k } :=
  call_contract (E := AE22) thOk GA39_ok mixed ok22.look ok22.body ok22.n ok22.rv ok22.name rfl (by decide) (loopsOk_of (l := [(0, B22_0)]) (by kernel_rfl) (allOk_skip rfl trivial))
noncomputable def GA22 : Ctx := (22, { sig := S22, impl := fun _ ds k => call AE22 S22 22 B22 R22 ds k }) :: GA70
theorem GA19_ok : CtxOk Tryz.prog GA22 := ctxOk_cons ok22 rfl al22 GA39_ok

noncomputable def AE102 : Env := { Θ := Th, Γ := GA22, K := K102, ν := [(0, ⟨[], []⟩)], fuel := 64, lp := [] }
theorem al102 : Contract Tryz.prog 102 { sig := S102, impl := fun _ ds k => call AE102 S102 31 B102 R102 ds k } :=
  call_contract (E := AE102) thOk GA19_ok mixed ok102.look ok102.body ok102.n ok102.rv ok102.name rfl (by decide) (loopsOk_of (l := [(0, B102_0)]) (by kernel_rfl) (allOk_skip rfl trivial))
noncomputable def GA102 : Ctx := (102, { sig := S102, impl := fun _ ds k => call AE102 S102 31 B102 R102 ds k }) :: GA22
theorem GA49_ok : CtxOk Tryz.prog GA102 := ctxOk_cons ok102 rfl al102 GA19_ok

noncomputable def AE19 : Env := { Θ := Th, Γ := GA102, K := K19, ν := [(0, ⟨[], []⟩)], fuel := 64, lp := [] }
theorem al19 : Contract Tryz.prog 19 { sig := S19, impl := fun _ ds k => call AE19 S19 32 B19 R19 ds k } :=
  call_contract (E := AE19) thOk GA49_ok mixed ok19.look ok19.body ok19.n ok19.rv ok19.name rfl (by decide) (loopsOk_of (l := [(0, B19_0)]) (by kernel_rfl) (allOk_skip rfl trivial))
noncomputable def GA19 : Ctx := (19, { sig := S19, impl := fun _ ds k => call AE19 S19 32 B19 R19 ds k }) :: GA102
theorem GA16_ok : CtxOk Tryz.prog GA19 := ctxOk_cons ok19 rfl al19 GA49_ok

noncomputable def AE26 : Env := { Θ := Th, Γ := GA19, K := K26, ν := [(0, ⟨[], []⟩), (2, ⟨[], []⟩), (4, ⟨[], []⟩), (6, ⟨[], []⟩), (8, ⟨[], []⟩), (10, ⟨[], []⟩)], fuel := 64, lp := [] }
theorem al26 : Contract Tryz.prog 26 { sig := S26, impl := fun _ ds k => call AE26 S26 161 B26 R26 ds k } :=
  call_contract (E := AE26) thOk GA16_ok mixed ok26.look ok26.body ok26.n ok26.rv ok26.name rfl (by decide) (loopsOk_of (l := [(0, B26_0), (2, B26_2), (4, B26_4), (6, B26_6), (8, B26_8), (10, B26_10)]) (by kernel_rfl) (allOk_skip rfl (allOk_skip rfl (allOk_skip rfl (allOk_skip rfl (allOk_skip rfl (allOk_skip rfl trivial)))))))
noncomputable def GA26 : Ctx := (26, { sig := S26, impl := fun _ ds k => call AE26 S26 161 B26 R26 ds k }) :: GA19
theorem GA9_ok : CtxOk Tryz.prog GA26 := ctxOk_cons ok26 rfl al26 GA16_ok

noncomputable def AE105 : Env := { Θ := Th, Γ := GA26, K := K105, ν := [(0, ⟨[], []⟩)], fuel := 64, lp := [] }
theorem al105 : Contract Tryz.prog 105 { sig := S105, impl := fun _ ds k => call AE105 S105 38 B105 R105 ds k } :=
  call_contract (E := AE105) thOk GA9_ok mixed ok105.look ok105.body ok105.n ok105.rv ok105.name rfl (by decide) (loopsOk_of (l := [(0, B105_0)]) (by kernel_rfl) (allOk_skip rfl trivial))
noncomputable def GA105 : Ctx := (105, { sig := S105, impl := fun _ ds k => call AE105 S105 38 B105 R105 ds k }) :: GA26
theorem GA47_ok : CtxOk Tryz.prog GA105 := ctxOk_cons ok105 rfl al105 GA9_ok

noncomputable def AE76 : Env := { Θ := Th, Γ := GA105, K := K76, ν := [(0, ⟨[], []⟩), (2, ⟨[], []⟩), (4, ⟨[], []⟩)], fuel := 64, lp := [] }
theorem al76 : Contract Tryz.prog 76 { sig := S76, impl := fun _ ds k => call AE76 S76 95 B76 R76 ds k } :=
  call_contract (E := AE76) thOk GA47_ok mixed ok76.look ok76.body ok76.n ok76.rv ok76.name rfl (by decide) (loopsOk_of (l := [(0, B76_0), (2, B76_2), (4, B76_4)]) (by kernel_rfl) (allOk_skip rfl (allOk_skip rfl (allOk_skip rfl trivial))))
noncomputable def GA76 : Ctx := (76, { sig := S76, impl := fun _ ds k => call AE76 S76 95 B76 R76 ds k }) :: GA105
theorem GA50_ok : CtxOk Tryz.prog GA76 := ctxOk_cons ok76 rfl al76 GA47_ok

noncomputable def AE103 : Env := { Θ := Th, Γ := GA76, K := K103, ν := [(0, ⟨[], []⟩)], fuel := 64, lp := [] }
theorem al103 : Contract Tryz.prog 103 { sig := S103, impl := fun _ ds k => call AE103 S103 37 B103 R103 ds k } :=
  call_contract (E := AE103) thOk GA50_ok mixed ok103.look ok103.body ok103.n ok103.rv ok103.name rfl (by decide) (loopsOk_of (l := [(0, B103_0)]) (by kernel_rfl) (allOk_skip rfl trivial))
noncomputable def GA103 : Ctx := (103, { sig := S103, impl := fun _ ds k => call AE103 S103 37 B103 R103 ds k }) :: GA76
theorem GA48_ok : CtxOk Tryz.prog GA103 := ctxOk_cons ok103 rfl al103 GA50_ok

noncomputable def AE40 : Env := { Θ := Th, Γ := GA103, K := K40, ν := [], fuel := 64, lp := [] }
theorem al40 : Contract Tryz.prog 40 { sig := S40, impl := fun _ ds k => call AE40 S40 28 B40 R40 ds k } :=
  call_contract (E := AE40) thOk GA48_ok mixed ok40.look ok40.body ok40.n ok40.rv ok40.name rfl (by decide) (loopsOk_of (l := []) (by kernel_rfl) trivial)
noncomputable def GA40 : Ctx := (40, { sig := S40, impl := fun _ ds k => call AE40 S40 28 B40 R40 ds k }) :: GA103
theorem GA44_ok : CtxOk Tryz.prog GA40 := ctxOk_cons ok40 rfl al40 GA48_ok

noncomputable def AE33 : Env := { Θ := Th, Γ := GA40, K := K33, ν := [], fuel := 64, lp := [] }
theorem al33 : Contract Tryz.prog 33 { sig := S33, impl := fun _ ds k => call AE33 S33 29 B33 R33 ds k } :=
  call_contract (E := AE33) thOk GA44_ok mixed ok33.look ok33.body ok33.n ok33.rv ok33.name rfl (by decide) (loopsOk_of (l := []) (by kernel_rfl) trivial)
noncomputable def GA33 : Ctx := (33, { sig := S33, impl := fun _ ds k => call AE33 S33 29 B33 R33 ds k }) :: GA40
theorem GA24_ok : CtxOk Tryz.prog GA33 := ctxOk_cons ok33 rfl al33 GA44_ok

noncomputable def AE155 : Env := { Θ := Th, Γ := GA33, K := K155, ν := [(0, ⟨[], []⟩), (2, ⟨[], []⟩), (4, ⟨[], []⟩)], fuel := 64, lp := [] }
theorem al155 : Contract Tryz.prog 155 { sig := { ps := [], rs := [] }, impl := fun _ ds k => callN AE155 3 95 B155 R155 ds k, kind := .inl 3 } :=
  inl_contract (E := AE155) thOk GA24_ok mixed ok155 (loopsOk_of (l := [(0, B155_0), (2, B155_2), (4, B155_4)]) (by kernel_rfl) (allOk_skip rfl (allOk_skip rfl (allOk_skip rfl trivial))))
noncomputable def GA155 : Ctx := (155, { sig := { ps := [], rs := [] }, impl := fun _ ds k => callN AE155 3 95 B155 R155 ds k, kind := .inl 3 }) :: GA33
theorem GA89_ok : CtxOk Tryz.prog GA155 := ctxOk_cons ok155 rfl al155 GA24_ok

noncomputable def AE112 : Env := { Θ := Th, Γ := GA155, K := K112, ν := [(0, ⟨[], []⟩), (2, ⟨[], []⟩), (4, ⟨[], []⟩), (6, ⟨[], []⟩)], fuel := 64, lp := [] }
theorem al112 : Contract Tryz.prog 112 { sig := { ps := [], rs := [] }, impl := fun _ ds k => callN AE112 2 100 B112 R112 ds k, kind := .inl 2 } :=
  inl_contract (E := AE112) thOk GA89_ok mixed ok112 (loopsOk_of (l := [(0, B112_0), (2, B112_2), (4, B112_4), (6, B112_6)]) (by kernel_rfl) (allOk_skip rfl (allOk_skip rfl (allOk_skip rfl (allOk_skip rfl trivial)))))
noncomputable def GA112 : Ctx := (112, { sig := { ps := [], rs := [] }, impl := fun _ ds k => callN AE112 2 100 B112 R112 ds k, kind := .inl 2 }) :: GA155
theorem GA72_ok : CtxOk Tryz.prog GA112 := ctxOk_cons ok112 rfl al112 GA89_ok

noncomputable def AE156 : Env := { Θ := Th, Γ := GA112, K := K156, ν := [], fuel := 64, lp := [] }
theorem al156 : Contract Tryz.prog 156 { sig := S156, impl := fun _ ds k => call AE156 S156 8 B156 R156 ds k } :=
  call_contract (E := AE156) thOk GA72_ok mixed ok156.look ok156.body ok156.n ok156.rv ok156.name rfl (by decide) (loopsOk_of (l := []) (by kernel_rfl) trivial)
noncomputable def GA156 : Ctx := (156, { sig := S156, impl := fun _ ds k => call AE156 S156 8 B156 R156 ds k }) :: GA112
theorem GA90_ok : CtxOk Tryz.prog GA156 := ctxOk_cons ok156 rfl al156 GA72_ok

noncomputable def AE113 : Env := { Θ := Th, Γ := GA156, K := K113, ν := [(0, ⟨[], []⟩), (2, ⟨[], []⟩), (4, ⟨[], []⟩)], fuel := 64, lp := [] }
theorem al113 : Contract Tryz.prog 113 { sig := S113, impl := fun _ ds k => call AE113 S113 84 B113 R113 ds k } :=
  call_contract (E := AE113) thOk GA90_ok mixed ok113.look ok113.body ok113.n ok113.rv ok113.name rfl (by decide) (loopsOk_of (l := [(0, B113_0), (2, B113_2), (4, B113_4)]) (by kernel_rfl) (allOk_skip rfl (allOk_skip rfl (allOk_skip rfl trivial))))
noncomputable def GA113 : Ctx := (113, { sig := S113, impl := fun _ ds k => call AE113 S113 84 B113 R113 ds k }) :: GA156
theorem GA73_ok : CtxOk Tryz.prog GA113 := ctxOk_cons ok113 rfl al113 GA90_ok

noncomputable def AE41 : Env := { Θ := Th, Γ := GA113, K := K41, ν := [(0, ⟨[], []⟩), (2, ⟨[], []⟩)], fuel := 64, lp := [] }
theorem al41 : Contract Tryz.prog 41 { sig := S41, impl := fun _ ds k => call AE41 S41 106 B41 R41 ds k } :=
  call_contract (E := AE41) thOk GA73_ok mixed ok41.look ok41.body ok41.n ok41.rv ok41.name rfl (by decide) (loopsOk_of (l := [(0, B41_0), (2, B41_2)]) (by kernel_rfl) (allOk_skip rfl (allOk_skip rfl trivial)))
noncomputable def GA41 : Ctx := (41, { sig := S41, impl := fun _ ds k => call AE41 S41 106 B41 R41 ds k }) :: GA113
theorem GA45_ok : CtxOk Tryz.prog GA41 := ctxOk_cons ok41 rfl al41 GA73_ok

noncomputable def AE8 : Env := { Θ := Th, Γ := GA41, K := K8, ν := [(0, ⟨[], []⟩)], fuel := 64, lp := [] }
theorem al8 : Contract Tryz.prog 8 { sig := S8, impl := fun _ ds k => call AE8 S8 72 B8 R8 ds k } :=
  call_contract (E := AE8) thOk GA45_ok mixed ok8.look ok8.body ok8.n ok8.rv ok8.name rfl (by decide) (loopsOk_of (l := [(0, B8_0)]) (by kernel_rfl) (allOk_skip rfl trivial))
noncomputable def GA8 : Ctx := (8, { sig := S8, impl := fun _ ds k => call AE8 S8 72 B8 R8 ds k }) :: GA41
theorem GA22_ok : CtxOk Tryz.prog GA8 := ctxOk_cons ok8 rfl al8 GA45_ok

noncomputable def AE15 : Env := { Θ := Th, Γ := GA8, K := K15, ν := [], fuel := 64, lp := [] }
theorem al15 : Contract Tryz.prog 15 { sig := S15, impl := fun _ ds k => call AE15 S15 88 B15 R15 ds k } :=
  call_contract (E := AE15) thOk GA22_ok mixed ok15.look ok15.body ok15.n ok15.rv ok15.name rfl (by decide) (loopsOk_of (l := []) (by kernel_rfl) trivial)
end Go.Proofs.YtogcijgklnfjjaaGreat

namespace Go.Proofs.YtogcijgklnfjjaaGreat
open Go Go.Eng
set_option maxRecDepth 1000000

theorem alive_eq {R : Type} (k : List DV → Option R) : call AE15 S15 88 B15 R15 [] k = k [.v (.one (.bool true))] := by kernel_rfl
def I15 : (R : Type) → List DV → (List DV → Option R) → Option R := fun _ ds k => match ds with
  | [] => k [.v (.one (.bool true))]
  | _ => none
theorem c15 : Contract Tryz.prog 15 { sig := S15, impl := I15 } := by
  refine Contract.refine fun R ds k r h => ⟨_, al15, ?_⟩
  unfold I15 at h
  split at h
  · rw [alive_eq]; exact h
  · cases h
end Go.Proofs.YtogcijgklnfjjaaGreat

namespace Go.Proofs.YtogcijgklnfjjaaGreat
open Go Go.Eng
set_option maxRecDepth 100000
set_option linter.unusedVariables false

noncomputable def I17 : (R : Type) → List DV → (List DV → Option R) → Option R := fun _ ds k => match ds with
  | [.lst (.one .u8) 32 xs, .v (.one (.int .i64 x))] => bif okF xs then (bif decide (x ≥ 1) && decide (x ≤ 255) then k [.v (.one (.ints .u8 32 (sN (evN xs (plN x))))), .v (.one (.int .i64 0))] else k [.v (.one (.ints .u8 32 zS)), .v (.one (.int .i64 4))]) else none
  | _ => none
theorem c17 : Contract Tryz.prog 17 { sig := S17, impl := I17 } := by
  refine Contract.refine fun R ds k r h => ?_
  unfold I17 at h
  split at h
  · rename_i xs x
    refine ⟨_, f17_contract 0 GT1_ok, ?_⟩
    cases hc : okF xs with
    | false => rw [hc] at h; cases h
    | true =>
      rw [hc, cond_true] at h
      rw [f17_raw_eq]
      unfold f17_raw
      rw [hc, okB_sN, vS_sN (plN_lt _), zS_eq]
      cases hq : decide (x ≥ 1) && decide (x ≤ 255) with
      | true => rw [hq] at h; exact h
      | false => rw [hq] at h; exact h
  · exact (Option.some_ne_none _ h.symm).elim

end Go.Proofs.YtogcijgklnfjjaaGreat

namespace Go.Proofs.YtogcijgklnfjjaaGreat
open Go Go.Eng
set_option maxRecDepth 100000
set_option linter.unusedVariables false

end Go.Proofs.YtogcijgklnfjjaaGreat

namespace Go.Proofs.YtogcijgklnfjjaaGreat
open Go Go.Eng
set_option maxRecDepth 100000
set_option linter.unusedVariables false

end Go.Proofs.YtogcijgklnfjjaaGreat

namespace Go.Proofs.YtogcijgklnfjjaaGreat
open Go Go.Eng
set_option maxRecDepth 100000
set_option linter.unusedVariables false

end Go.Proofs.YtogcijgklnfjjaaGreat

namespace Go.Proofs.YtogcijgklnfjjaaGreat
open Go Go.Eng
end Go.Proofs.YtogcijgklnfjjaaGreat

namespace Go.Proofs.YtogcijgklnfjjaaGreat
open Go Go.Eng
set_option maxRecDepth 100000
set_option linter.unusedVariables false

def f23_0_sh : Shp := { n := 22, lo := 2, slots := [(0, .one (.fix (At.own 0))), (3, .one (.fix (At.ptr 3 0 Off.z 32))), (4, .one (.fix (At.ptr 4 0 Off.z 32))), (5, .one (.fix (At.ptr 5 0 Off.z 32))), (6, .one (.int IntKind.i64))], items := [(0, .view (RK.one IntKind.u8) 32), (3, .obj [.ints IntKind.u8 32]), (4, .obj [.ints IntKind.u8 32]), (5, .obj [.ints IntKind.u8 32])] }
def f23_0_ex1 : Shp := { n := 22, lo := 2, slots := [(11, .one (.bool)), (0, .one (.fix (At.own 0))), (3, .one (.fix (At.ptr 3 0 Off.z 32))), (4, .one (.fix (At.ptr 4 0 Off.z 32))), (5, .one (.fix (At.ptr 5 0 Off.z 32))), (6, .one (.int IntKind.i64))], items := [(0, .view (RK.one IntKind.u8) 32), (3, .obj [.ints IntKind.u8 32]), (4, .obj [.ints IntKind.u8 32]), (5, .obj [.ints IntKind.u8 32])] }
noncomputable def f23_0_st {R : Type} (N : Nat) (self : Int → List Int → List Int → List Int → List Int → Option R) (k1 : Bool → Int → List Int → List Int → List Int → List Int → Option R) (x1 : Int) (x2 : List Int) (x3 : List Int) (x4 : List Int) (x5 : List Int) : Option R :=
 bif Decidable.decide (x1 ≥ 0) then
 bif Decidable.decide (0 ≤ x1) && Decidable.decide (x1 < nI (rowLen 32 x2)) then
 bif okB x5 && okB x3 && okB (List.take 32 (List.drop (mulE x1.toNat 32) x2)) then
 let v0 : Int := IntKind.i64.wrap (x1 - 1);
 self v0 x2 x3 x4 (sN (addN (mulN (vS x5) (vS x3)) (vS (List.take 32 (List.drop (mulE x1.toNat 32) x2)))))
 else Option.none
 else Option.none
else k1 (Decidable.decide (x1 ≥ 0)) x1 x2 x3 x4 x5
noncomputable def f23_0_lp {R : Type} (N : Nat) (k1 : Bool → Int → List Int → List Int → List Int → List Int → Option R) : Nat → Int → List Int → List Int → List Int → List Int → Option R
 | 0, _, _, _, _, _ => none
 | n + 1, x1, x2, x3, x4, x5 => f23_0_st N (f23_0_lp N k1 n) k1 x1 x2 x3 x4 x5
noncomputable def f23_0_F (N : Nat) : (R : Type) → List Leaf → (X → AS → Option R) → Option R := fun _ ls K => match ls with
 | [.i x1, .l x2, .l x3, .l x4, .l x5] => f23_0_lp N (fun y1 y2 y3 y4 y5 y6 => K (X.normal) (fill f23_0_ex1 [.b y1, .i y2, .l y3, .l y4, .l y5, .l y6])) N x1 x2 x3 x4 x5
 | _ => none
noncomputable def f23_raw {R : Type} (N : Nat) (xs : List Int) (x : List Int) (k : List DV → Option R) : Option R :=
 let v0 : Int := IntKind.i64.wrap (nI (rowLen 32 xs) - 1);
f23_0_lp N (fun w1_1 w1_2 w1_3 w1_4 w1_5 w1_6 => k [DV.v (SV.one (At.ints IntKind.u8 32 w1_6))]) N v0 xs x (List.replicate 32 0) (List.replicate 32 0)


noncomputable def E23 (N : Nat) : Env := { Θ := Th, Γ := GRX, K := K23, ν := N23, fuel := 0, lp := [(0, mkL N23_0 f23_0_sh (f23_0_F N))] }

theorem f23_0_st_eq {R : Type} (N : Nat) (K : X → AS → Option R) (n : Nat) (x1 : Int) (x2 : List Int) (x3 : List Int) (x4 : List Int) (x5 : List Int) : roundsOf (E23 N) N23_0 0 B23_0 K (n + 1) (fill f23_0_sh [.i x1, .l x2, .l x3, .l x4, .l x5]) = f23_0_st N (fun x1 x2 x3 x4 x5 => roundsOf (E23 N) N23_0 0 B23_0 K n (fill f23_0_sh [.i x1, .l x2, .l x3, .l x4, .l x5])) (fun y1 y2 y3 y4 y5 y6 => K (X.normal) (fill f23_0_ex1 [.b y1, .i y2, .l y3, .l y4, .l y5, .l y6])) x1 x2 x3 x4 x5 := by kernel_rfl
theorem f23_0_lp_eq {R : Type} (N : Nat) (K : X → AS → Option R) : ∀ (n : Nat) (x1 : Int) (x2 : List Int) (x3 : List Int) (x4 : List Int) (x5 : List Int), roundsOf (E23 N) N23_0 0 B23_0 K n (fill f23_0_sh [.i x1, .l x2, .l x3, .l x4, .l x5]) = f23_0_lp N (fun y1 y2 y3 y4 y5 y6 => K (X.normal) (fill f23_0_ex1 [.b y1, .i y2, .l y3, .l y4, .l y5, .l y6])) n x1 x2 x3 x4 x5
  | 0, _, _, _, _, _ => rfl
  | n + 1, x1, x2, x3, x4, x5 => by
    rw [f23_0_st_eq, f23_0_lp, show (fun x1 x2 x3 x4 x5 => roundsOf (E23 N) N23_0 0 B23_0 K n (fill f23_0_sh [.i x1, .l x2, .l x3, .l x4, .l x5])) = f23_0_lp N (fun y1 y2 y3 y4 y5 y6 => K (X.normal) (fill f23_0_ex1 [.b y1, .i y2, .l y3, .l y4, .l y5, .l y6])) n from by funext x1 x2 x3 x4 x5; exact f23_0_lp_eq N K n x1 x2 x3 x4 x5]
theorem f23_0_ok (N : Nat) (hlp : LoopsOk Tryz.prog (E23 N).lp B23_0) (hΓ : CtxOk Tryz.prog (E23 N).Γ) : LoopOk Tryz.prog (mkL N23_0 f23_0_sh (f23_0_F N)) 0 B23_0 := by
  refine loopOk_of (E := E23 N) thOk hΓ mixed hlp ?_
  intro R ls K r h
  unfold f23_0_F at h
  split at h
  · exact ⟨N, by rw [f23_0_lp_eq]; exact h⟩
  · cases h

theorem lok23_0 (N : Nat) (hΓ : CtxOk Tryz.prog GRX) : LoopOk Tryz.prog (mkL N23_0 f23_0_sh (f23_0_F N)) 0 B23_0 := f23_0_ok N (loopsOk_of (l := []) (by kernel_rfl) trivial) hΓ
theorem f23_contract (N : Nat) (hΓ : CtxOk Tryz.prog GRX) : Contract Tryz.prog 23 { sig := S23, impl := fun _ ds k => call (E23 N) S23 22 B23 R23 ds k } :=
  call_contract (E := E23 N) thOk hΓ mixed ok23.look ok23.body ok23.n ok23.rv ok23.name rfl (by decide) (loopsOk_of (l := [(0, B23_0)]) (by kernel_rfl) (allOk_cons (L := mkL N23_0 f23_0_sh (f23_0_F N)) rfl (lok23_0 N hΓ) trivial))
theorem f23_raw_eq {R : Type} (N : Nat) (xs : List Int) (x : List Int) (k : List DV → Option R) : call (E23 N) S23 22 B23 R23 [.lst (.one .u8) 32 xs, .v (.one (.ints .u8 32 x))] k = f23_raw N xs x k := by kernel_rfl
end Go.Proofs.YtogcijgklnfjjaaGreat

namespace Go.Proofs.YtogcijgklnfjjaaGreat
open Go Go.Eng
set_option maxRecDepth 100000
set_option linter.unusedVariables false

theorem f23_loop {R : Type} (N : Nat) (k1 : Bool → Int → List Int → List Int → List Int → List Int → Option R) {xs x : List Int} (hx : okF xs = true) (ho : okB x = true) (z : List Int) :
    ∀ i : Nat, i ≤ xs.length / 32 → ∀ fuel r, i < fuel → r < ell → f23_0_lp N k1 fuel ((i : Int) - 1) xs x z (sN r) = k1 false (-1) xs x z (sN (horN xs (vS x) i r)) := by
  have hb := okF_n hx
  intro i
  induction i with
  | zero =>
    intro _ fuel r hf hr
    obtain ⟨f, rfl⟩ : ∃ f, fuel = f + 1 := ⟨fuel - 1, by omega⟩
    show f23_0_st N (f23_0_lp N k1 f) k1 (-1) _ _ _ _ = _
    unfold f23_0_st
    rw [decide_eq_false (show ¬ ((-1 : Int) ≥ 0) by decide), cond_false]
    rfl
  | succ i ih =>
    intro hi fuel r hf hr
    obtain ⟨f, rfl⟩ : ∃ f, fuel = f + 1 := ⟨fuel - 1, by omega⟩
    rw [show ((i + 1 : Nat) : Int) - 1 = (i : Int) by omega]
    show f23_0_st N (f23_0_lp N k1 f) k1 _ _ _ _ _ = _
    unfold f23_0_st
    have o1 := okF_el hx (i := i) (by omega)
    rw [rows32 hx]
    dsimp only
    rw [show mulE (Int.toNat (i : Int)) 32 = i * 32 from rfl, show List.take 32 (List.drop (i * 32) xs) = elF xs i from rfl, o1, ho, okB_sN, vS_sN hr, decide_eq_true (show (i : Int) ≥ 0 by omega), decide_eq_true (show (i : Int) < ((xs.length / 32 : Nat) : Int) by omega), wrapI (a := (i : Int) - 1) (by omega) (by omega)]
    simp only [Bool.and_self, cond_true]
    rw [ih (by omega) f _ (by omega) (addN_lt _ _)]
    rfl
theorem c23 : Contract Tryz.prog 23 { sig := S23, impl := I22 } := by
  refine Contract.refine fun R ds k r h => ?_
  unfold I22 at h
  split at h
  · rename_i xs x
    refine ⟨_, f23_contract (xs.length / 32 + 1) GRX_ok, ?_⟩
    rcases hc : okF xs && okB x with _ | _
    · rw [hc] at h; cases h
    · rw [hc, cond_true] at h
      rw [Bool.and_eq_true] at hc
      have hb := okF_n hc.1
      rw [f23_raw_eq]
      unfold f23_raw
      dsimp only
      rw [rows32 hc.1, wrapI (a := ((xs.length / 32 : Nat) : Int) - 1) (by omega) (by omega)]
      have := f23_loop (xs.length / 32 + 1) (fun w1_1 w1_2 w1_3 w1_4 w1_5 w1_6 => k [DV.v (SV.one (At.ints IntKind.u8 32 w1_6))]) hc.1 hc.2 (List.replicate 32 0) (xs.length / 32) (Nat.le_refl _) (xs.length / 32 + 1) 0 (by omega) ell_pos
      rw [← b_zero'] at this
      exact this.trans h
  · exact (Option.some_ne_none _ h.symm).elim


noncomputable def GQ0 : Ctx := (23, { sig := S23, impl := I22 }) :: (69, { sig := S69, impl := I68 }) :: (73, { sig := S73, impl := I73 }) :: []
theorem GQ0_ok : CtxOk Tryz.prog GQ0 := ctxOk_cons ok23 rfl c23 (ctxOk_cons ok69 rfl c69 (ctxOk_cons ok73 rfl c73 ctxOk_nil))
end Go.Proofs.YtogcijgklnfjjaaGreat

namespace Go.Proofs.YtogcijgklnfjjaaGreat
open Go Go.Eng
set_option maxRecDepth 100000
set_option linter.unusedVariables false

noncomputable def f18_raw {R : Type} (N : Nat) (xs : List Int) (x : Int) (k : List DV → Option R) : Option R :=
 bif Decidable.decide (x < 1) then k [DV.v (SV.one (At.ints IntKind.u8 32 (List.replicate 32 0))), DV.v (SV.one (At.int IntKind.i64 4))]
else
 let v0 : Bool := bif Bool.false then Bool.true else Decidable.decide (x > 255);
 bif v0 then k [DV.v (SV.one (At.ints IntKind.u8 32 (List.replicate 32 0))), DV.v (SV.one (At.int IntKind.i64 4))] else bif okF xs && okB (sN (plN x)) then k [DV.v (SV.one (At.ints IntKind.u8 32 (sN (evN xs (vS (sN (plN x))))))), DV.v (SV.one (At.int IntKind.i64 0))] else Option.none


noncomputable def E18 (N : Nat) : Env := { Θ := Th, Γ := GQ0, K := K18, ν := N18, fuel := 0, lp := [] }


theorem f18_contract (N : Nat) (hΓ : CtxOk Tryz.prog GQ0) : Contract Tryz.prog 18 { sig := S18, impl := fun _ ds k => call (E18 N) S18 17 B18 R18 ds k } :=
  call_contract (E := E18 N) thOk hΓ mixed ok18.look ok18.body ok18.n ok18.rv ok18.name rfl (by decide) (loopsOk_of (l := []) (by kernel_rfl) trivial)
theorem f18_raw_eq {R : Type} (N : Nat) (xs : List Int) (x : Int) (k : List DV → Option R) : call (E18 N) S18 17 B18 R18 [.lst (.one .u8) 32 xs, .v (.one (.int .i64 x))] k = f18_raw N xs x k := by kernel_rfl
end Go.Proofs.YtogcijgklnfjjaaGreat

namespace Go.Proofs.YtogcijgklnfjjaaGreat
open Go Go.Eng
set_option maxRecDepth 100000
set_option linter.unusedVariables false

def f21_0_sh : Shp := { n := 36, lo := 2, slots := [(0, .one (.fix (At.own 0))), (1, .one (.fix (At.own 1))), (7, .one (.fix (At.own 1000007))), (8, .one (.int IntKind.i64))], items := [(1000007, .row (RK.mix ck78) 33), (0, .view (RK.one IntKind.u8) 32), (1, .view (RK.one IntKind.i64) 1)] }
def f21_0_ex1 : Shp := { n := 36, lo := 2, slots := [(17, .one (.bool)), (0, .one (.fix (At.own 0))), (1, .one (.fix (At.own 1))), (7, .one (.fix (At.own 1000007))), (8, .one (.int IntKind.i64))], items := [(1000007, .row (RK.mix ck78) 33), (0, .view (RK.one IntKind.u8) 32), (1, .view (RK.one IntKind.i64) 1)] }
noncomputable def f21_0_st {R : Type} (N : Nat) (self : Int → List Int → List Int → List Int → Option R) (k1 : Bool → Int → List Int → List Int → List Int → Option R) (x1 : Int) (x2 : List Int) (x3 : List Int) (x4 : List Int) : Option R :=
 bif Decidable.decide (x1 < nI (rowLen 1 x4)) then
 bif Decidable.decide (0 ≤ x1) && Decidable.decide (x1 < nI (rowLen 1 x4)) then
 bif Decidable.decide (0 ≤ x1) && Decidable.decide (x1 < nI (rowLen 1 x4)) then
 bif okF x3 && okB (sN (plN (x4.getD (mulE x1.toNat 1) 0))) then
 let v0 : List Int := sN (evN x3 (vS (sN (plN (x4.getD (mulE x1.toNat 1) 0))))) ++ [];
 let v1 : List Int := x4.getD (mulE x1.toNat 1) 0 :: v0 ++ [];
 bif ((2 * (rowLen 33 x2 + rowLen 33 v1) + 192) * 40).ble big48 && (rowLen 33 x2 + rowLen 33 v1).ble big48 then
 let v2 : Int := IntKind.i64.wrap (x1 + 1);
 let v3 : List Int := x2 ++ v1;
 self v2 v3 x3 x4
 else Option.none
 else Option.none
 else Option.none
 else Option.none
else k1 (Decidable.decide (x1 < nI (rowLen 1 x4))) x1 x2 x3 x4
noncomputable def f21_0_lp {R : Type} (N : Nat) (k1 : Bool → Int → List Int → List Int → List Int → Option R) : Nat → Int → List Int → List Int → List Int → Option R
 | 0, _, _, _, _ => none
 | n + 1, x1, x2, x3, x4 => f21_0_st N (f21_0_lp N k1 n) k1 x1 x2 x3 x4
noncomputable def f21_0_F (N : Nat) : (R : Type) → List Leaf → (X → AS → Option R) → Option R := fun _ ls K => match ls with
 | [.i x1, .l x2, .l x3, .l x4] => f21_0_lp N (fun y1 y2 y3 y4 y5 => K (X.normal) (fill f21_0_ex1 [.b y1, .i y2, .l y3, .l y4, .l y5])) N x1 x2 x3 x4
 | _ => none
noncomputable def f21_raw {R : Type} (N : Nat) (xs : List Int) (ids : List Int) (k : List DV → Option R) : Option R :=
 bif ids.length.ble 1073741824 then bif idsN ids != 0 then k [DV.lst (RK.mix ck78) 33 [], DV.v (SV.one (At.int IntKind.i64 (idsN ids)))] else f21_0_lp N (fun w0_1 w0_2 w0_3 w0_4 w0_5 => k [DV.lst (RK.mix ck78) 33 w0_3, DV.v (SV.one (At.int IntKind.i64 0))]) N 0 [] xs ids else Option.none


noncomputable def E21 (N : Nat) : Env := { Θ := Th, Γ := GQ0, K := K21, ν := N21, fuel := 0, lp := [(0, mkL N21_0 f21_0_sh (f21_0_F N))] }

theorem f21_0_st_eq {R : Type} (N : Nat) (K : X → AS → Option R) (n : Nat) (x1 : Int) (x2 : List Int) (x3 : List Int) (x4 : List Int) : roundsOf (E21 N) N21_0 0 B21_0 K (n + 1) (fill f21_0_sh [.i x1, .l x2, .l x3, .l x4]) = f21_0_st N (fun x1 x2 x3 x4 => roundsOf (E21 N) N21_0 0 B21_0 K n (fill f21_0_sh [.i x1, .l x2, .l x3, .l x4])) (fun y1 y2 y3 y4 y5 => K (X.normal) (fill f21_0_ex1 [.b y1, .i y2, .l y3, .l y4, .l y5])) x1 x2 x3 x4 := by kernel_rfl
theorem f21_0_lp_eq {R : Type} (N : Nat) (K : X → AS → Option R) : ∀ (n : Nat) (x1 : Int) (x2 : List Int) (x3 : List Int) (x4 : List Int), roundsOf (E21 N) N21_0 0 B21_0 K n (fill f21_0_sh [.i x1, .l x2, .l x3, .l x4]) = f21_0_lp N (fun y1 y2 y3 y4 y5 => K (X.normal) (fill f21_0_ex1 [.b y1, .i y2, .l y3, .l y4, .l y5])) n x1 x2 x3 x4
  | 0, _, _, _, _ => rfl
  | n + 1, x1, x2, x3, x4 => by
    rw [f21_0_st_eq, f21_0_lp, show (fun x1 x2 x3 x4 => roundsOf (E21 N) N21_0 0 B21_0 K n (fill f21_0_sh [.i x1, .l x2, .l x3, .l x4])) = f21_0_lp N (fun y1 y2 y3 y4 y5 => K (X.normal) (fill f21_0_ex1 [.b y1, .i y2, .l y3, .l y4, .l y5])) n from by funext x1 x2 x3 x4; exact f21_0_lp_eq N K n x1 x2 x3 x4]
theorem f21_0_ok (N : Nat) (hlp : LoopsOk Tryz.prog (E21 N).lp B21_0) (hΓ : CtxOk Tryz.prog (E21 N).Γ) : LoopOk Tryz.prog (mkL N21_0 f21_0_sh (f21_0_F N)) 0 B21_0 := by
  refine loopOk_of (E := E21 N) thOk hΓ mixed hlp ?_
  intro R ls K r h
  unfold f21_0_F at h
  split at h
  · exact ⟨N, by rw [f21_0_lp_eq]; exact h⟩
  · cases h

theorem lok21_0 (N : Nat) (hΓ : CtxOk Tryz.prog GQ0) : LoopOk Tryz.prog (mkL N21_0 f21_0_sh (f21_0_F N)) 0 B21_0 := f21_0_ok N (loopsOk_of (l := []) (by kernel_rfl) trivial) hΓ
theorem f21_contract (N : Nat) (hΓ : CtxOk Tryz.prog GQ0) : Contract Tryz.prog 21 { sig := S21, impl := fun _ ds k => call (E21 N) S21 36 B21 R21 ds k } :=
  call_contract (E := E21 N) thOk hΓ mixed ok21.look ok21.body ok21.n ok21.rv ok21.name rfl (by decide) (loopsOk_of (l := [(0, B21_0)]) (by kernel_rfl) (allOk_cons (L := mkL N21_0 f21_0_sh (f21_0_F N)) rfl (lok21_0 N hΓ) trivial))
theorem f21_raw_eq {R : Type} (N : Nat) (xs : List Int) (ids : List Int) (k : List DV → Option R) : call (E21 N) S21 36 B21 R21 [.lst (.one .u8) 32 xs, .lst (.one .i64) 1 ids] k = f21_raw N xs ids k := by kernel_rfl
end Go.Proofs.YtogcijgklnfjjaaGreat

namespace Go.Proofs.YtogcijgklnfjjaaGreat
open Go Go.Eng
set_option maxRecDepth 100000
set_option linter.unusedVariables false

def f24_0_sh : Shp := { n := 26, lo := 2, slots := [(0, .one (.fix (At.own 0))), (1, .one (.fix (At.own 1))), (5, .one (.int IntKind.i64))], items := [(0, .view (RK.mix ck78) 33), (1, .view (RK.mix ck78) 33)] }
def f24_0_ex1 : Shp := { n := 26, lo := 2, slots := [(4, .one (.bool)), (25, .one (.bool)), (14, .one (.bool)), (0, .one (.fix (At.own 0))), (1, .one (.fix (At.own 1))), (5, .one (.int IntKind.i64))], items := [(0, .view (RK.mix ck78) 33), (1, .view (RK.mix ck78) 33)] }
def f24_0_ex2 : Shp := { n := 26, lo := 2, slots := [(14, .one (.bool)), (0, .one (.fix (At.own 0))), (1, .one (.fix (At.own 1))), (5, .one (.int IntKind.i64))], items := [(0, .view (RK.mix ck78) 33), (1, .view (RK.mix ck78) 33)] }
noncomputable def f24_0_st {R : Type} (N : Nat) (self : Int → List Int → List Int → Option R) (k1 : Bool → Bool → Bool → Int → List Int → List Int → Option R) (k2 : Bool → Int → List Int → List Int → Option R) (x1 : Int) (x2 : List Int) (x3 : List Int) : Option R :=
 bif Decidable.decide (x1 < nI (rowLen 33 x2)) then
 bif Decidable.decide (0 ≤ x1) && Decidable.decide (x1 < nI (rowLen 33 x2)) then
 bif Decidable.decide (0 ≤ x1) && Decidable.decide (x1 < nI (rowLen 33 x3)) then
 bif !(x2.getD (x1.toNat * 33 + 0) 0 == x3.getD (x1.toNat * 33 + 0) 0 && (Decidable.decide (List.take 32 (List.drop (x1.toNat * 33 + (0 + 1)) x2) = List.take 32 (List.drop (x1.toNat * 33 + (0 + 1)) x3)) && Bool.true)) then k1 Bool.false (!(x2.getD (x1.toNat * 33 + 0) 0 == x3.getD (x1.toNat * 33 + 0) 0 && (Decidable.decide (List.take 32 (List.drop (x1.toNat * 33 + (0 + 1)) x2) = List.take 32 (List.drop (x1.toNat * 33 + (0 + 1)) x3)) && Bool.true))) (Decidable.decide (x1 < nI (rowLen 33 x2))) x1 x2 x3
 else
 let v0 : Int := IntKind.i64.wrap (x1 + 1);
 self v0 x2 x3
 else Option.none
 else Option.none
else k2 (Decidable.decide (x1 < nI (rowLen 33 x2))) x1 x2 x3
noncomputable def f24_0_lp {R : Type} (N : Nat) (k1 : Bool → Bool → Bool → Int → List Int → List Int → Option R) (k2 : Bool → Int → List Int → List Int → Option R) : Nat → Int → List Int → List Int → Option R
 | 0, _, _, _ => none
 | n + 1, x1, x2, x3 => f24_0_st N (f24_0_lp N k1 k2 n) k1 k2 x1 x2 x3
noncomputable def f24_0_F (N : Nat) : (R : Type) → List Leaf → (X → AS → Option R) → Option R := fun _ ls K => match ls with
 | [.i x1, .l x2, .l x3] => f24_0_lp N (fun y1 y2 y3 y4 y5 y6 => K (X.ret) (fill f24_0_ex1 [.b y1, .b y2, .b y3, .i y4, .l y5, .l y6])) (fun y1 y2 y3 y4 => K (X.normal) (fill f24_0_ex2 [.b y1, .i y2, .l y3, .l y4])) N x1 x2 x3
 | _ => none
noncomputable def f24_raw {R : Type} (N : Nat) (a : List Int) (b : List Int) (k : List DV → Option R) : Option R :=
 bif nI (rowLen 33 a) != nI (rowLen 33 b) then k [DV.v (SV.one (At.bool Bool.false))] else f24_0_lp N (fun w0_1 w0_2 w0_3 w0_4 w0_5 w0_6 => k [DV.v (SV.one (At.bool w0_1))]) (fun w1_1 w1_2 w1_3 w1_4 => k [DV.v (SV.one (At.bool Bool.true))]) N 0 a b


noncomputable def E24 (N : Nat) : Env := { Θ := Th, Γ := [], K := K24, ν := N24, fuel := 0, lp := [(0, mkL N24_0 f24_0_sh (f24_0_F N))] }

theorem f24_0_st_eq {R : Type} (N : Nat) (K : X → AS → Option R) (n : Nat) (x1 : Int) (x2 : List Int) (x3 : List Int) : roundsOf (E24 N) N24_0 0 B24_0 K (n + 1) (fill f24_0_sh [.i x1, .l x2, .l x3]) = f24_0_st N (fun x1 x2 x3 => roundsOf (E24 N) N24_0 0 B24_0 K n (fill f24_0_sh [.i x1, .l x2, .l x3])) (fun y1 y2 y3 y4 y5 y6 => K (X.ret) (fill f24_0_ex1 [.b y1, .b y2, .b y3, .i y4, .l y5, .l y6])) (fun y1 y2 y3 y4 => K (X.normal) (fill f24_0_ex2 [.b y1, .i y2, .l y3, .l y4])) x1 x2 x3 := by kernel_rfl
theorem f24_0_lp_eq {R : Type} (N : Nat) (K : X → AS → Option R) : ∀ (n : Nat) (x1 : Int) (x2 : List Int) (x3 : List Int), roundsOf (E24 N) N24_0 0 B24_0 K n (fill f24_0_sh [.i x1, .l x2, .l x3]) = f24_0_lp N (fun y1 y2 y3 y4 y5 y6 => K (X.ret) (fill f24_0_ex1 [.b y1, .b y2, .b y3, .i y4, .l y5, .l y6])) (fun y1 y2 y3 y4 => K (X.normal) (fill f24_0_ex2 [.b y1, .i y2, .l y3, .l y4])) n x1 x2 x3
  | 0, _, _, _ => rfl
  | n + 1, x1, x2, x3 => by
    rw [f24_0_st_eq, f24_0_lp, show (fun x1 x2 x3 => roundsOf (E24 N) N24_0 0 B24_0 K n (fill f24_0_sh [.i x1, .l x2, .l x3])) = f24_0_lp N (fun y1 y2 y3 y4 y5 y6 => K (X.ret) (fill f24_0_ex1 [.b y1, .b y2, .b y3, .i y4, .l y5, .l y6])) (fun y1 y2 y3 y4 => K (X.normal) (fill f24_0_ex2 [.b y1, .i y2, .l y3, .l y4])) n from by funext x1 x2 x3; exact f24_0_lp_eq N K n x1 x2 x3]
theorem f24_0_ok (N : Nat) (hlp : LoopsOk Tryz.prog (E24 N).lp B24_0) (hΓ : CtxOk Tryz.prog (E24 N).Γ) : LoopOk Tryz.prog (mkL N24_0 f24_0_sh (f24_0_F N)) 0 B24_0 := by
  refine loopOk_of (E := E24 N) thOk hΓ mixed hlp ?_
  intro R ls K r h
  unfold f24_0_F at h
  split at h
  · exact ⟨N, by rw [f24_0_lp_eq]; exact h⟩
  · cases h

theorem lok24_0 (N : Nat) (hΓ : CtxOk Tryz.prog []) : LoopOk Tryz.prog (mkL N24_0 f24_0_sh (f24_0_F N)) 0 B24_0 := f24_0_ok N (loopsOk_of (l := []) (by kernel_rfl) trivial) hΓ
theorem f24_contract (N : Nat) (hΓ : CtxOk Tryz.prog []) : Contract Tryz.prog 24 { sig := S24, impl := fun _ ds k => call (E24 N) S24 26 B24 R24 ds k } :=
  call_contract (E := E24 N) thOk hΓ mixed ok24.look ok24.body ok24.n ok24.rv ok24.name rfl (by decide) (loopsOk_of (l := [(0, B24_0)]) (by kernel_rfl) (allOk_cons (L := mkL N24_0 f24_0_sh (f24_0_F N)) rfl (lok24_0 N hΓ) trivial))
theorem f24_raw_eq {R : Type} (N : Nat) (a : List Int) (b : List Int) (k : List DV → Option R) : call (E24 N) S24 26 B24 R24 [.lst (.mix ck78) 33 a, .lst (.mix ck78) 33 b] k = f24_raw N a b k := by kernel_rfl
end Go.Proofs.YtogcijgklnfjjaaGreat

namespace Go.Proofs.YtogcijgklnfjjaaGreat
open Go Go.Eng
set_option maxRecDepth 100000
set_option linter.unusedVariables false

end Go.Proofs.YtogcijgklnfjjaaGreat

namespace Go.Proofs.YtogcijgklnfjjaaGreat
open Go Go.Eng
set_option maxRecDepth 100000
set_option linter.unusedVariables false

end Go.Proofs.YtogcijgklnfjjaaGreat

namespace Go.Proofs.YtogcijgklnfjjaaGreat
open Go Go.Eng
set_option maxRecDepth 100000
set_option linter.unusedVariables false

end Go.Proofs.YtogcijgklnfjjaaGreat

namespace Go.Proofs.YtogcijgklnfjjaaGreat
open Go Go.Eng
set_option maxRecDepth 100000
set_option linter.unusedVariables false

end Go.Proofs.YtogcijgklnfjjaaGreat

namespace Go.Proofs.YtogcijgklnfjjaaGreat
open Go Go.Eng
set_option maxRecDepth 100000
set_option linter.unusedVariables false

end Go.Proofs.YtogcijgklnfjjaaGreat

namespace Go.Proofs.YtogcijgklnfjjaaGreat
open Go Go.Eng
set_option maxRecDepth 100000
set_option linter.unusedVariables false

theorem c18 : Contract Tryz.prog 18 { sig := S18, impl := I17 } := by
  refine Contract.refine fun R ds k r h => ?_
  unfold I17 at h
  split at h
  · rename_i xs x
    refine ⟨_, f18_contract 0 GQ0_ok, ?_⟩
    cases hc : okF xs with
    | false => rw [hc] at h; cases h
    | true =>
      rw [hc, cond_true] at h
      rw [f18_raw_eq]
      unfold f18_raw
      rw [hc, okB_sN, vS_sN (plN_lt _), zS_eq]
      by_cases h1 : x < 1
      · rw [decide_eq_false (show ¬ x ≥ 1 by omega)] at h
        rw [decide_eq_true h1]; exact h
      · rw [decide_eq_true (show x ≥ 1 by omega)] at h
        rw [decide_eq_false h1]
        by_cases h2 : x > 255
        · rw [decide_eq_false (show ¬ x ≤ 255 by omega)] at h
          rw [decide_eq_true h2]; exact h
        · rw [decide_eq_true (show x ≤ 255 by omega)] at h
          rw [decide_eq_false h2]; exact h
  · exact (Option.some_ne_none _ h.symm).elim
theorem f21_loop {R : Type} {N : Nat} (k1 : Bool → Int → List Int → List Int → List Int → Option R) {xs ids : List Int} {n : Nat} (hx : okF xs = true) (hn : ids.length = n) (hb : n ≤ 1073741823) :
    ∀ j i : Nat, i + j = n → ∀ fuel, j < fuel → f21_0_lp N k1 fuel (i : Int) (shG (fun i => ids.getD i 0) (fun i => evN xs (plN (ids.getD i 0))) i) xs ids =
      k1 false (n : Int) (shG (fun i => ids.getD i 0) (fun i => evN xs (plN (ids.getD i 0))) n) xs ids := by
  intro j
  induction j with
  | zero =>
    intro i h fuel hf
    obtain ⟨f, rfl⟩ : ∃ f, fuel = f + 1 := ⟨fuel - 1, by omega⟩
    show f21_0_st N (f21_0_lp N _ f) _ _ _ _ _ = _
    unfold f21_0_st
    rw [rows1, hn, ltF (by omega), cond_false, show i = n by omega]
  | succ j ih =>
    intro i h fuel hf
    obtain ⟨f, rfl⟩ : ∃ f, fuel = f + 1 := ⟨fuel - 1, by omega⟩
    show f21_0_st N (f21_0_lp N _ f) _ _ _ _ _ = _
    unfold f21_0_st
    rw [rows1, hn, ltT (show i < n by omega), ge0, show mulE (Int.toNat (i : Int)) 1 = i from rfl, hx, okB_sN, vS_sN (plN_lt _)]
    dsimp only
    rw [List.append_nil]
    have e1 : rowLen 33 (shG (fun i => ids.getD i 0) (fun i => evN xs (plN (ids.getD i 0))) i) = i := shG_div _ _ _
    have e2 : rowLen 33 (ids.getD i 0 :: (sN (evN xs (plN (ids.getD i 0))) ++ [])) = 1 := by
      show (ids.getD i 0 :: (sN (evN xs (plN (ids.getD i 0))) ++ [])).length / 33 = 1
      rw [List.append_nil, List.length_cons, sN_len]
    have hle : (Nat.ble ((2 * (i + 1) + 192) * 40) big48 && Nat.ble (i + 1) big48) = true := by
      rw [Bool.and_eq_true, Nat.ble_eq, Nat.ble_eq]; unfold big48; omega
    rw [e1, e2, hle, wAdd (by omega), List.append_nil]
    simp only [Bool.and_self, cond_true]
    exact ih (i + 1) (by omega) f (by omega)
theorem c21 : Contract Tryz.prog 21 { sig := S21, impl := I19 } := by
  refine Contract.refine fun R ds k r h => ?_
  unfold I19 at h
  split at h
  · rename_i xs ids
    refine ⟨_, f21_contract (ids.length + 1) GQ0_ok, ?_⟩
    cases hc : okF xs && Nat.ble ids.length 1073741823 with
    | false => rw [hc] at h; cases h
    | true =>
      rw [hc, cond_true] at h
      rw [Bool.and_eq_true] at hc
      have hb := Nat.le_of_ble_eq_true hc.2
      rw [f21_raw_eq]
      unfold f21_raw
      rw [show Nat.ble ids.length 1073741824 = true from Nat.ble_eq_true_of_le (by omega), cond_true]
      by_cases h0 : idsN ids = 0
      · rw [decide_eq_true h0, cond_true] at h
        rw [h0, show ((0 : Int) != 0) = false from rfl, cond_false]
        exact (f21_loop (N := ids.length + 1) _ hc.1 rfl hb ids.length 0 (by omega) (ids.length + 1) (by omega)).trans h
      · rw [decide_eq_false h0, cond_false] at h
        rw [show (idsN ids != 0) = true by simpa using h0, cond_true]
        exact h
  · exact (Option.some_ne_none _ h.symm).elim
theorem f24_loop {R : Type} {N : Nat} (k1 : Bool → Bool → Bool → Int → List Int → List Int → Option R) (k2 : Bool → Int → List Int → List Int → Option R) {a : List Int} {n : Nat} (hn : a.length / 33 = n) (hb : n ≤ 1073741823) :
    ∀ j i : Nat, i + j = n → ∀ fuel, j < fuel → f24_0_lp N k1 k2 fuel (i : Int) a a = k2 false (n : Int) a a := by
  have hr : nI (rowLen 33 a) = (n : Int) := by show ((a.length / 33 : Nat) : Int) = _; rw [hn]
  intro j
  induction j with
  | zero =>
    intro i h fuel hf
    obtain ⟨f, rfl⟩ : ∃ f, fuel = f + 1 := ⟨fuel - 1, by omega⟩
    show f24_0_st N (f24_0_lp N _ _ f) _ _ _ _ _ = _
    unfold f24_0_st
    rw [hr, ltF (by omega), cond_false, show i = n by omega]
  | succ j ih =>
    intro i h fuel hf
    obtain ⟨f, rfl⟩ : ∃ f, fuel = f + 1 := ⟨fuel - 1, by omega⟩
    show f24_0_st N (f24_0_lp N _ _ f) _ _ _ _ _ = _
    unfold f24_0_st
    rw [hr, ltT (show i < n by omega), ge0, wAdd (by omega)]
    simp only [Bool.and_self, cond_true, decide_true, beq_self_eq_true, Bool.not_true, cond_false]
    exact ih (i + 1) (by omega) f (by omega)
noncomputable def I24 : (R : Type) → List DV → (List DV → Option R) → Option R := fun _ ds k => match ds with
  | [.lst (.mix c) 33 a, .lst (.mix c') 33 b] => match cksEq c ck78 && cksEq c' ck78 with
    | true => bif decide (a = b) && Nat.ble a.length 1073741824 then k [.v (.one (.bool true))] else none
    | false => none
  | _ => none
theorem c24 : Contract Tryz.prog 24 { sig := S24, impl := I24 } := by
  refine Contract.refine fun R ds k r h => ?_
  unfold I24 at h
  split at h
  · rename_i c a c' b
    refine ⟨_, f24_contract (a.length / 33 + 1) ctxOk_nil, ?_⟩
    split at h
    · rename_i hl
      rw [Bool.and_eq_true] at hl
      have h1 := cksEq_iff.1 hl.1
      have h2 := cksEq_iff.1 hl.2
      subst h1; subst h2
      cases hc : decide (a = b) && Nat.ble a.length 1073741824 with
      | false => rw [hc] at h; cases h
      | true =>
        rw [hc, cond_true] at h
        rw [Bool.and_eq_true] at hc
        have e := of_decide_eq_true hc.1
        subst e
        have hb := Nat.le_of_ble_eq_true hc.2
        show call (E24 (a.length / 33 + 1)) S24 26 B24 R24 [DV.lst (RK.mix ck78) 33 a, DV.lst (RK.mix ck78) 33 a] k = some r
        rw [f24_raw_eq]
        unfold f24_raw
        rw [bne_self_eq_false, cond_false]
        exact (f24_loop (N := a.length / 33 + 1) _ _ rfl (by omega) (a.length / 33) 0 (by omega) (a.length / 33 + 1) (by omega)).trans h
    · cases h
  · exact (Option.some_ne_none _ h.symm).elim
end Go.Proofs.YtogcijgklnfjjaaGreat

namespace Go.Proofs.YtogcijgklnfjjaaGreat
open Go Go.Eng
end Go.Proofs.YtogcijgklnfjjaaGreat

namespace Go.Proofs.YtogcijgklnfjjaaGreat
open Go Go.Eng
set_option maxRecDepth 100000
set_option linter.unusedVariables false

end Go.Proofs.YtogcijgklnfjjaaGreat

namespace Go.Proofs.YtogcijgklnfjjaaGreat
open Go Go.Eng
set_option maxRecDepth 100000
set_option linter.unusedVariables false

end Go.Proofs.YtogcijgklnfjjaaGreat

namespace Go.Proofs.YtogcijgklnfjjaaGreat
open Go Go.Eng
set_option maxRecDepth 100000
set_option linter.unusedVariables false

end Go.Proofs.YtogcijgklnfjjaaGreat

namespace Go.Proofs.YtogcijgklnfjjaaGreat
open Go Go.Eng
set_option maxRecDepth 100000
set_option linter.unusedVariables false

end Go.Proofs.YtogcijgklnfjjaaGreat

namespace Go.Proofs.YtogcijgklnfjjaaGreat
open Go Go.Eng
set_option maxRecDepth 100000
set_option linter.unusedVariables false

end Go.Proofs.YtogcijgklnfjjaaGreat

namespace Go.Proofs.YtogcijgklnfjjaaGreat
open Go Go.Eng
set_option maxRecDepth 100000
set_option linter.unusedVariables false

end Go.Proofs.YtogcijgklnfjjaaGreat

namespace Go.Proofs.YtogcijgklnfjjaaGreat
open Go Go.Eng
set_option maxRecDepth 100000
set_option linter.unusedVariables false

end Go.Proofs.YtogcijgklnfjjaaGreat

namespace Go.Proofs.YtogcijgklnfjjaaGreat
open Go Go.Eng
set_option maxRecDepth 100000
set_option linter.unusedVariables false

end Go.Proofs.YtogcijgklnfjjaaGreat

namespace Go.Proofs.YtogcijgklnfjjaaGreat
open Go Go.Eng
set_option maxRecDepth 100000
set_option linter.unusedVariables false

end Go.Proofs.YtogcijgklnfjjaaGreat

namespace Go.Proofs.YtogcijgklnfjjaaGreat
open Go Go.Eng
set_option maxRecDepth 100000
set_option linter.unusedVariables false

end Go.Proofs.YtogcijgklnfjjaaGreat

namespace Go.Proofs.YtogcijgklnfjjaaGreat
open Go Go.Eng
set_option maxRecDepth 100000
set_option linter.unusedVariables false

end Go.Proofs.YtogcijgklnfjjaaGreat

namespace Go.Proofs.YtogcijgklnfjjaaGreat
open Go Go.Eng
set_option maxRecDepth 100000
set_option linter.unusedVariables false

theorem f12_loop {R : Type} {N : Nat} (k1 : Bool → Bool → Bool → Int → List Int → List Int → Option R) (k2 : Bool → Int → List Int → List Int → Option R) {a : List Int} {n : Nat} (hn : a.length = n) (hb : n ≤ 1073741823) :
    ∀ j i : Nat, i + j = n → ∀ fuel, j < fuel → f12_0_lp N k1 k2 fuel (i : Int) a a = k2 false (n : Int) a a := by
  have hr : nI (rowLen 1 a) = (n : Int) := by rw [rows1, hn]
  intro j
  induction j with
  | zero =>
    intro i h fuel hf
    obtain ⟨f, rfl⟩ : ∃ f, fuel = f + 1 := ⟨fuel - 1, by omega⟩
    show f12_0_st N (f12_0_lp N _ _ f) _ _ _ _ _ = _
    unfold f12_0_st
    rw [hr, ltF (by omega), cond_false, show i = n by omega]
  | succ j ih =>
    intro i h fuel hf
    obtain ⟨f, rfl⟩ : ∃ f, fuel = f + 1 := ⟨fuel - 1, by omega⟩
    show f12_0_st N (f12_0_lp N _ _ f) _ _ _ _ _ = _
    unfold f12_0_st
    rw [hr, ltT (show i < n by omega), ge0, wAdd (by omega)]
    simp only [Bool.and_self, cond_true, bne_self_eq_false, cond_false]
    exact ih (i + 1) (by omega) f (by omega)
noncomputable def I12 : (R : Type) → List DV → (List DV → Option R) → Option R := fun _ ds k => match ds with
  | [.lst (.one .i64) 1 a, .lst (.one .i64) 1 b] => bif decide (a = b) && Nat.ble a.length 1073741823 then k [.v (.one (.bool true))] else none
  | _ => none
theorem c12 : Contract Tryz.prog 12 { sig := S12, impl := I12 } := by
  refine Contract.refine fun R ds k r h => ?_
  unfold I12 at h
  split at h
  · rename_i a b
    refine ⟨_, f12_contract (a.length + 1) ctxOk_nil, ?_⟩
    cases hc : decide (a = b) && Nat.ble a.length 1073741823 with
    | false => rw [hc] at h; cases h
    | true =>
      rw [hc, cond_true] at h
      rw [Bool.and_eq_true] at hc
      have e := of_decide_eq_true hc.1
      subst e
      rw [f12_raw_eq]
      unfold f12_raw
      rw [bne_self_eq_false, cond_false]
      exact (f12_loop (N := a.length + 1) _ _ rfl (Nat.le_of_ble_eq_true hc.2) a.length 0 (by omega) (a.length + 1) (by omega)).trans h
  · exact (Option.some_ne_none _ h.symm).elim
noncomputable def GGI : Ctx := (11, { sig := S11, impl := I11 }) :: (12, { sig := S12, impl := I12 }) :: (24, { sig := S24, impl := I24 }) :: []
theorem GGI_ok : CtxOk Tryz.prog GGI := ctxOk_cons ok11 rfl c11 (ctxOk_cons ok12 rfl c12 (ctxOk_cons ok24 rfl c24 ctxOk_nil))
noncomputable def EG14 : Env := { Θ := Th3, Γ := GGI, K := K14, ν := N14, fuel := 5, lp := [] }
noncomputable def G14 : FI := { sig := { ps := [], rs := [] }, impl := fun _ ds k => callN EG14 1 393 B14 R14 ds k, kind := .inl 1 }
theorem cG14 : Contract Tryz.prog 14 G14 := inl_contract (E := EG14) thOk3 GGI_ok mixed ok14 (loopsOk_of (l := [(0, B14_0), (2, B14_2), (4, B14_4), (6, B14_6), (8, B14_8), (10, B14_10), (12, B14_12), (14, B14_14), (16, B14_16), (18, B14_18), (20, B14_20), (22, B14_22), (24, B14_24), (26, B14_26), (28, B14_28)]) (by kernel_rfl) (allOk_skip rfl (allOk_skip rfl (allOk_skip rfl (allOk_skip rfl (allOk_skip rfl (allOk_skip rfl (allOk_skip rfl (allOk_skip rfl (allOk_skip rfl (allOk_skip rfl (allOk_skip rfl (allOk_skip rfl (allOk_skip rfl (allOk_skip rfl (allOk_skip rfl trivial))))))))))))))))
def noFI : FI := { sig := { ps := [], rs := [] }, impl := fun _ _ _ => none }
theorem ctxOk_prune {Γ : Ctx} (h : CtxOk Tryz.prog Γ) : CtxOk Tryz.prog ((999999, noFI) :: Γ) := by
  intro g fi hg
  unfold findF at hg
  split at hg
  · injection hg with hg; subst hg
    refine ⟨fun R ds k r hr => ?_, rfl⟩
    cases (show (none : Option R) = some r from hr)
  · exact h g fi hg
noncomputable def GE0 : Ctx := (11, { sig := S11, impl := I11 }) :: (13, { sig := S13, impl := I13 }) :: (14, G14) :: (15, { sig := S15, impl := I15 }) :: (16, G16) :: (17, { sig := S17, impl := I17 }) :: (18, { sig := S18, impl := I17 }) :: (19, { sig := S19, impl := I19 }) :: (20, G20) :: (21, { sig := S21, impl := I19 }) :: (22, { sig := S22, impl := I22 }) :: (23, { sig := S23, impl := I22 }) :: (24, { sig := S24, impl := I24 }) :: []
theorem GE0_ok : CtxOk Tryz.prog GE0 := ctxOk_cons ok11 rfl c11 (ctxOk_cons ok13 rfl c13 (ctxOk_cons ok14 rfl cG14 (ctxOk_cons ok15 rfl c15 (ctxOk_cons ok16 rfl cG16 (ctxOk_cons ok17 rfl c17 (ctxOk_cons ok18 rfl c18 (ctxOk_cons ok19 rfl c19 (ctxOk_cons ok20 rfl cG20 (ctxOk_cons ok21 rfl c21 (ctxOk_cons ok22 rfl c22 (ctxOk_cons ok23 rfl c23 (ctxOk_cons ok24 rfl c24 ctxOk_nil))))))))))))
noncomputable def GE4 : Ctx := (999999, noFI) :: GE0
theorem GE4_ok : CtxOk Tryz.prog GE4 := ctxOk_prune GE0_ok
def start4 (n : Nat) (a x : List Int) (d : Int) (ids : List Int) : AS := { n := n, lo := 0, tmps := [(0, va (.own 0)), (1, va (.ints .u8 32 x)), (2, va (.int .i64 d)), (3, va (.own 3))], items := [(0, .view (.one .u8) 32 a), (3, .view (.one .i64) 1 ids)] }
end Go.Proofs.YtogcijgklnfjjaaGreat

namespace Go.Proofs.YtogcijgklnfjjaaGreat
open Go Go.Eng
set_option maxRecDepth 100000
set_option linter.unusedVariables false

noncomputable def f4_raw {R : Type} (N : Nat) (a : List Int) (x : List Int) (d : Int) (ids : List Int) (k : List DV → Option R) : Option R :=
 let v0 : Int := IntKind.i64.wrap (nI (rowLen 32 a) + 3);
bif Decidable.decide (0 ≤ v0) && (Decidable.decide (v0 ≤ v0) && (Decidable.decide (v0 ≤ 281474976710656) && Decidable.decide (v0 * 32 ≤ 281474976710656))) then
 bif Decidable.decide (0 = 0) && okK (zerosOf (mulE v0.toNat 32)) 32 ((zerosOf (mulE v0.toNat 32)).length / 32) then
 bif Decidable.decide (0 = 0) && (okK a 32 (a.length / 32) && (okK (mkB ((zerosOf (mulE v0.toNat 32)).length / 32)) 32 ((mkB ((zerosOf (mulE v0.toNat 32)).length / 32)).length / 32) && (a.length / 32).ble ((mkB ((zerosOf (mulE v0.toNat 32)).length / 32)).length / 32))) then
 bif (rowLen 32 (overB a (mkB ((zerosOf (mulE v0.toNat 32)).length / 32))) * 32).ble big48 && (rowLen 32 (overB a (mkB ((zerosOf (mulE v0.toNat 32)).length / 32)))).ble big48 then
 bif hiOk (Option.some (nI (rowLen 32 a))) (rowLen 32 (overB a (mkB ((zerosOf (mulE v0.toNat 32)).length / 32)))) then
 let v1 : List Int := Go.Eng.sub (overB a (mkB ((zerosOf (mulE v0.toNat 32)).length / 32))) Off.z (mulE (Go.Eng.subN (hiNat (Option.some (nI (rowLen 32 a))) (rowLen 32 (overB a (mkB ((zerosOf (mulE v0.toNat 32)).length / 32))))) Option.none) 32);
 bif okF v1 then
 bif Decidable.decide (d ≥ 1) && Decidable.decide (d ≤ 255) then
 bif okF a then
 bif Decidable.decide (d ≥ 1) && Decidable.decide (d ≤ 255) then
 let v2 : Int := IntKind.i64.wrap (nI (rowLen 1 ids) + 3);
 bif Decidable.decide (0 ≤ v2) && (Decidable.decide (v2 ≤ v2) && (Decidable.decide (v2 ≤ 281474976710656) && Decidable.decide (v2 * 8 ≤ 281474976710656))) then
 bif Decidable.decide (0 = 0) && (zerosOf (mulE v2.toNat 1)).length.ble 1073741823 then
 bif Decidable.decide (0 = 0) && (ids.length.ble 1073741823 && ids.length.ble (mkI (zerosOf (mulE v2.toNat 1)).length).length) then
 bif (rowLen 1 (overG ids (mkI (zerosOf (mulE v2.toNat 1)).length)) * 8).ble big48 && (rowLen 1 (overG ids (mkI (zerosOf (mulE v2.toNat 1)).length))).ble big48 then
 bif hiOk (Option.some (nI (rowLen 1 ids))) (rowLen 1 (overG ids (mkI (zerosOf (mulE v2.toNat 1)).length))) then
 let v3 : List Int := Go.Eng.sub (overG ids (mkI (zerosOf (mulE v2.toNat 1)).length)) Off.z (mulE (Go.Eng.subN (hiNat (Option.some (nI (rowLen 1 ids))) (rowLen 1 (overG ids (mkI (zerosOf (mulE v2.toNat 1)).length)))) Option.none) 1);
 bif okF v1 && v3.length.ble 1073741823 then
 bif Decidable.decide (idsN v3 = 0) then
 bif okF a && ids.length.ble 1073741823 then
 bif Decidable.decide (idsN ids = 0) then
 bif okF v1 && okB x then
 bif okF a && okB x then
 bif Decidable.decide (sN (evN v1 (vS x)) = sN (evN a (vS x))) then
 let v4 : Bool := bif Bool.true then Decidable.decide (sN (evN v1 (plN d)) = sN (evN a (plN d))) else Bool.false;
 bif v4 then
 bif Decidable.decide (splitG v1 v3 = splitG a ids) && (splitG v1 v3).length.ble 1073741824 then
 bif Decidable.decide (overG ids (mkI (zerosOf (mulE v2.toNat 1)).length) = overG ids (mkI (zerosOf (mulE v2.toNat 1)).length)) && (overG ids (mkI (zerosOf (mulE v2.toNat 1)).length)).length.ble 1073741823 then
 bif okF (overB a (mkB ((zerosOf (mulE v0.toNat 32)).length / 32))) && okF (overB a (mkB ((zerosOf (mulE v0.toNat 32)).length / 32))) then
 bif !Decidable.decide (overB a (mkB ((zerosOf (mulE v0.toNat 32)).length / 32)) = overB a (mkB ((zerosOf (mulE v0.toNat 32)).length / 32))) then Option.none
 else
 let v5 : Bool := bif Bool.true then Bool.true else Bool.false;
 k [DV.v (SV.one (At.bool v5))]
 else Option.none
 else Option.none
 else Option.none
 else Option.none
 else Option.none
 else Option.none
 else Option.none
 else
 bif okF v1 && okB x then
 bif okF a && okB x then
 bif Decidable.decide (sN (evN v1 (vS x)) = sN (evN a (vS x))) then
 let v6 : Bool := bif Bool.true then Decidable.decide (sN (evN v1 (plN d)) = sN (evN a (plN d))) else Bool.false;
 bif v6 then
 bif Decidable.decide (splitG v1 v3 = []) && (splitG v1 v3).length.ble 1073741824 then
 let v7 : Bool := bif Bool.true then 0 == idsN ids else Bool.false;
 bif v7 then
 bif Decidable.decide (overG ids (mkI (zerosOf (mulE v2.toNat 1)).length) = overG ids (mkI (zerosOf (mulE v2.toNat 1)).length)) && (overG ids (mkI (zerosOf (mulE v2.toNat 1)).length)).length.ble 1073741823 then
 bif okF (overB a (mkB ((zerosOf (mulE v0.toNat 32)).length / 32))) && okF (overB a (mkB ((zerosOf (mulE v0.toNat 32)).length / 32))) then
 bif !Decidable.decide (overB a (mkB ((zerosOf (mulE v0.toNat 32)).length / 32)) = overB a (mkB ((zerosOf (mulE v0.toNat 32)).length / 32))) then Option.none
 else
 let v8 : Bool := bif Bool.true then Bool.true else Bool.false;
 k [DV.v (SV.one (At.bool v8))]
 else Option.none
 else Option.none
 else Option.none
 else Option.none
 else Option.none
 else Option.none
 else Option.none
 else Option.none
 else Option.none
 else
 bif okF a && ids.length.ble 1073741823 then
 bif Decidable.decide (idsN ids = 0) then
 bif okF v1 && okB x then
 bif okF a && okB x then
 bif Decidable.decide (sN (evN v1 (vS x)) = sN (evN a (vS x))) then
 let v9 : Bool := bif Bool.true then Decidable.decide (sN (evN v1 (plN d)) = sN (evN a (plN d))) else Bool.false;
 bif v9 then
 bif Decidable.decide ([] = splitG a ids) && ([] : List Int).length.ble 1073741824 then
 let v10 : Bool := bif Bool.true then idsN v3 == 0 else Bool.false;
 bif v10 then
 bif Decidable.decide (overG ids (mkI (zerosOf (mulE v2.toNat 1)).length) = overG ids (mkI (zerosOf (mulE v2.toNat 1)).length)) && (overG ids (mkI (zerosOf (mulE v2.toNat 1)).length)).length.ble 1073741823 then
 bif okF (overB a (mkB ((zerosOf (mulE v0.toNat 32)).length / 32))) && okF (overB a (mkB ((zerosOf (mulE v0.toNat 32)).length / 32))) then
 bif !Decidable.decide (overB a (mkB ((zerosOf (mulE v0.toNat 32)).length / 32)) = overB a (mkB ((zerosOf (mulE v0.toNat 32)).length / 32))) then Option.none
 else
 let v11 : Bool := bif Bool.true then Bool.true else Bool.false;
 k [DV.v (SV.one (At.bool v11))]
 else Option.none
 else Option.none
 else Option.none
 else Option.none
 else Option.none
 else Option.none
 else Option.none
 else Option.none
 else
 bif okF v1 && okB x then
 bif okF a && okB x then
 bif Decidable.decide (sN (evN v1 (vS x)) = sN (evN a (vS x))) then
 let v12 : Bool := bif Bool.true then Decidable.decide (sN (evN v1 (plN d)) = sN (evN a (plN d))) else Bool.false;
 bif v12 then
 let v13 : Bool := bif Bool.true then idsN v3 == idsN ids else Bool.false;
 bif v13 then
 bif Decidable.decide (overG ids (mkI (zerosOf (mulE v2.toNat 1)).length) = overG ids (mkI (zerosOf (mulE v2.toNat 1)).length)) && (overG ids (mkI (zerosOf (mulE v2.toNat 1)).length)).length.ble 1073741823 then
 bif okF (overB a (mkB ((zerosOf (mulE v0.toNat 32)).length / 32))) && okF (overB a (mkB ((zerosOf (mulE v0.toNat 32)).length / 32))) then
 bif !Decidable.decide (overB a (mkB ((zerosOf (mulE v0.toNat 32)).length / 32)) = overB a (mkB ((zerosOf (mulE v0.toNat 32)).length / 32))) then Option.none
 else
 let v14 : Bool := bif Bool.true then Bool.true else Bool.false;
 k [DV.v (SV.one (At.bool v14))]
 else Option.none
 else Option.none
 else Option.none
 else Option.none
 else Option.none
 else Option.none
 else Option.none
 else Option.none
 else Option.none
 else Option.none
 else Option.none
 else Option.none
 else Option.none
 else Option.none
 else
 let v15 : Int := IntKind.i64.wrap (nI (rowLen 1 ids) + 3);
 bif Decidable.decide (0 ≤ v15) && (Decidable.decide (v15 ≤ v15) && (Decidable.decide (v15 ≤ 281474976710656) && Decidable.decide (v15 * 8 ≤ 281474976710656))) then
 bif Decidable.decide (0 = 0) && (zerosOf (mulE v15.toNat 1)).length.ble 1073741823 then
 bif Decidable.decide (0 = 0) && (ids.length.ble 1073741823 && ids.length.ble (mkI (zerosOf (mulE v15.toNat 1)).length).length) then
 bif (rowLen 1 (overG ids (mkI (zerosOf (mulE v15.toNat 1)).length)) * 8).ble big48 && (rowLen 1 (overG ids (mkI (zerosOf (mulE v15.toNat 1)).length))).ble big48 then
 bif hiOk (Option.some (nI (rowLen 1 ids))) (rowLen 1 (overG ids (mkI (zerosOf (mulE v15.toNat 1)).length))) then
 let v16 : List Int := Go.Eng.sub (overG ids (mkI (zerosOf (mulE v15.toNat 1)).length)) Off.z (mulE (Go.Eng.subN (hiNat (Option.some (nI (rowLen 1 ids))) (rowLen 1 (overG ids (mkI (zerosOf (mulE v15.toNat 1)).length)))) Option.none) 1);
 bif okF v1 && v16.length.ble 1073741823 then
 bif Decidable.decide (idsN v16 = 0) then
 bif okF a && ids.length.ble 1073741823 then
 bif Decidable.decide (idsN ids = 0) then
 bif okF v1 && okB x then
 bif okF a && okB x then
 bif Decidable.decide (sN (evN v1 (vS x)) = sN (evN a (vS x))) then
 let v17 : Bool := bif Bool.true then Decidable.decide (sN (evN v1 (plN d)) = zS) else Bool.false;
 bif v17 then Option.none else Option.none
 else Option.none
 else Option.none
 else Option.none
 else
 bif okF v1 && okB x then
 bif okF a && okB x then
 bif Decidable.decide (sN (evN v1 (vS x)) = sN (evN a (vS x))) then
 let v18 : Bool := bif Bool.true then Decidable.decide (sN (evN v1 (plN d)) = zS) else Bool.false;
 bif v18 then Option.none else Option.none
 else Option.none
 else Option.none
 else Option.none
 else Option.none
 else
 bif okF a && ids.length.ble 1073741823 then
 bif Decidable.decide (idsN ids = 0) then
 bif okF v1 && okB x then
 bif okF a && okB x then
 bif Decidable.decide (sN (evN v1 (vS x)) = sN (evN a (vS x))) then
 let v19 : Bool := bif Bool.true then Decidable.decide (sN (evN v1 (plN d)) = zS) else Bool.false;
 bif v19 then Option.none else Option.none
 else Option.none
 else Option.none
 else Option.none
 else
 bif okF v1 && okB x then
 bif okF a && okB x then
 bif Decidable.decide (sN (evN v1 (vS x)) = sN (evN a (vS x))) then
 let v20 : Bool := bif Bool.true then Decidable.decide (sN (evN v1 (plN d)) = zS) else Bool.false;
 bif v20 then Option.none else Option.none
 else Option.none
 else Option.none
 else Option.none
 else Option.none
 else Option.none
 else Option.none
 else Option.none
 else Option.none
 else Option.none
 else Option.none
 else Option.none
 else
 bif okF a then
 bif Decidable.decide (d ≥ 1) && Decidable.decide (d ≤ 255) then
 let v21 : Int := IntKind.i64.wrap (nI (rowLen 1 ids) + 3);
 bif Decidable.decide (0 ≤ v21) && (Decidable.decide (v21 ≤ v21) && (Decidable.decide (v21 ≤ 281474976710656) && Decidable.decide (v21 * 8 ≤ 281474976710656))) then
 bif Decidable.decide (0 = 0) && (zerosOf (mulE v21.toNat 1)).length.ble 1073741823 then
 bif Decidable.decide (0 = 0) && (ids.length.ble 1073741823 && ids.length.ble (mkI (zerosOf (mulE v21.toNat 1)).length).length) then
 bif (rowLen 1 (overG ids (mkI (zerosOf (mulE v21.toNat 1)).length)) * 8).ble big48 && (rowLen 1 (overG ids (mkI (zerosOf (mulE v21.toNat 1)).length))).ble big48 then
 bif hiOk (Option.some (nI (rowLen 1 ids))) (rowLen 1 (overG ids (mkI (zerosOf (mulE v21.toNat 1)).length))) then
 let v22 : List Int := Go.Eng.sub (overG ids (mkI (zerosOf (mulE v21.toNat 1)).length)) Off.z (mulE (Go.Eng.subN (hiNat (Option.some (nI (rowLen 1 ids))) (rowLen 1 (overG ids (mkI (zerosOf (mulE v21.toNat 1)).length)))) Option.none) 1);
 bif okF v1 && v22.length.ble 1073741823 then
 bif Decidable.decide (idsN v22 = 0) then
 bif okF a && ids.length.ble 1073741823 then
 bif Decidable.decide (idsN ids = 0) then
 bif okF v1 && okB x then
 bif okF a && okB x then
 bif Decidable.decide (sN (evN v1 (vS x)) = sN (evN a (vS x))) then
 let v23 : Bool := bif Bool.true then Decidable.decide (zS = sN (evN a (plN d))) else Bool.false;
 bif v23 then Option.none else Option.none
 else Option.none
 else Option.none
 else Option.none
 else
 bif okF v1 && okB x then
 bif okF a && okB x then
 bif Decidable.decide (sN (evN v1 (vS x)) = sN (evN a (vS x))) then
 let v24 : Bool := bif Bool.true then Decidable.decide (zS = sN (evN a (plN d))) else Bool.false;
 bif v24 then Option.none else Option.none
 else Option.none
 else Option.none
 else Option.none
 else Option.none
 else
 bif okF a && ids.length.ble 1073741823 then
 bif Decidable.decide (idsN ids = 0) then
 bif okF v1 && okB x then
 bif okF a && okB x then
 bif Decidable.decide (sN (evN v1 (vS x)) = sN (evN a (vS x))) then
 let v25 : Bool := bif Bool.true then Decidable.decide (zS = sN (evN a (plN d))) else Bool.false;
 bif v25 then Option.none else Option.none
 else Option.none
 else Option.none
 else Option.none
 else
 bif okF v1 && okB x then
 bif okF a && okB x then
 bif Decidable.decide (sN (evN v1 (vS x)) = sN (evN a (vS x))) then
 let v26 : Bool := bif Bool.true then Decidable.decide (zS = sN (evN a (plN d))) else Bool.false;
 bif v26 then Option.none else Option.none
 else Option.none
 else Option.none
 else Option.none
 else Option.none
 else Option.none
 else Option.none
 else Option.none
 else Option.none
 else Option.none
 else Option.none
 else
 let v27 : Int := IntKind.i64.wrap (nI (rowLen 1 ids) + 3);
 bif Decidable.decide (0 ≤ v27) && (Decidable.decide (v27 ≤ v27) && (Decidable.decide (v27 ≤ 281474976710656) && Decidable.decide (v27 * 8 ≤ 281474976710656))) then
 bif Decidable.decide (0 = 0) && (zerosOf (mulE v27.toNat 1)).length.ble 1073741823 then
 bif Decidable.decide (0 = 0) && (ids.length.ble 1073741823 && ids.length.ble (mkI (zerosOf (mulE v27.toNat 1)).length).length) then
 bif (rowLen 1 (overG ids (mkI (zerosOf (mulE v27.toNat 1)).length)) * 8).ble big48 && (rowLen 1 (overG ids (mkI (zerosOf (mulE v27.toNat 1)).length))).ble big48 then
 bif hiOk (Option.some (nI (rowLen 1 ids))) (rowLen 1 (overG ids (mkI (zerosOf (mulE v27.toNat 1)).length))) then
 let v28 : List Int := Go.Eng.sub (overG ids (mkI (zerosOf (mulE v27.toNat 1)).length)) Off.z (mulE (Go.Eng.subN (hiNat (Option.some (nI (rowLen 1 ids))) (rowLen 1 (overG ids (mkI (zerosOf (mulE v27.toNat 1)).length)))) Option.none) 1);
 bif okF v1 && v28.length.ble 1073741823 then
 bif Decidable.decide (idsN v28 = 0) then
 bif okF a && ids.length.ble 1073741823 then
 bif Decidable.decide (idsN ids = 0) then
 bif okF v1 && okB x then
 bif okF a && okB x then
 bif Decidable.decide (sN (evN v1 (vS x)) = sN (evN a (vS x))) then
 let v29 : Bool := bif Bool.true then Decidable.decide (zS = zS) else Bool.false;
 bif v29 then
 bif Decidable.decide (splitG v1 v28 = splitG a ids) && (splitG v1 v28).length.ble 1073741824 then
 bif Decidable.decide (overG ids (mkI (zerosOf (mulE v27.toNat 1)).length) = overG ids (mkI (zerosOf (mulE v27.toNat 1)).length)) && (overG ids (mkI (zerosOf (mulE v27.toNat 1)).length)).length.ble 1073741823 then
 bif okF (overB a (mkB ((zerosOf (mulE v0.toNat 32)).length / 32))) && okF (overB a (mkB ((zerosOf (mulE v0.toNat 32)).length / 32))) then
 bif !Decidable.decide (overB a (mkB ((zerosOf (mulE v0.toNat 32)).length / 32)) = overB a (mkB ((zerosOf (mulE v0.toNat 32)).length / 32))) then Option.none
 else
 let v30 : Bool := bif Bool.true then Bool.true else Bool.false;
 k [DV.v (SV.one (At.bool v30))]
 else Option.none
 else Option.none
 else Option.none
 else Option.none
 else Option.none
 else Option.none
 else Option.none
 else
 bif okF v1 && okB x then
 bif okF a && okB x then
 bif Decidable.decide (sN (evN v1 (vS x)) = sN (evN a (vS x))) then
 let v31 : Bool := bif Bool.true then Decidable.decide (zS = zS) else Bool.false;
 bif v31 then
 bif Decidable.decide (splitG v1 v28 = []) && (splitG v1 v28).length.ble 1073741824 then
 let v32 : Bool := bif Bool.true then 0 == idsN ids else Bool.false;
 bif v32 then
 bif Decidable.decide (overG ids (mkI (zerosOf (mulE v27.toNat 1)).length) = overG ids (mkI (zerosOf (mulE v27.toNat 1)).length)) && (overG ids (mkI (zerosOf (mulE v27.toNat 1)).length)).length.ble 1073741823 then
 bif okF (overB a (mkB ((zerosOf (mulE v0.toNat 32)).length / 32))) && okF (overB a (mkB ((zerosOf (mulE v0.toNat 32)).length / 32))) then
 bif !Decidable.decide (overB a (mkB ((zerosOf (mulE v0.toNat 32)).length / 32)) = overB a (mkB ((zerosOf (mulE v0.toNat 32)).length / 32))) then Option.none
 else
 let v33 : Bool := bif Bool.true then Bool.true else Bool.false;
 k [DV.v (SV.one (At.bool v33))]
 else Option.none
 else Option.none
 else Option.none
 else Option.none
 else Option.none
 else Option.none
 else Option.none
 else Option.none
 else Option.none
 else
 bif okF a && ids.length.ble 1073741823 then
 bif Decidable.decide (idsN ids = 0) then
 bif okF v1 && okB x then
 bif okF a && okB x then
 bif Decidable.decide (sN (evN v1 (vS x)) = sN (evN a (vS x))) then
 let v34 : Bool := bif Bool.true then Decidable.decide (zS = zS) else Bool.false;
 bif v34 then
 bif Decidable.decide ([] = splitG a ids) && ([] : List Int).length.ble 1073741824 then
 let v35 : Bool := bif Bool.true then idsN v28 == 0 else Bool.false;
 bif v35 then
 bif Decidable.decide (overG ids (mkI (zerosOf (mulE v27.toNat 1)).length) = overG ids (mkI (zerosOf (mulE v27.toNat 1)).length)) && (overG ids (mkI (zerosOf (mulE v27.toNat 1)).length)).length.ble 1073741823 then
 bif okF (overB a (mkB ((zerosOf (mulE v0.toNat 32)).length / 32))) && okF (overB a (mkB ((zerosOf (mulE v0.toNat 32)).length / 32))) then
 bif !Decidable.decide (overB a (mkB ((zerosOf (mulE v0.toNat 32)).length / 32)) = overB a (mkB ((zerosOf (mulE v0.toNat 32)).length / 32))) then Option.none
 else
 let v36 : Bool := bif Bool.true then Bool.true else Bool.false;
 k [DV.v (SV.one (At.bool v36))]
 else Option.none
 else Option.none
 else Option.none
 else Option.none
 else Option.none
 else Option.none
 else Option.none
 else Option.none
 else
 bif okF v1 && okB x then
 bif okF a && okB x then
 bif Decidable.decide (sN (evN v1 (vS x)) = sN (evN a (vS x))) then
 let v37 : Bool := bif Bool.true then Decidable.decide (zS = zS) else Bool.false;
 bif v37 then
 let v38 : Bool := bif Bool.true then idsN v28 == idsN ids else Bool.false;
 bif v38 then
 bif Decidable.decide (overG ids (mkI (zerosOf (mulE v27.toNat 1)).length) = overG ids (mkI (zerosOf (mulE v27.toNat 1)).length)) && (overG ids (mkI (zerosOf (mulE v27.toNat 1)).length)).length.ble 1073741823 then
 bif okF (overB a (mkB ((zerosOf (mulE v0.toNat 32)).length / 32))) && okF (overB a (mkB ((zerosOf (mulE v0.toNat 32)).length / 32))) then
 bif !Decidable.decide (overB a (mkB ((zerosOf (mulE v0.toNat 32)).length / 32)) = overB a (mkB ((zerosOf (mulE v0.toNat 32)).length / 32))) then Option.none
 else
 let v39 : Bool := bif Bool.true then Bool.true else Bool.false;
 k [DV.v (SV.one (At.bool v39))]
 else Option.none
 else Option.none
 else Option.none
 else Option.none
 else Option.none
 else Option.none
 else Option.none
 else Option.none
 else Option.none
 else Option.none
 else Option.none
 else Option.none
 else Option.none
 else Option.none
 else Option.none
 else Option.none
 else Option.none
 else Option.none
 else Option.none
 else Option.none
else Option.none


noncomputable def E4 (N : Nat) : Env := { Θ := Th, Γ := GE4, K := K4, ν := N4, fuel := 0, lp := [] }


theorem f4_loops (N : Nat) (hΓ : CtxOk Tryz.prog GE4) : LoopsOk Tryz.prog (E4 N).lp B4 := loopsOk_of (l := []) (by kernel_rfl) trivial
theorem f4_raw_eq {R : Type} (N : Nat) (a : List Int) (x : List Int) (d : Int) (ids : List Int) (k : List DV → Option R) : exec (E4 N) B4 (start4 81 a x d ids) (retK Th { ps := [], rs := [.val] } [] R4 k) = f4_raw N a x d ids k := by kernel_rfl
end Go.Proofs.YtogcijgklnfjjaaGreat

namespace Go.Proofs.YtogcijgklnfjjaaGreat
open Go Go.Eng
set_option maxRecDepth 100000
set_option linter.unusedVariables false

theorem u8_rng (z : Int) : 0 ≤ IntKind.u8.wrap z ∧ IntKind.u8.wrap z < 256 := by
  unfold IntKind.wrap
  simp only [IntKind.bits, IntKind.signed, Bool.false_and]
  have h1 : 0 ≤ z % 256 := Int.emod_nonneg _ (by decide)
  have h2 : z % 256 < 256 := Int.emod_lt_of_pos _ (by decide)
  exact ⟨h1, h2⟩
theorem okB_mS (i j : Int) : okB (mS i j) = true := by
  unfold okB
  rw [decide_eq_true (mS_len i j), Bool.true_and, List.all_eq_true]
  intro b hb
  have : 0 ≤ b ∧ b < 256 := by
    unfold mS at hb
    rcases List.mem_or_eq_of_mem_set hb with hb | hb
    · rcases List.mem_or_eq_of_mem_set hb with hb | hb
      · rcases List.mem_or_eq_of_mem_set hb with hb | hb
        · rcases List.mem_or_eq_of_mem_set hb with hb | hb
          · rcases List.mem_or_eq_of_mem_set hb with hb | hb
            · rw [List.eq_of_mem_replicate hb]; omega
            · rw [hb]; exact u8_rng _
          · rw [hb]; exact u8_rng _
        · rw [hb]; exact u8_rng _
      · rw [hb]; exact u8_rng _
    · omega
  rw [Bool.and_eq_true]
  exact ⟨decide_eq_true this.1, decide_eq_true this.2⟩
theorem mkB_len (n : Nat) : (mkB n).length = n * 32 := headG_lenK (fun j => mS_len _ _) n
theorem overB_len {a : List Int} {n m : Nat} (ha : a.length = n * 32) : (overB a (mkB m)).length = m * 32 := by
  unfold overB
  rw [mkB_len, Nat.mul_div_cancel _ (by decide)]
  exact headG_lenK (upTo_len (elP_len a 32) (elP_len _ 32) _) m
theorem overB_take {a : List Int} {n m : Nat} (ha : a.length = n * 32) (h : n ≤ m) : List.take (n * 32) (overB a (mkB m)) = a := by
  unfold overB
  rw [mkB_len, ha, Nat.mul_div_cancel _ (by decide), Nat.mul_div_cancel _ (by decide)]
  have e : ∀ d, ∃ C, headG (upTo (elP a 32) (elP (mkB m) 32) n) (n + d) = headG (upTo (elP a 32) (elP (mkB m) 32) n) n ++ C := by
    intro d
    induction d with
    | zero => exact ⟨[], by rw [List.append_nil]; rfl⟩
    | succ d ih =>
      obtain ⟨C, hC⟩ := ih
      refine ⟨C ++ upTo (elP a 32) (elP (mkB m) 32) n (n + d), ?_⟩
      show headG _ (n + d) ++ _ = _
      rw [hC, List.append_assoc]; rfl
  obtain ⟨C, hC⟩ := e (m - n)
  rw [show n + (m - n) = m by omega] at hC
  rw [hC, upTo_all, blk_elP ha, List.take_left' ha]
theorem overB_ok {a : List Int} {n m : Nat} (ha : okF a = true) (hl : a.length = n * 32) (h : n ≤ m) (hb : m * 32 ≤ 1073741824) : okF (overB a (mkB m)) = true := by
  unfold overB
  rw [mkB_len, hl, Nat.mul_div_cancel _ (by decide), Nat.mul_div_cancel _ (by decide)]
  refine blk_okF (fun i hi => ?_) hb
  unfold upTo
  split
  · rename_i h1
    rw [elP_in hl h1]
    exact okF_el ha (i := i) (by omega)
  · rw [elP_in (mkB_len m) hi]
    have := (blk_el (g := fun j : Nat => mS 987 (j : Int)) (n := m) (fun j _ => mS_len _ _) m (Nat.le_refl _)).2 i hi
    show okB (elF (mkB m) i) = true
    unfold mkB
    rw [this]; exact okB_mS _ _
theorem mkI_len (n : Nat) : (mkI n).length = n := by unfold mkI; rw [List.length_map, List.length_range]
theorem overI_take (x y : List Int) (h : x.length ≤ y.length) : List.take x.length (overG x y) = x := by
  apply List.ext_getElem?
  intro i
  unfold overG fillG
  by_cases hi : i < x.length
  · rw [List.getElem?_take_of_lt hi, List.getElem?_mapIdx, List.getElem?_eq_getElem (show i < y.length by omega), List.getElem?_eq_getElem hi]
    simp [hi]
  · rw [List.getElem?_eq_none (by rw [List.length_take]; omega), List.getElem?_eq_none (by omega)]
theorem f4_true {a x ids : List Int} {d : Int} {n m : Nat} (ha : okF a = true) (hx : okB x = true) (hl : a.length = n * 32) (hm : ids.length = m) (hn : n ≤ 1048576) (hb : m ≤ 1048576) :
    f4_raw 0 a x d ids some = some [.v (.one (.bool true))] := by
  have ea : a.length / 32 = n := by omega
  have ra : nI (rowLen 32 a) = (n : Int) := by rw [rows32 ha, ea]
  have w1 : IntKind.i64.wrap ((n : Int) + 3) = ((n + 3 : Nat) : Int) := by rw [show (n : Int) + 3 = ((n + 3 : Nat) : Int) by omega]; exact wi64 (by omega)
  have w2 : IntKind.i64.wrap ((m : Int) + 3) = ((m + 3 : Nat) : Int) := by rw [show (m : Int) + 3 = ((m + 3 : Nat) : Int) by omega]; exact wi64 (by omega)
  have z1 : (zerosOf (mulE (Int.toNat ((n + 3 : Nat) : Int)) 32)).length = (n + 3) * 32 := zeros_len _
  have z2 : (zerosOf (mulE (Int.toNat ((m + 3 : Nat) : Int)) 1)).length = m + 3 := zeros_len _
  have d1 : (n + 3) * 32 / 32 = n + 3 := by omega
  have hO := overB_len (a := a) (m := n + 3) hl
  have hOr : rowLen 32 (overB a (mkB (n + 3))) = n + 3 := by show (overB a (mkB (n + 3))).length / 32 = _; rw [hO, d1]
  have hOk := overB_ok (m := n + 3) ha hl (by omega) (by omega)
  have hOt := overB_take (m := n + 3) hl (by omega)
  have hI : (overG ids (mkI (m + 3))).length = m + 3 := by rw [overG_length, mkI_len]
  have hIr : rowLen 1 (overG ids (mkI (m + 3))) = m + 3 := hI
  have hIt : List.take m (overG ids (mkI (m + 3))) = ids := by
    have := overI_take ids (mkI (m + 3)) (by rw [mkI_len]; omega)
    rw [hm] at this; exact this
  have b1 : (decide ((0 : Int) ≤ ((n + 3 : Nat) : Int)) && (decide (((n + 3 : Nat) : Int) ≤ ((n + 3 : Nat) : Int)) && (decide (((n + 3 : Nat) : Int) ≤ 281474976710656) && decide (((n + 3 : Nat) : Int) * 32 ≤ 281474976710656)))) = true := by
    simp only [Bool.and_eq_true, decide_eq_true_eq]; omega
  have b2 : (decide ((0 : Int) ≤ ((m + 3 : Nat) : Int)) && (decide (((m + 3 : Nat) : Int) ≤ ((m + 3 : Nat) : Int)) && (decide (((m + 3 : Nat) : Int) ≤ 281474976710656) && decide (((m + 3 : Nat) : Int) * 8 ≤ 281474976710656)))) = true := by
    simp only [Bool.and_eq_true, decide_eq_true_eq]; omega
  have k1 : okK (zerosOf (mulE (Int.toNat ((n + 3 : Nat) : Int)) 32)) 32 (n + 3) = true := okK_iff.2 ⟨z1, by omega⟩
  have k2 : okK a 32 n = true := okK_iff.2 ⟨hl, by omega⟩
  have k3 : okK (mkB (n + 3)) 32 (n + 3) = true := okK_iff.2 ⟨mkB_len _, by omega⟩
  have h1 : hiOk (some (n : Int)) (n + 3) = true := by
    show (decide ((0 : Int) ≤ (n : Int)) && decide ((n : Int) ≤ ((n + 3 : Nat) : Int))) = true
    rw [decide_eq_true (by omega), decide_eq_true (by omega)]; rfl
  have h2 : hiOk (some (m : Int)) (m + 3) = true := by
    show (decide ((0 : Int) ≤ (m : Int)) && decide ((m : Int) ≤ ((m + 3 : Nat) : Int))) = true
    rw [decide_eq_true (by omega), decide_eq_true (by omega)]; rfl
  have c1 : Go.Eng.sub (overB a (mkB (n + 3))) Off.z (mulE (Go.Eng.subN (hiNat (some (n : Int)) (n + 3)) none) 32) = a := hOt
  have c2 : Go.Eng.sub (overG ids (mkI (m + 3))) Off.z (mulE (Go.Eng.subN (hiNat (some (m : Int)) (m + 3)) none) 1) = ids := hIt
  have s1 : (Nat.ble ((n + 3) * 32) big48 && Nat.ble (n + 3) big48) = true := by
    rw [Bool.and_eq_true, Nat.ble_eq, Nat.ble_eq]; unfold big48; omega
  have s2 : (Nat.ble ((m + 3) * 8) big48 && Nat.ble (m + 3) big48) = true := by
    rw [Bool.and_eq_true, Nat.ble_eq, Nat.ble_eq]; unfold big48; omega
  have t1 : Nat.ble n (n + 3) = true := Nat.ble_eq_true_of_le (by omega)
  have t2 : Nat.ble m (m + 3) = true := Nat.ble_eq_true_of_le (by omega)
  have t3 : Nat.ble m 1073741823 = true := Nat.ble_eq_true_of_le (by omega)
  have t4 : Nat.ble (m + 3) 1073741823 = true := Nat.ble_eq_true_of_le (by omega)
  have t5 : Nat.ble (splitG a ids).length 1073741824 = true := by
    apply Nat.ble_eq_true_of_le
    unfold splitG
    rw [shG_len]; omega
  have mk1 : (mkB (n + 3)).length / 32 = n + 3 := by rw [mkB_len, d1]
  unfold f4_raw
  simp only [ra, rows1, hm, w1, w2, b1, b2, z1, z2, d1, ea, k1, k2, mk1, k3, t1, hOr, s1, h1, c1, mkI_len, t2, t3, t4, hI, hIr, s2, h2, c2, ha, hx, hOk, t5, decide_true, Bool.and_self, cond_true, Bool.not_true, cond_false, beq_self_eq_true]
  cases hd : decide (d ≥ 1) && decide (d ≤ 255) <;> simp only [cond_true, cond_false] <;> cases hi : decide (idsN ids = 0) <;> simp [hm, t3]
end Go.Proofs.YtogcijgklnfjjaaGreat

namespace Go.Proofs.YtogcijgklnfjjaaGreat
open Go Go.Eng Go.ChangeShapes Go.WideShapes Go.RowKit Go.ChangeAt
set_option maxRecDepth 100000

theorem contract4 (H : Type) (enc : TypeId × Value → H) (W : World) (base : Nat) (args : Array Value) (ds gs : List (DataW H)) (before : List MemPlace)
    (hval : ∀ (j : Nat) t v, Tryz.f4.params[j]? = some t → args[j]? = some v → Value.okWide Tryz.prog W .any base t v)
    (hW : DataW.Whole enc Tryz.prog Tryz.f4.params.toList Rows.shamirEvalsSpec.vars false W args.toList ds gs before) (hk : Rows.uptoSmall H (ds ++ gs) = true) :
    Calls Tryz.prog 4 args W fun e W' => ∃ v, e = .returned v ∧ Rows.shamirEvalsSpec.post enc Tryz.prog Tryz.f4 false true false false W args v W' := by
  have hW' := hW
  obtain ⟨p, q, hA, hV, rfl, hfz, hnd⟩ := hW
  obtain ⟨rfl, rfl⟩ := trodVars_none hV
  rw [Tryz.params4] at hA hval
  obtain ⟨v0, vs0, d0, ds0, p0, q0, hargs, rfl, rfl, h0, r0⟩ := trodAll_cons hA
  obtain ⟨v1, vs1, d1, ds1, p1, q1, rfl, rfl, rfl, h1, r1⟩ := trodAll_cons r0
  obtain ⟨v2, vs2, d2, ds2, p2, q2, rfl, rfl, rfl, h2, r2⟩ := trodAll_cons r1
  obtain ⟨v3, vs3, d3, ds3, p3, q3, rfl, rfl, rfl, h3, r3⟩ := trodAll_cons r2
  obtain ⟨rfl, rfl, rfl⟩ := trodAll_nil r3
  obtain rfl : args = #[v0, v1, v2, v3] := by cases args; simp_all
  have hb := bulk_bound hk
  simp only [List.append_nil, Rows.uptoBulkAll, Nat.add_zero] at hb
  obtain ⟨A0, n0, c0, rfl⟩ := okWide_slice Tryz.underlying40 (hval 0 40 v0 rfl rfl)
  obtain ⟨f0, h0⟩ := h0
  obtain ⟨x0, len0, cap0, Ad0, loc0, o01, o02, l0, o04, o05, o06, w0, o08⟩ := open_view (k := .u8) (es := 32) Tryz.underlying40 (by omega) (elSc H enc) h0
  have b0 : len0 ≤ Rows.uptoBulk d0 := bulk_slice o08
  obtain ⟨x1, rfl, l1, w1⟩ := open_arr Tryz.underlying54 Tryz.underlying5 (by kernel_rfl) (by kernel_rfl) (hval 1 54 v1 rfl rfl) h1
  obtain ⟨x2, rfl, rfl, rfl, w2⟩ := open_int Tryz.underlying3 (hval 2 3 v2 rfl rfl) h2
  obtain ⟨A3, n3, c3, rfl⟩ := okWide_slice Tryz.underlying41 (hval 3 41 v3 rfl rfl)
  obtain ⟨f3, h3⟩ := h3
  obtain ⟨x3, len3, cap3, Ad3, loc3, o31, o32, l3, o34, o35, o36, w3, o38⟩ := open_view (k := .i64) (es := 1) Tryz.underlying41 (by omega) (elInt H enc) h3
  have b3 : len3 ≤ Rows.uptoBulk d3 := bulk_slice o38
  have hs : Sim W { blk := fun _ => False, loc := ({ loc := locOf [(0, loc0), (3, loc3)], tot := fun _ => 0 } : Rho).loc, tot := ({ loc := locOf [(0, loc0), (3, loc3)], tot := fun _ => 0 } : Rho).tot, sh := (start4 81 x0 x1 x2 x3).S, out := ({ loc := locOf [(0, loc0), (3, loc3)], tot := fun _ => 0 } : Rho).out } ({ loc := locOf [(0, loc0), (3, loc3)], tot := fun _ => 0 } : Rho) (start4 81 x0 x1 x2 x3) { tmps := #[.slice A0 n0 c0, .agg (x1.map (Value.int .u8)).toArray, .int .i64 x2, .slice A3 n3 c3] ++ Array.replicate (81 - 4) undef, defers := [] } W := by
    refine sim_startD (s0 := start4 81 x0 x1 x2 x3) (ρ := { loc := locOf [(0, loc0), (3, loc3)], tot := fun _ => 0 }) (args := #[.slice A0 n0 c0, .agg (x1.map (Value.int .u8)).toArray, .int .i64 x2, .slice A3 n3 c3]) (n := 81) (avs := [.s (.one (.own 0)), .s (.one (.ints .u8 32 x1)), .s (.one (.int .i64 x2)), .s (.one (.own 3))]) rfl (by simp) rfl ?_ ?_ ?_ (fun b hb => hb.elim) ⟨(show RelAt ({ loc := locOf [(0, loc0), (3, loc3)], tot := fun _ => 0 } : Rho) (start4 81 x0 x1 x2 x3).S (.own 0) [Value.slice A0 n0 c0] from rel_own rfl o01 o02 l0 o05 (by omega) rfl), ⟨rfl, l1⟩, rfl, (show RelAt ({ loc := locOf [(0, loc0), (3, loc3)], tot := fun _ => 0 } : Rho) (start4 81 x0 x1 x2 x3).S (.own 3) [Value.slice A3 n3 c3] from rel_own rfl o31 o32 l3 o35 (by omega) rfl), trivial⟩
    · simp [start4, Nodup', putNames]
    · intro j it hi
      simp only [start4, AS.I, findI_cons] at hi
      split at hi
      · rename_i hj; subst hj; injection hi with hi; subst hi
        exact ⟨rfl, ⟨by omega, trivial⟩, ⟨len0, l0⟩, o04⟩
      ·
        split at hi
        · rename_i hj; subst hj; injection hi with hi; subst hi
          exact ⟨rfl, ⟨by omega, trivial⟩, ⟨len3, l3⟩, o34⟩
        ·
          simp [findI] at hi
    · intro j p hp
      simp only [locOf] at hp
      split at hp
      · exact o06 p hp
      ·
        split at hp
        · exact o36 p hp
        ·
          cases hp
  have he := f4_true (d := x2) (okF_row (by omega) l0 w0) (okB_row l1 w1) l0 rfl (by omega) (by omega : x3.length ≤ 1048576)
  rw [← f4_raw_eq] at he
  refine (law_calls thOk GE4_ok mixed ok4 (f4_loops _ GE4_ok) (fun _ => id) hs he).mono fun e W' ⟨h1, h2, h3, h4⟩ => ?_
  exact ⟨_, h1, post_of_law laidOut (by kernel_rfl) Tryz.underlying4 rfl (by rw [Tryz.params4]; intro t ht; simp only [List.mem_cons, List.not_mem_nil, or_false] at ht; rcases ht with rfl | rfl | rfl | rfl <;> exact ⟨by kernel_rfl, by decide +kernel⟩) ⟨rfl, rfl, rfl⟩ hW' h2 h3 h4⟩

theorem lifted4 (os : Os) (started : os.Started) (H : Type) (enc : TypeId × Value → H) (F : Stop.Interp) :
    ReturnsInHanded {} Tryz.checked os 4 .any ((Rows.OpenSpec.upto Rows.shamirEvalsSpec).pre6 enc Tryz.prog Tryz.f4 Rows.shamirEvalsUptoRow.domain false) (((Rows.OpenSpec.upto Rows.shamirEvalsSpec).at F).post enc Tryz.prog Tryz.f4 false true false false) := by
  refine returnsInHanded_of_cond (C := Tryz.checked) (s := Rows.OpenSpec.upto Rows.shamirEvalsSpec) (k := Rows.uptoSmall) rfl own0 started (by kernel_rfl) Tryz.func4
    (OpenSpec.witness (enc := enc) (C := Tryz.checked) (s := Rows.OpenSpec.upto Rows.shamirEvalsSpec) (k := Rows.uptoSmall) rfl false ⟨#[], #[.slice none 0 0, .agg (Array.mk (List.replicate 32 (Value.int .u8 0))), .int .i64 0, .slice none 0 0], []⟩ 8 (by kernel_rfl) (by kernel_rfl) (by kernel_rfl)
      (x := ([.nil, .agg (List.replicate 32 (.lit (.int .u8 0))), .lit (.int .i64 0), .nil], [], [])) (by kernel_rfl) rfl (by kernel_rfl)) ?_
  intro W base args ds gs before hval hW _ hk _
  exact contract4 H enc W base args ds gs before hval hW hk

theorem over4 : Rows.shamirEvalsUptoRow.holds Tryz.pinned (Rows.OpenSpec.upto Rows.shamirEvalsSpec) :=
  OpenClaim.holds_of_cond 4 Tryz.f4 rfl rfl rfl rfl rfl rfl rfl ⟨rfl, rfl, rfl, rfl, rfl⟩ rfl rfl rfl rfl rfl (by kernel_rfl) Tryz.func4 (by kernel_rfl)
    (of_decide_eq_true (by kernel_rfl)) (by unfold Func.isWrapper; first | (rw [if_pos (by decide +kernel)]; kernel_rfl) | (rw [if_neg (by decide +kernel)]; exact ⟨rfl, rfl⟩))
    (fun os started H enc _ F => lifted4 os started H enc F)

theorem shamirEvals_holds : Rows.ShamirEvalsUptoSaid := over4
end Go.Proofs.YtogcijgklnfjjaaGreat

#print axioms Go.Proofs.YtogcijgklnfjjaaGreat.shamirEvals_holds
