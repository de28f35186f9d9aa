/- A part of the proof: SealCounts: for any key, number and texts whose data stay within 1,048,576: the boxes of a sealer have numbers that rise by one, each opens by its number, and behind the last number there is none. -/
import Derived.Test.YtiaddnmloonhgaaSealCountsUptoSaidT2
import Derived.Test.YtiaddnmloonhgaaRows
set_option linter.unusedVariables false
set_option linter.unusedSimpArgs false

/- What rime/seal.lowest comes to. MADE BY PROGRAM (wip/tools/mkfn.py, EngGen.lean). -/
namespace Go.Proofs.Ytiaddnmloonhgaa
open Go Go.Eng
set_option maxRecDepth 100000
set_option linter.unusedVariables false

def f42_0_sh : Shp := { n := 22, lo := 1, slots := [(3, .one (.int Go.IntKind.u64)), (6, .one (.fix (Go.Eng.At.own 0))), (7, .one (.int Go.IntKind.i64)), (8, .one (.int Go.IntKind.i64))], items := [(0, .view (.one Go.IntKind.u8) 1)] }
def f42_0_ex1 : Shp := { n := 22, lo := 1, slots := [(9, .one (.bool)), (3, .one (.int Go.IntKind.u64)), (6, .one (.fix (Go.Eng.At.own 0))), (7, .one (.int Go.IntKind.i64)), (8, .one (.int Go.IntKind.i64))], items := [(0, .view (.one Go.IntKind.u8) 1)] }
def f42_0_st {R : Type} (N : Nat) (self : Int → Int → Int → List Int → Option R) (k1 : Bool → Int → Int → Int → List Int → Option R) (x1 : Int) (x2 : Int) (x3 : Int) (x4 : List Int) : Option R :=
  bif Decidable.decide (x3 < x2) then
  bif Decidable.decide (0 ≤ x3) && Decidable.decide (x3 < ↑(Go.Eng.rowLen 1 x4)) then
    let v0 : Int := Go.IntKind.i64.wrap (8 * x3);
    bif Decidable.decide (0 ≤ v0) then
      let v1 : Int := Go.IntKind.u64.wrap (x4.getD (Go.Eng.mulE x3.toNat 1) 0);
      let v2 : Int := Go.Eng.shlI Go.IntKind.u64 v1 v0;
      let v3 : Int := Go.Eng.orI Go.IntKind.u64 x1 v2;
      let v4 : Int := Go.IntKind.i64.wrap (x3 + 1);
      self v3 x2 v4 x4
    else Option.none
  else Option.none
else k1 (Decidable.decide (x3 < x2)) x1 x2 x3 x4
def f42_0_lp {R : Type} (N : Nat) (k1 : Bool → Int → Int → Int → List Int → Option R) : Nat → Int → Int → Int → List Int → Option R
  | 0, _, _, _, _ => none
  | n + 1, x1, x2, x3, x4 => f42_0_st N (f42_0_lp N k1 n) k1 x1 x2 x3 x4
def f42_0_F (N : Nat) : (R : Type) → List Leaf → (X → AS → Option R) → Option R := fun _ ls K => match ls with
  | [.i x1, .i x2, .i x3, .l x4] => f42_0_lp N (fun y1 y2 y3 y4 y5 => K (Go.Eng.X.normal) (fill f42_0_ex1 [.b y1, .i y2, .i y3, .i y4, .l y5])) N x1 x2 x3 x4
  | _ => none
def f42_raw {R : Type} (N : Nat) (xs : List Int) (k : List DV → Option R) : Option R :=
 f42_0_lp N (fun w0_1 w0_2 w0_3 w0_4 w0_5 => k [Go.Eng.DV.v (Go.Eng.SV.one (Go.Eng.At.int Go.IntKind.u64 w0_2))]) N 0 (↑(Go.Eng.rowLen 1 xs)) 0 xs


noncomputable def E42 (N : Nat) : Env := { Θ := Th, Γ := [], K := K42, ν := N42, fuel := 0, lp := [(0, mkL N42_0 f42_0_sh (f42_0_F N))] }

theorem f42_0_st_eq {R : Type} (N : Nat) (K : X → AS → Option R) (n : Nat) (x1 : Int) (x2 : Int) (x3 : Int) (x4 : List Int) : roundsOf (E42 N) N42_0 0 B42_0 K (n + 1) (fill f42_0_sh [.i x1, .i x2, .i x3, .l x4]) = f42_0_st N (fun x1 x2 x3 x4 => roundsOf (E42 N) N42_0 0 B42_0 K n (fill f42_0_sh [.i x1, .i x2, .i x3, .l x4])) (fun y1 y2 y3 y4 y5 => K (Go.Eng.X.normal) (fill f42_0_ex1 [.b y1, .i y2, .i y3, .i y4, .l y5])) x1 x2 x3 x4 := by kernel_rfl
theorem f42_0_lp_eq {R : Type} (N : Nat) (K : X → AS → Option R) : ∀ (n : Nat) (x1 : Int) (x2 : Int) (x3 : Int) (x4 : List Int), roundsOf (E42 N) N42_0 0 B42_0 K n (fill f42_0_sh [.i x1, .i x2, .i x3, .l x4]) = f42_0_lp N (fun y1 y2 y3 y4 y5 => K (Go.Eng.X.normal) (fill f42_0_ex1 [.b y1, .i y2, .i y3, .i y4, .l y5])) n x1 x2 x3 x4
  | 0, _, _, _, _ => rfl
  | n + 1, x1, x2, x3, x4 => by
    rw [f42_0_st_eq, f42_0_lp, show (fun x1 x2 x3 x4 => roundsOf (E42 N) N42_0 0 B42_0 K n (fill f42_0_sh [.i x1, .i x2, .i x3, .l x4])) = f42_0_lp N (fun y1 y2 y3 y4 y5 => K (Go.Eng.X.normal) (fill f42_0_ex1 [.b y1, .i y2, .i y3, .i y4, .l y5])) n from by funext x1 x2 x3 x4; exact f42_0_lp_eq N K n x1 x2 x3 x4]
theorem f42_0_ok (N : Nat) (hlp : LoopsOk Try.prog (E42 N).lp B42_0) (hΓ : CtxOk Try.prog (E42 N).Γ) : LoopOk Try.prog (mkL N42_0 f42_0_sh (f42_0_F N)) 0 B42_0 := by
  refine loopOk_of (E := E42 N) thOk hΓ mixed hlp ?_
  intro R ls K r h
  unfold f42_0_F at h
  split at h
  · exact ⟨N, by rw [f42_0_lp_eq]; exact h⟩
  · cases h

theorem lok42_0 (N : Nat) (hΓ : CtxOk Try.prog []) : LoopOk Try.prog (mkL N42_0 f42_0_sh (f42_0_F N)) 0 B42_0 := f42_0_ok N (loopsOk_of (l := []) (by kernel_rfl) trivial) hΓ
theorem f42_contract (N : Nat) (hΓ : CtxOk Try.prog []) : Contract Try.prog 42 { sig := S42, impl := fun _ ds k => call (E42 N) S42 22 B42 R42 ds k } :=
  call_contract (E := E42 N) thOk hΓ mixed ok42.look ok42.body ok42.n ok42.rv ok42.name rfl (by decide) (loopsOk_of (l := [(0, B42_0)]) (by kernel_rfl) (allOk_cons (L := mkL N42_0 f42_0_sh (f42_0_F N)) rfl (lok42_0 N hΓ) trivial))
theorem f42_raw_eq {R : Type} (N : Nat) (xs : List Int) (k : List DV → Option R) : call (E42 N) S42 22 B42 R42 [.lst (.one .u8) 1 xs] k = f42_raw N xs k := by kernel_rfl
end Go.Proofs.Ytiaddnmloonhgaa

/- What rime/seal.bytesOf comes to. MADE BY PROGRAM (wip/tools/mkfn.py, EngGen.lean). -/
namespace Go.Proofs.Ytiaddnmloonhgaa
open Go Go.Eng
set_option maxRecDepth 100000
set_option linter.unusedVariables false

def f44_0_sh : Shp := { n := 21, lo := 2, slots := [(0, .one (.int Go.IntKind.u64)), (5, .one (.fix (Go.Eng.At.own 1000005))), (7, .one (.int Go.IntKind.i64)), (8, .one (.int Go.IntKind.i64))], items := [(1000005, .row (.one Go.IntKind.u8) 1)] }
def f44_0_ex1 : Shp := { n := 21, lo := 2, slots := [(9, .one (.bool)), (0, .one (.int Go.IntKind.u64)), (5, .one (.fix (Go.Eng.At.own 1000005))), (7, .one (.int Go.IntKind.i64)), (8, .one (.int Go.IntKind.i64))], items := [(1000005, .row (.one Go.IntKind.u8) 1)] }
def f44_0_st {R : Type} (N : Nat) (self : Int → Int → Int → List Int → Option R) (k1 : Bool → Int → Int → Int → List Int → Option R) (x1 : Int) (x2 : Int) (x3 : Int) (x4 : List Int) : Option R :=
  bif Decidable.decide (x3 < x2) then
  let v0 : Int := Go.IntKind.i64.wrap (8 * x3);
  bif Decidable.decide (0 ≤ v0) then
    let v1 : Int := Go.Eng.shrI Go.IntKind.u64 x1 v0;
    let v2 : Int := Go.IntKind.u8.wrap v1;
    let v3 : List Int := (Go.Eng.zerosOf (1 * 1)).set 0 v2;
    bif ((2 * (Go.Eng.rowLen 1 x4 + Go.Eng.rowLen 1 v3) + 192) * 1).ble Go.Eng.big48 && (Go.Eng.rowLen 1 x4 + Go.Eng.rowLen 1 v3).ble Go.Eng.big48 then
      let v4 : Int := Go.IntKind.i64.wrap (x3 + 1);
      let v5 : List Int := x4 ++ v3;
      self x1 x2 v4 v5
    else Option.none
  else Option.none
else k1 (Decidable.decide (x3 < x2)) x1 x2 x3 x4
def f44_0_lp {R : Type} (N : Nat) (k1 : Bool → Int → Int → Int → List Int → Option R) : Nat → Int → Int → Int → List Int → Option R
  | 0, _, _, _, _ => none
  | n + 1, x1, x2, x3, x4 => f44_0_st N (f44_0_lp N k1 n) k1 x1 x2 x3 x4
def f44_0_F (N : Nat) : (R : Type) → List Leaf → (X → AS → Option R) → Option R := fun _ ls K => match ls with
  | [.i x1, .i x2, .i x3, .l x4] => f44_0_lp N (fun y1 y2 y3 y4 y5 => K (Go.Eng.X.normal) (fill f44_0_ex1 [.b y1, .i y2, .i y3, .i y4, .l y5])) N x1 x2 x3 x4
  | _ => none
def f44_raw {R : Type} (N : Nat) (n : Int) (size : Int) (k : List DV → Option R) : Option R :=
 f44_0_lp N (fun w0_1 w0_2 w0_3 w0_4 w0_5 => k [Go.Eng.DV.lst (.one Go.IntKind.u8) 1 w0_5]) N n size 0 []


noncomputable def E44 (N : Nat) : Env := { Θ := Th, Γ := [], K := K44, ν := N44, fuel := 0, lp := [(0, mkL N44_0 f44_0_sh (f44_0_F N))] }

theorem f44_0_st_eq {R : Type} (N : Nat) (K : X → AS → Option R) (n : Nat) (x1 : Int) (x2 : Int) (x3 : Int) (x4 : List Int) : roundsOf (E44 N) N44_0 0 B44_0 K (n + 1) (fill f44_0_sh [.i x1, .i x2, .i x3, .l x4]) = f44_0_st N (fun x1 x2 x3 x4 => roundsOf (E44 N) N44_0 0 B44_0 K n (fill f44_0_sh [.i x1, .i x2, .i x3, .l x4])) (fun y1 y2 y3 y4 y5 => K (Go.Eng.X.normal) (fill f44_0_ex1 [.b y1, .i y2, .i y3, .i y4, .l y5])) x1 x2 x3 x4 := by kernel_rfl
theorem f44_0_lp_eq {R : Type} (N : Nat) (K : X → AS → Option R) : ∀ (n : Nat) (x1 : Int) (x2 : Int) (x3 : Int) (x4 : List Int), roundsOf (E44 N) N44_0 0 B44_0 K n (fill f44_0_sh [.i x1, .i x2, .i x3, .l x4]) = f44_0_lp N (fun y1 y2 y3 y4 y5 => K (Go.Eng.X.normal) (fill f44_0_ex1 [.b y1, .i y2, .i y3, .i y4, .l y5])) n x1 x2 x3 x4
  | 0, _, _, _, _ => rfl
  | n + 1, x1, x2, x3, x4 => by
    rw [f44_0_st_eq, f44_0_lp, show (fun x1 x2 x3 x4 => roundsOf (E44 N) N44_0 0 B44_0 K n (fill f44_0_sh [.i x1, .i x2, .i x3, .l x4])) = f44_0_lp N (fun y1 y2 y3 y4 y5 => K (Go.Eng.X.normal) (fill f44_0_ex1 [.b y1, .i y2, .i y3, .i y4, .l y5])) n from by funext x1 x2 x3 x4; exact f44_0_lp_eq N K n x1 x2 x3 x4]
theorem f44_0_ok (N : Nat) (hlp : LoopsOk Try.prog (E44 N).lp B44_0) (hΓ : CtxOk Try.prog (E44 N).Γ) : LoopOk Try.prog (mkL N44_0 f44_0_sh (f44_0_F N)) 0 B44_0 := by
  refine loopOk_of (E := E44 N) thOk hΓ mixed hlp ?_
  intro R ls K r h
  unfold f44_0_F at h
  split at h
  · exact ⟨N, by rw [f44_0_lp_eq]; exact h⟩
  · cases h

theorem lok44_0 (N : Nat) (hΓ : CtxOk Try.prog []) : LoopOk Try.prog (mkL N44_0 f44_0_sh (f44_0_F N)) 0 B44_0 := f44_0_ok N (loopsOk_of (l := []) (by kernel_rfl) trivial) hΓ
theorem f44_contract (N : Nat) (hΓ : CtxOk Try.prog []) : Contract Try.prog 44 { sig := S44, impl := fun _ ds k => call (E44 N) S44 21 B44 R44 ds k } :=
  call_contract (E := E44 N) thOk hΓ mixed ok44.look ok44.body ok44.n ok44.rv ok44.name rfl (by decide) (loopsOk_of (l := [(0, B44_0)]) (by kernel_rfl) (allOk_cons (L := mkL N44_0 f44_0_sh (f44_0_F N)) rfl (lok44_0 N hΓ) trivial))
theorem f44_raw_eq {R : Type} (N : Nat) (n : Int) (size : Int) (k : List DV → Option R) : call (E44 N) S44 21 B44 R44 [.v (.one (.int .u64 n)), .v (.one (.int .i64 size))] k = f44_raw N n size k := by kernel_rfl
end Go.Proofs.Ytiaddnmloonhgaa

/- What math/bits.RotateLeft32 comes to. MADE BY PROGRAM (wip/tools/mkfn.py, EngGen.lean). -/
namespace Go.Proofs.Ytiaddnmloonhgaa
open Go Go.Eng
set_option maxRecDepth 100000
set_option linter.unusedVariables false

def f92_raw {R : Type} (N : Nat) (x : Int) (s : Int) (k : List DV → Option R) : Option R :=
 let v0 : Int := Go.IntKind.u64.wrap s;
let v1 : Int := Go.Eng.andI Go.IntKind.u64 v0 31;
let v2 : Int := Go.IntKind.u64.wrap (32 - v1);
bif Decidable.decide (0 ≤ v2) then
 let v3 : Int := Go.Eng.shlI Go.IntKind.u32 x v1;
 let v4 : Int := Go.Eng.shrI Go.IntKind.u32 x v2;
 let v5 : Int := Go.Eng.orI Go.IntKind.u32 v3 v4;
 k [Go.Eng.DV.v (Go.Eng.SV.one (Go.Eng.At.int Go.IntKind.u32 v5))]
else Option.none


noncomputable def E92 (N : Nat) : Env := { Θ := Th, Γ := [], K := K92, ν := N92, fuel := 0, lp := [] }


theorem f92_contract (N : Nat) (hΓ : CtxOk Try.prog []) : Contract Try.prog 92 { sig := S92, impl := fun _ ds k => call (E92 N) S92 17 B92 R92 ds k } :=
  call_contract (E := E92 N) thOk hΓ mixed ok92.look ok92.body ok92.n ok92.rv ok92.name rfl (by decide) (loopsOk_of (l := []) (by kernel_rfl) trivial)
theorem f92_raw_eq {R : Type} (N : Nat) (x : Int) (s : Int) (k : List DV → Option R) : call (E92 N) S92 17 B92 R92 [.v (.one (.int .u32 x)), .v (.one (.int .i64 s))] k = f92_raw N x s k := by kernel_rfl
end Go.Proofs.Ytiaddnmloonhgaa

/- What small functions come to, as the callers read it. -/
namespace Go.Proofs.Ytiaddnmloonhgaa
open Go Go.Eng
set_option maxRecDepth 100000

/-! ### RotateLeft32 -/

def rotl (x s : Int) : Int := orI .u32 (shlI .u32 x s) (shrI .u32 x (32 - s))

def I92 : (R : Type) → List DV → (List DV → Option R) → Option R := fun _ ds k => match ds with
  | [.v (.one (.int .u32 x)), .v (.one (.int .i64 s))] => cond (decide (0 ≤ s) && decide (s < 32)) (k [.v (.one (.int .u32 (rotl x s)))]) none
  | _ => none

theorem and31 : ∀ n : Fin 32, andI .u64 (IntKind.u64.wrap (n.val : Int)) 31 = (n.val : Int) ∧ IntKind.u64.wrap (32 - (n.val : Int)) = 32 - (n.val : Int) := by decide +kernel

theorem f92_spec {R : Type} (x s : Int) (k : List DV → Option R) (h : (decide (0 ≤ s) && decide (s < 32)) = true) : f92_raw 0 x s k = k [.v (.one (.int .u32 (rotl x s)))] := by
  simp only [Bool.and_eq_true, decide_eq_true_eq] at h
  obtain ⟨n, rfl⟩ : ∃ n : Nat, s = n := ⟨s.toNat, by omega⟩
  obtain ⟨h1, h2⟩ := and31 ⟨n, by omega⟩
  unfold f92_raw
  simp only [h1, h2]
  rw [show decide (0 ≤ 32 - (n : Int)) = true by simp; omega]
  rfl

theorem c92 : Contract Try.prog 92 { sig := S92, impl := I92 } := by
  refine Contract.refine fun R ds k r h => ⟨_, f92_contract 0 ctxOk_nil, ?_⟩
  unfold I92 at h
  split at h
  · rename_i x s
    rw [show call (E92 0) S92 17 B92 R92 _ k = _ from f92_raw_eq 0 x s k]
    cases hb : (decide (0 ≤ s) && decide (s < 32)) with
    | true => rw [hb] at h; rw [f92_spec x s k hb]; exact h
    | false => rw [hb] at h; cases h
  · cases h

def G43 : Ctx := [(92, { sig := S92, impl := I92 })]
theorem G43_ok : CtxOk Try.prog G43 := ctxOk_cons ok92 rfl c92 ctxOk_nil

end Go.Proofs.Ytiaddnmloonhgaa

/- What rime/seal.quarter comes to. MADE BY PROGRAM (wip/tools/mkfn.py, EngGen.lean). -/
namespace Go.Proofs.Ytiaddnmloonhgaa
open Go Go.Eng
set_option maxRecDepth 100000
set_option linter.unusedVariables false

def f43_raw {R : Type} (N : Nat) (xs : List Int) (a : Int) (b : Int) (c : Int) (d : Int) (k : List DV → Option R) : Option R :=
 bif Decidable.decide (0 ≤ a) && Decidable.decide (a < ↑16) then
 bif Decidable.decide (0 ≤ b) && Decidable.decide (b < ↑16) then
 bif Decidable.decide (0 ≤ a) && Decidable.decide (a < ↑16) then
 bif Decidable.decide (0 ≤ d) && Decidable.decide (d < ↑16) then
 bif Decidable.decide (0 ≤ a) && Decidable.decide (a < ↑16) then
 bif Decidable.decide (0 ≤ d) && Decidable.decide (d < ↑16) then
 bif Decidable.decide (0 ≤ c) && Decidable.decide (c < ↑16) then
 bif Decidable.decide (0 ≤ d) && Decidable.decide (d < ↑16) then
 bif Decidable.decide (0 ≤ c) && Decidable.decide (c < ↑16) then
 bif Decidable.decide (0 ≤ b) && Decidable.decide (b < ↑16) then
 bif Decidable.decide (0 ≤ c) && Decidable.decide (c < ↑16) then
 bif Decidable.decide (0 ≤ b) && Decidable.decide (b < ↑16) then
 bif Decidable.decide (0 ≤ a) && Decidable.decide (a < ↑16) then
 bif Decidable.decide (0 ≤ b) && Decidable.decide (b < ↑16) then
 bif Decidable.decide (0 ≤ a) && Decidable.decide (a < ↑16) then
 bif Decidable.decide (0 ≤ d) && Decidable.decide (d < ↑16) then
 bif Decidable.decide (0 ≤ a) && Decidable.decide (a < ↑16) then
 bif Decidable.decide (0 ≤ d) && Decidable.decide (d < ↑16) then
 bif Decidable.decide (0 ≤ c) && Decidable.decide (c < ↑16) then
 bif Decidable.decide (0 ≤ d) && Decidable.decide (d < ↑16) then
 bif Decidable.decide (0 ≤ c) && Decidable.decide (c < ↑16) then
 bif Decidable.decide (0 ≤ b) && Decidable.decide (b < ↑16) then
 bif Decidable.decide (0 ≤ c) && Decidable.decide (c < ↑16) then
 bif Decidable.decide (0 ≤ b) && Decidable.decide (b < ↑16) then
 let v0 : Int := Go.IntKind.u32.wrap (xs.getD (Go.Eng.mulE a.toNat 1) 0 + xs.getD (Go.Eng.mulE b.toNat 1) 0);
 let v1 : List Int := xs.set (Go.Eng.mulE a.toNat 1) v0;
 let v2 : Int := Go.Eng.xorI Go.IntKind.u32 (v1.getD (Go.Eng.mulE d.toNat 1) 0) (v1.getD (Go.Eng.mulE a.toNat 1) 0);
 let v3 : List Int := v1.set (Go.Eng.mulE d.toNat 1) (Go.Proofs.Ytiaddnmloonhgaa.rotl v2 16);
 let v4 : Int := Go.IntKind.u32.wrap (v3.getD (Go.Eng.mulE c.toNat 1) 0 + v3.getD (Go.Eng.mulE d.toNat 1) 0);
 let v5 : List Int := v3.set (Go.Eng.mulE c.toNat 1) v4;
 let v6 : Int := Go.Eng.xorI Go.IntKind.u32 (v5.getD (Go.Eng.mulE b.toNat 1) 0) (v5.getD (Go.Eng.mulE c.toNat 1) 0);
 let v7 : List Int := v5.set (Go.Eng.mulE b.toNat 1) (Go.Proofs.Ytiaddnmloonhgaa.rotl v6 12);
 let v8 : Int := Go.IntKind.u32.wrap (v7.getD (Go.Eng.mulE a.toNat 1) 0 + v7.getD (Go.Eng.mulE b.toNat 1) 0);
 let v9 : List Int := v7.set (Go.Eng.mulE a.toNat 1) v8;
 let v10 : Int := Go.Eng.xorI Go.IntKind.u32 (v9.getD (Go.Eng.mulE d.toNat 1) 0) (v9.getD (Go.Eng.mulE a.toNat 1) 0);
 let v11 : List Int := v9.set (Go.Eng.mulE d.toNat 1) (Go.Proofs.Ytiaddnmloonhgaa.rotl v10 8);
 let v12 : Int := Go.IntKind.u32.wrap (v11.getD (Go.Eng.mulE c.toNat 1) 0 + v11.getD (Go.Eng.mulE d.toNat 1) 0);
 let v13 : List Int := v11.set (Go.Eng.mulE c.toNat 1) v12;
 let v14 : Int := Go.Eng.xorI Go.IntKind.u32 (v13.getD (Go.Eng.mulE b.toNat 1) 0) (v13.getD (Go.Eng.mulE c.toNat 1) 0);
 let v15 : List Int := v13.set (Go.Eng.mulE b.toNat 1) (Go.Proofs.Ytiaddnmloonhgaa.rotl v14 7);
 k [Go.Eng.DV.obj [Go.Eng.At.ints Go.IntKind.u32 16 v15]]
 else Option.none
 else Option.none
 else Option.none
 else Option.none
 else Option.none
 else Option.none
 else Option.none
 else Option.none
 else Option.none
 else Option.none
 else Option.none
 else Option.none
 else Option.none
 else Option.none
 else Option.none
 else Option.none
 else Option.none
 else Option.none
 else Option.none
 else Option.none
 else Option.none
 else Option.none
 else Option.none
else Option.none


noncomputable def E43 (N : Nat) : Env := { Θ := Th, Γ := G43, K := K43, ν := N43, fuel := 0, lp := [] }


theorem f43_contract (N : Nat) (hΓ : CtxOk Try.prog G43) : Contract Try.prog 43 { sig := S43, impl := fun _ ds k => call (E43 N) S43 126 B43 R43 ds k } :=
  call_contract (E := E43 N) thOk hΓ mixed ok43.look ok43.body ok43.n ok43.rv ok43.name rfl (by decide) (loopsOk_of (l := []) (by kernel_rfl) trivial)
theorem f43_raw_eq {R : Type} (N : Nat) (xs : List Int) (a : Int) (b : Int) (c : Int) (d : Int) (k : List DV → Option R) : call (E43 N) S43 126 B43 R43 [.obj [.ints .u32 16 xs], .v (.one (.int .i64 a)), .v (.one (.int .i64 b)), .v (.one (.int .i64 c)), .v (.one (.int .i64 d))] k = f43_raw N xs a b c d k := by kernel_rfl
end Go.Proofs.Ytiaddnmloonhgaa

/- The functions beneath the block, as it reads them. -/
namespace Go.Proofs.Ytiaddnmloonhgaa
open Go Go.Eng
set_option maxRecDepth 100000

/-! ### lowest -/

def lowGo : List Int → Nat → Int → Int
  | [], _, n => n
  | x :: r, i, n => lowGo r (i + 1) (orI .u64 n (shlI .u64 (IntKind.u64.wrap x) (8 * i)))

def lowL (xs : List Int) : Int := lowGo xs 0 0

def I42 : (R : Type) → List DV → (List DV → Option R) → Option R := fun _ ds k => match ds with
  | [.lst (.one .u8) 1 xs] => cond (Nat.ble xs.length 1048576) (k [.v (.one (.int .u64 (lowL xs)))]) none
  | _ => none

theorem wrap64_small {n : Int} (h0 : 0 ≤ n) (h : n < 2 ^ 62) : IntKind.i64.wrap n = n := by
  unfold IntKind.wrap
  simp only [IntKind.bits, IntKind.signed]
  have : n % 2 ^ 64 = n := Int.emod_eq_of_lt h0 (by omega)
  simp only [this]
  rw [if_neg]
  simp; omega

theorem wrap64_nat {n : Nat} (h : n < 2 ^ 62) : IntKind.i64.wrap (n : Int) = n := wrap64_small (by omega) (by omega)

theorem drop_getD {xs : List Int} {i : Nat} (h : i < xs.length) : xs.drop i = xs.getD i 0 :: xs.drop (i + 1) := by
  rw [List.drop_eq_getElem_cons h, List.getD_eq_getElem?_getD, List.getElem?_eq_getElem h]; rfl

theorem mulE_one (n : Nat) : mulE n 1 = n := rfl
theorem rowLen_one (xs : List Int) : rowLen 1 xs = xs.length := rfl

theorem f42_loop {R : Type} {N : Nat} (k1 : Bool → Int → Int → Int → List Int → Option R) (xs : List Int) (hl : xs.length ≤ 1048576) :
    ∀ (m i : Nat) (acc : Int), i + m = xs.length → ∀ fuel, m < fuel → f42_0_lp N k1 fuel acc (xs.length : Int) (i : Int) xs = k1 false (lowGo (xs.drop i) i acc) (xs.length : Int) (xs.length : Int) xs := by
  intro m
  induction m with
  | zero =>
    intro i acc h fuel hf
    obtain ⟨f, rfl⟩ : ∃ f, fuel = f + 1 := ⟨fuel - 1, by omega⟩
    have : i = xs.length := by omega
    subst this
    show f42_0_st N (f42_0_lp N k1 f) k1 acc _ _ xs = _
    unfold f42_0_st
    have h1 : decide ((xs.length : Int) < (xs.length : Int)) = false := by simp
    simp only [h1, cond_false, List.drop_length, lowGo]
  | succ m ih =>
    intro i acc h fuel hf
    obtain ⟨f, rfl⟩ : ∃ f, fuel = f + 1 := ⟨fuel - 1, by omega⟩
    show f42_0_st N (f42_0_lp N k1 f) k1 acc _ _ xs = _
    unfold f42_0_st
    have h1 : decide ((i : Int) < (xs.length : Int)) = true := by simp; omega
    have h2 : decide ((0 : Int) ≤ (i : Int)) = true := by simp
    have h3 : IntKind.i64.wrap (8 * (i : Int)) = ((8 * i : Nat) : Int) := by rw [show 8 * (i : Int) = ((8 * i : Nat) : Int) by omega]; exact wrap64_nat (by omega)
    have h4 : IntKind.i64.wrap ((i : Int) + 1) = ((i + 1 : Nat) : Int) := by rw [show (i : Int) + 1 = ((i + 1 : Nat) : Int) by omega]; exact wrap64_nat (by omega)
    have h5 : decide ((0 : Int) ≤ ((8 * i : Nat) : Int)) = true := by simp; omega
    have h6 : (decide ((0 : Int) ≤ (i : Int)) && decide ((i : Int) < ((rowLen 1 xs : Nat) : Int))) = true := by rw [h2]; exact h1
    rw [h1, h6, h3, h4]
    simp only [h5, cond_true, mulE_one, Int.toNat_natCast]
    rw [ih (i + 1) _ (by omega) f (by omega), drop_getD (show i < xs.length by omega)]
    simp only [lowGo]
    rfl

theorem c42 : Contract Try.prog 42 { sig := S42, impl := I42 } := by
  refine Contract.refine fun R ds k r h => ?_
  unfold I42 at h
  split at h
  · rename_i xs
    refine ⟨_, f42_contract (xs.length + 1) ctxOk_nil, ?_⟩
    rw [f42_raw_eq]
    cases hb : Nat.ble xs.length 1048576 with
    | true =>
      rw [hb] at h
      unfold f42_raw
      have := f42_loop (N := xs.length + 1) (fun w0_1 w0_2 w0_3 w0_4 w0_5 => k [DV.v (SV.one (At.int IntKind.u64 w0_2))]) xs (Nat.le_of_ble_eq_true hb) xs.length 0 0 (by omega) (xs.length + 1) (by omega)
      exact this.trans h
    | false => rw [hb] at h; cases h
  · exact (Option.some_ne_none _ h.symm).elim

/-! ### bytesOf -/

def bytesGo (n : Int) : Nat → Nat → List Int
  | 0, _ => []
  | m + 1, i => IntKind.u8.wrap (shrI .u64 n (8 * i : Nat)) :: bytesGo n m (i + 1)

def bytesL (n : Int) (m : Nat) : List Int := bytesGo n m 0

def I44 : (R : Type) → List DV → (List DV → Option R) → Option R := fun _ ds k => match ds with
  | [.v (.one (.int .u64 n)), .v (.one (.int .i64 m))] => cond (decide (0 ≤ m) && decide (m ≤ 1048576)) (k [.lst (.one .u8) 1 (bytesL n m.toNat)]) none
  | _ => none

theorem f44_loop {R : Type} {N : Nat} (k1 : Bool → Int → Int → Int → List Int → Option R) (n : Int) (size : Nat) (hl : size ≤ 1048576) :
    ∀ (m i : Nat) (acc : List Int), i + m = size → acc.length = i → ∀ fuel, m < fuel → f44_0_lp N k1 fuel n (size : Int) (i : Int) acc = k1 false n (size : Int) (size : Int) (acc ++ bytesGo n m i) := by
  intro m
  induction m with
  | zero =>
    intro i acc h ha fuel hf
    obtain ⟨f, rfl⟩ : ∃ f, fuel = f + 1 := ⟨fuel - 1, by omega⟩
    have : i = size := by omega
    subst this
    show f44_0_st N (f44_0_lp N k1 f) k1 n _ _ acc = _
    unfold f44_0_st
    have h1 : decide ((i : Int) < (i : Int)) = false := by simp
    simp only [h1, cond_false, bytesGo, List.append_nil]
  | succ m ih =>
    intro i acc h ha fuel hf
    obtain ⟨f, rfl⟩ : ∃ f, fuel = f + 1 := ⟨fuel - 1, by omega⟩
    show f44_0_st N (f44_0_lp N k1 f) k1 n _ _ acc = _
    unfold f44_0_st
    have h1 : decide ((i : Int) < (size : Int)) = true := by simp; omega
    have h3 : IntKind.i64.wrap (8 * (i : Int)) = ((8 * i : Nat) : Int) := by rw [show 8 * (i : Int) = ((8 * i : Nat) : Int) by omega]; exact wrap64_nat (by omega)
    have h4 : IntKind.i64.wrap ((i : Int) + 1) = ((i + 1 : Nat) : Int) := by rw [show (i : Int) + 1 = ((i + 1 : Nat) : Int) by omega]; exact wrap64_nat (by omega)
    have h5 : decide ((0 : Int) ≤ ((8 * i : Nat) : Int)) = true := by simp; omega
    have h6 : ∀ y : Int, (zerosOf (1 * 1)).set 0 y = [y] := fun y => rfl
    have h7 : ∀ y : Int, (((2 * (rowLen 1 acc + rowLen 1 [y]) + 192) * 1).ble big48 && (rowLen 1 acc + rowLen 1 [y]).ble big48) = true := by
      intro y
      simp only [rowLen_one, List.length_singleton, ha, big48, Bool.and_eq_true, Nat.ble_eq]
      omega
    simp only [h1, h3, h4, h5, h6, h7, cond_true]
    rw [ih (i + 1) _ (by omega) (by simp [ha]) f (by omega)]
    simp [bytesGo]

theorem c44 : Contract Try.prog 44 { sig := S44, impl := I44 } := by
  refine Contract.refine fun R ds k r h => ?_
  unfold I44 at h
  split at h
  · rename_i n m
    refine ⟨_, f44_contract (m.toNat + 1) ctxOk_nil, ?_⟩
    rw [f44_raw_eq]
    cases hb : (decide (0 ≤ m) && decide (m ≤ 1048576)) with
    | true =>
      rw [hb] at h
      simp only [Bool.and_eq_true, decide_eq_true_eq] at hb
      obtain ⟨s, rfl⟩ : ∃ s : Nat, m = s := ⟨m.toNat, by omega⟩
      unfold f44_raw
      rw [Int.toNat_natCast]
      have := f44_loop (N := s + 1) (fun w0_1 w0_2 w0_3 w0_4 w0_5 => k [DV.lst (.one IntKind.u8) 1 w0_5]) n s (by omega) s 0 [] (by omega) rfl (s + 1) (by omega)
      exact this.trans h
    | false => rw [hb] at h; cases h
  · cases h

/-! ### quarter -/

def quarterL (xs : List Int) (a b c d : Nat) : List Int :=
  let v1 := xs.set a (IntKind.u32.wrap (xs.getD a 0 + xs.getD b 0))
  let v3 := v1.set d (rotl (xorI .u32 (v1.getD d 0) (v1.getD a 0)) 16)
  let v5 := v3.set c (IntKind.u32.wrap (v3.getD c 0 + v3.getD d 0))
  let v7 := v5.set b (rotl (xorI .u32 (v5.getD b 0) (v5.getD c 0)) 12)
  let v9 := v7.set a (IntKind.u32.wrap (v7.getD a 0 + v7.getD b 0))
  let v11 := v9.set d (rotl (xorI .u32 (v9.getD d 0) (v9.getD a 0)) 8)
  let v13 := v11.set c (IntKind.u32.wrap (v11.getD c 0 + v11.getD d 0))
  v13.set b (rotl (xorI .u32 (v13.getD b 0) (v13.getD c 0)) 7)

def in16 (a : Int) : Bool := decide (0 ≤ a) && decide (a < 16)

def I43 : (R : Type) → List DV → (List DV → Option R) → Option R := fun _ ds k => match ds with
  | [.obj [.ints .u32 16 xs], .v (.one (.int .i64 a)), .v (.one (.int .i64 b)), .v (.one (.int .i64 c)), .v (.one (.int .i64 d))] =>
    cond (in16 a && (in16 b && (in16 c && in16 d))) (k [.obj [.ints .u32 16 (quarterL xs a.toNat b.toNat c.toNat d.toNat)]]) none
  | _ => none

theorem c43 : Contract Try.prog 43 { sig := S43, impl := I43 } := by
  refine Contract.refine fun R ds k r h => ⟨_, f43_contract 0 G43_ok, ?_⟩
  unfold I43 at h
  split at h
  · rename_i xs a b c d
    rw [f43_raw_eq]
    cases hb : (in16 a && (in16 b && (in16 c && in16 d))) with
    | true =>
      rw [hb] at h
      simp only [Bool.and_eq_true] at hb
      obtain ⟨ha, hb, hc, hd⟩ := hb
      have ha : (decide (0 ≤ a) && decide (a < 16)) = true := ha
      have hb : (decide (0 ≤ b) && decide (b < 16)) = true := hb
      have hc : (decide (0 ≤ c) && decide (c < 16)) = true := hc
      have hd : (decide (0 ≤ d) && decide (d < 16)) = true := hd
      unfold f43_raw
      rw [ha, hb, hc, hd]
      exact h
    | false => rw [hb] at h; cases h
  · cases h

end Go.Proofs.Ytiaddnmloonhgaa
namespace Go.Proofs.Ytiaddnmloonhgaa
open Go Go.Eng

def G18 : Ctx := [(42, { sig := S42, impl := I42 }), (43, { sig := S43, impl := I43 }), (44, { sig := S44, impl := I44 })]
theorem G18_ok : CtxOk Try.prog G18 := ctxOk_cons ok42 rfl c42 (ctxOk_cons ok43 rfl c43 (ctxOk_cons ok44 rfl c44 ctxOk_nil))

end Go.Proofs.Ytiaddnmloonhgaa

/- What (rime/seal.big).carried comes to. MADE BY PROGRAM (wip/tools/mkfn.py, EngGen.lean). -/
namespace Go.Proofs.Ytiaddnmloonhgaa
open Go Go.Eng
set_option maxRecDepth 100000
set_option linter.unusedVariables false

def f94_0_sh : Shp := { n := 31, lo := 1, slots := [(1, .one (.fix (Go.Eng.At.ptr 1 0 Go.Eng.Off.z 5))), (2, .one (.fix (Go.Eng.At.ptr 2 0 Go.Eng.Off.z 5))), (3, .one (.int Go.IntKind.u64)), (5, .one (.int Go.IntKind.i64))], items := [(1, .obj [.ints Go.IntKind.u64 5]), (2, .obj [.ints Go.IntKind.u64 5])] }
def f94_0_ex1 : Shp := { n := 31, lo := 1, slots := [(6, .one (.bool)), (1, .one (.fix (Go.Eng.At.ptr 1 0 Go.Eng.Off.z 5))), (2, .one (.fix (Go.Eng.At.ptr 2 0 Go.Eng.Off.z 5))), (3, .one (.int Go.IntKind.u64)), (5, .one (.int Go.IntKind.i64))], items := [(1, .obj [.ints Go.IntKind.u64 5]), (2, .obj [.ints Go.IntKind.u64 5])] }
def f94_0_st {R : Type} (N : Nat) (self : Int → Int → List Int → List Int → Option R) (k1 : Bool → Int → Int → List Int → List Int → Option R) (x1 : Int) (x2 : Int) (x3 : List Int) (x4 : List Int) : Option R :=
  bif Decidable.decide (x2 < 5) then
  bif Decidable.decide (0 ≤ x2) && Decidable.decide (x2 < ↑5) then
    bif Decidable.decide (0 ≤ x2) && Decidable.decide (x2 < ↑5) then
      bif Decidable.decide (0 ≤ x2) && Decidable.decide (x2 < ↑5) then
        bif Decidable.decide (0 ≤ x2) && Decidable.decide (x2 < ↑5) then
          bif Decidable.decide (0 ≤ x2) && Decidable.decide (x2 < ↑5) then
            let v0 : Int := Go.IntKind.u64.wrap (x3.getD (Go.Eng.mulE x2.toNat 1) 0 + x1);
            let v1 : List Int := x3.set (Go.Eng.mulE x2.toNat 1) v0;
            let v2 : Int := Go.Eng.shrI Go.IntKind.u64 (v1.getD (Go.Eng.mulE x2.toNat 1) 0) 26;
            let v3 : Int := Go.IntKind.i64.wrap (x2 + 1);
            let v4 : Int := Go.Eng.andI Go.IntKind.u64 (v1.getD (Go.Eng.mulE x2.toNat 1) 0) 67108863;
            let v5 : List Int := v1.set (Go.Eng.mulE x2.toNat 1) v4;
            self v2 v3 v5 x4
          else Option.none
        else Option.none
      else Option.none
    else Option.none
  else Option.none
else k1 (Decidable.decide (x2 < 5)) x1 x2 x3 x4
def f94_0_lp {R : Type} (N : Nat) (k1 : Bool → Int → Int → List Int → List Int → Option R) : Nat → Int → Int → List Int → List Int → Option R
  | 0, _, _, _, _ => none
  | n + 1, x1, x2, x3, x4 => f94_0_st N (f94_0_lp N k1 n) k1 x1 x2 x3 x4
def f94_0_F (N : Nat) : (R : Type) → List Leaf → (X → AS → Option R) → Option R := fun _ ls K => match ls with
  | [.i x1, .i x2, .l x3, .l x4] => f94_0_lp N (fun y1 y2 y3 y4 y5 => K (Go.Eng.X.normal) (fill f94_0_ex1 [.b y1, .i y2, .i y3, .l y4, .l y5])) N x1 x2 x3 x4
  | _ => none
def f94_raw {R : Type} (N : Nat) (a : List Int) (k : List DV → Option R) : Option R :=
 f94_0_lp N
 (fun w0_1 w0_2 w0_3 w0_4 w0_5 =>
 let v1 : Int := Go.IntKind.u64.wrap (5 * w0_2);
 let v2 : Int := Go.IntKind.u64.wrap (w0_4.getD (Go.Eng.mulE (Int.toNat 0) 1) 0 + v1);
 let v3 : List Int := w0_4.set (Go.Eng.mulE (Int.toNat 0) 1) v2;
 k [Go.Eng.DV.v (Go.Eng.SV.one (Go.Eng.At.ints Go.IntKind.u64 5 v3))])
 N 0 0 a (List.replicate 5 0)


noncomputable def E94 (N : Nat) : Env := { Θ := Th, Γ := [], K := K94, ν := N94, fuel := 0, lp := [(0, mkL N94_0 f94_0_sh (f94_0_F N))] }

theorem f94_0_st_eq {R : Type} (N : Nat) (K : X → AS → Option R) (n : Nat) (x1 : Int) (x2 : Int) (x3 : List Int) (x4 : List Int) : roundsOf (E94 N) N94_0 0 B94_0 K (n + 1) (fill f94_0_sh [.i x1, .i x2, .l x3, .l x4]) = f94_0_st N (fun x1 x2 x3 x4 => roundsOf (E94 N) N94_0 0 B94_0 K n (fill f94_0_sh [.i x1, .i x2, .l x3, .l x4])) (fun y1 y2 y3 y4 y5 => K (Go.Eng.X.normal) (fill f94_0_ex1 [.b y1, .i y2, .i y3, .l y4, .l y5])) x1 x2 x3 x4 := by kernel_rfl
theorem f94_0_lp_eq {R : Type} (N : Nat) (K : X → AS → Option R) : ∀ (n : Nat) (x1 : Int) (x2 : Int) (x3 : List Int) (x4 : List Int), roundsOf (E94 N) N94_0 0 B94_0 K n (fill f94_0_sh [.i x1, .i x2, .l x3, .l x4]) = f94_0_lp N (fun y1 y2 y3 y4 y5 => K (Go.Eng.X.normal) (fill f94_0_ex1 [.b y1, .i y2, .i y3, .l y4, .l y5])) n x1 x2 x3 x4
  | 0, _, _, _, _ => rfl
  | n + 1, x1, x2, x3, x4 => by
    rw [f94_0_st_eq, f94_0_lp, show (fun x1 x2 x3 x4 => roundsOf (E94 N) N94_0 0 B94_0 K n (fill f94_0_sh [.i x1, .i x2, .l x3, .l x4])) = f94_0_lp N (fun y1 y2 y3 y4 y5 => K (Go.Eng.X.normal) (fill f94_0_ex1 [.b y1, .i y2, .i y3, .l y4, .l y5])) n from by funext x1 x2 x3 x4; exact f94_0_lp_eq N K n x1 x2 x3 x4]
theorem f94_0_ok (N : Nat) (hlp : LoopsOk Try.prog (E94 N).lp B94_0) (hΓ : CtxOk Try.prog (E94 N).Γ) : LoopOk Try.prog (mkL N94_0 f94_0_sh (f94_0_F N)) 0 B94_0 := by
  refine loopOk_of (E := E94 N) thOk hΓ mixed hlp ?_
  intro R ls K r h
  unfold f94_0_F at h
  split at h
  · exact ⟨N, by rw [f94_0_lp_eq]; exact h⟩
  · cases h

theorem lok94_0 (N : Nat) (hΓ : CtxOk Try.prog []) : LoopOk Try.prog (mkL N94_0 f94_0_sh (f94_0_F N)) 0 B94_0 := f94_0_ok N (loopsOk_of (l := []) (by kernel_rfl) trivial) hΓ
theorem f94_contract (N : Nat) (hΓ : CtxOk Try.prog []) : Contract Try.prog 94 { sig := S94, impl := fun _ ds k => call (E94 N) S94 31 B94 R94 ds k } :=
  call_contract (E := E94 N) thOk hΓ mixed ok94.look ok94.body ok94.n ok94.rv ok94.name rfl (by decide) (loopsOk_of (l := [(0, B94_0)]) (by kernel_rfl) (allOk_cons (L := mkL N94_0 f94_0_sh (f94_0_F N)) rfl (lok94_0 N hΓ) trivial))
theorem f94_raw_eq {R : Type} (N : Nat) (a : List Int) (k : List DV → Option R) : call (E94 N) S94 31 B94 R94 [.v (.one (.ints .u64 5 a))] k = f94_raw N a k := by kernel_rfl
end Go.Proofs.Ytiaddnmloonhgaa

/- What rime/seal.limbs comes to. MADE BY PROGRAM (wip/tools/mkfn.py, EngGen.lean). -/
namespace Go.Proofs.Ytiaddnmloonhgaa
open Go Go.Eng
set_option maxRecDepth 100000
set_option linter.unusedVariables false

def f61_0_sh : Shp := { n := 32, lo := 1, slots := [(1, .one (.fix (At.ptr 1 0 Off.z 17))), (2, .one (.fix (At.ptr 2 0 Off.z 5))), (3, .one (.fix (At.ptr 3 0 Off.z 5))), (5, .one (.int IntKind.i64))], items := [(1, .obj [.ints IntKind.u8 17]), (2, .obj [.ints IntKind.u64 5]), (3, .obj [.ints IntKind.u64 5])] }
def f61_0_ex1 : Shp := { n := 32, lo := 1, slots := [(6, .one (.bool)), (1, .one (.fix (At.ptr 1 0 Off.z 17))), (2, .one (.fix (At.ptr 2 0 Off.z 5))), (3, .one (.fix (At.ptr 3 0 Off.z 5))), (5, .one (.int IntKind.i64))], items := [(1, .obj [.ints IntKind.u8 17]), (2, .obj [.ints IntKind.u64 5]), (3, .obj [.ints IntKind.u64 5])] }
def f61_0_st {R : Type} (N : Nat) (self : Int → List Int → List Int → List Int → Option R) (k1 : Bool → Int → List Int → List Int → List Int → Option R) (x1 : Int) (x2 : List Int) (x3 : List Int) (x4 : List Int) : Option R :=
 bif Decidable.decide (x1 < 136) then
 bif Decidable.decide (x1 < 130) then
 let v0 : Int := IntKind.i64.wrap (x1.tdiv 8);
 bif Decidable.decide (0 ≤ v0) && Decidable.decide (v0 < 17) then
 bif Decidable.decide (0 ≤ x1.tmod 8) then
 let v1 : Int := shrI IntKind.u8 (x2.getD (mulE v0.toNat 1) 0) (x1.tmod 8);
 let v2 : Int := andI IntKind.u8 v1 1;
 let v3 : Bool := bif Bool.true then v2 == 1 else Bool.false;
 bif v3 then
 let v4 : Int := IntKind.i64.wrap (x1.tdiv 26);
 bif Decidable.decide (0 ≤ v4) && Decidable.decide (v4 < 5) then
 bif Decidable.decide (0 ≤ x1.tmod 26) then
 bif Decidable.decide (0 ≤ v4) && Decidable.decide (v4 < 5) then
 let v5 : Int := IntKind.i64.wrap (x1 + 1);
 let v6 : Int := shlI IntKind.u64 1 (x1.tmod 26);
 let v7 : Int := orI IntKind.u64 (x4.getD (mulE v4.toNat 1) 0) v6;
 let v8 : List Int := x4.set (mulE v4.toNat 1) v7;
 self v5 x2 x3 v8
 else Option.none
 else Option.none
 else Option.none
 else
 let v9 : Int := IntKind.i64.wrap (x1 + 1);
 self v9 x2 x3 x4
 else Option.none
 else Option.none
 else
 let v10 : Int := IntKind.i64.wrap (x1 + 1);
 self v10 x2 x3 x4
else k1 (Decidable.decide (x1 < 136)) x1 x2 x3 x4
def f61_0_lp {R : Type} (N : Nat) (k1 : Bool → Int → List Int → List Int → List Int → Option R) : Nat → Int → List Int → List Int → List Int → Option R
 | 0, _, _, _, _ => none
 | n + 1, x1, x2, x3, x4 => f61_0_st N (f61_0_lp N k1 n) k1 x1 x2 x3 x4
def f61_0_F (N : Nat) : (R : Type) → List Leaf → (X → AS → Option R) → Option R := fun _ ls K => match ls with
 | [.i x1, .l x2, .l x3, .l x4] => f61_0_lp N (fun y1 y2 y3 y4 y5 => K (X.normal) (fill f61_0_ex1 [.b y1, .i y2, .l y3, .l y4, .l y5])) N x1 x2 x3 x4
 | _ => none
def f61_raw {R : Type} (N : Nat) (b : List Int) (k : List DV → Option R) : Option R :=
 f61_0_lp N (fun w0_1 w0_2 w0_3 w0_4 w0_5 => k [DV.v (SV.one (At.ints IntKind.u64 5 w0_5))]) N 0 b (List.replicate 5 0) (List.replicate 5 0)


noncomputable def E61 (N : Nat) : Env := { Θ := Th, Γ := [], K := K61, ν := N61, fuel := 0, lp := [(0, mkL N61_0 f61_0_sh (f61_0_F N))] }

theorem f61_0_st_eq {R : Type} (N : Nat) (K : X → AS → Option R) (n : Nat) (x1 : Int) (x2 : List Int) (x3 : List Int) (x4 : List Int) : roundsOf (E61 N) N61_0 0 B61_0 K (n + 1) (fill f61_0_sh [.i x1, .l x2, .l x3, .l x4]) = f61_0_st N (fun x1 x2 x3 x4 => roundsOf (E61 N) N61_0 0 B61_0 K n (fill f61_0_sh [.i x1, .l x2, .l x3, .l x4])) (fun y1 y2 y3 y4 y5 => K (X.normal) (fill f61_0_ex1 [.b y1, .i y2, .l y3, .l y4, .l y5])) x1 x2 x3 x4 := by kernel_rfl
theorem f61_0_lp_eq {R : Type} (N : Nat) (K : X → AS → Option R) : ∀ (n : Nat) (x1 : Int) (x2 : List Int) (x3 : List Int) (x4 : List Int), roundsOf (E61 N) N61_0 0 B61_0 K n (fill f61_0_sh [.i x1, .l x2, .l x3, .l x4]) = f61_0_lp N (fun y1 y2 y3 y4 y5 => K (X.normal) (fill f61_0_ex1 [.b y1, .i y2, .l y3, .l y4, .l y5])) n x1 x2 x3 x4
  | 0, _, _, _, _ => rfl
  | n + 1, x1, x2, x3, x4 => by
    rw [f61_0_st_eq, f61_0_lp, show (fun x1 x2 x3 x4 => roundsOf (E61 N) N61_0 0 B61_0 K n (fill f61_0_sh [.i x1, .l x2, .l x3, .l x4])) = f61_0_lp N (fun y1 y2 y3 y4 y5 => K (X.normal) (fill f61_0_ex1 [.b y1, .i y2, .l y3, .l y4, .l y5])) n from by funext x1 x2 x3 x4; exact f61_0_lp_eq N K n x1 x2 x3 x4]
theorem f61_0_ok (N : Nat) (hlp : LoopsOk Try.prog (E61 N).lp B61_0) (hΓ : CtxOk Try.prog (E61 N).Γ) : LoopOk Try.prog (mkL N61_0 f61_0_sh (f61_0_F N)) 0 B61_0 := by
  refine loopOk_of (E := E61 N) thOk hΓ mixed hlp ?_
  intro R ls K r h
  unfold f61_0_F at h
  split at h
  · exact ⟨N, by rw [f61_0_lp_eq]; exact h⟩
  · cases h

theorem lok61_0 (N : Nat) (hΓ : CtxOk Try.prog []) : LoopOk Try.prog (mkL N61_0 f61_0_sh (f61_0_F N)) 0 B61_0 := f61_0_ok N (loopsOk_of (l := []) (by kernel_rfl) trivial) hΓ
theorem f61_contract (N : Nat) (hΓ : CtxOk Try.prog []) : Contract Try.prog 61 { sig := S61, impl := fun _ ds k => call (E61 N) S61 32 B61 R61 ds k } :=
  call_contract (E := E61 N) thOk hΓ mixed ok61.look ok61.body ok61.n ok61.rv ok61.name rfl (by decide) (loopsOk_of (l := [(0, B61_0)]) (by kernel_rfl) (allOk_cons (L := mkL N61_0 f61_0_sh (f61_0_F N)) rfl (lok61_0 N hΓ) trivial))
theorem f61_raw_eq {R : Type} (N : Nat) (b : List Int) (k : List DV → Option R) : call (E61 N) S61 32 B61 R61 [.v (.one (.ints .u8 17 b))] k = f61_raw N b k := by kernel_rfl
end Go.Proofs.Ytiaddnmloonhgaa

/- Numbers in limbs, as their callers read them. -/
namespace Go.Proofs.Ytiaddnmloonhgaa
open Go Go.Eng
set_option maxRecDepth 100000

/-- the numbers of an answer that is one array -/
def answer (o : Option (List DV)) : List Int := match o with
  | some [.v (.one (.ints _ _ l))] => l
  | _ => []

/-! ### carried -/

def carriedL (a : List Int) : List Int := answer (f94_raw 6 a some)

theorem f94_spec {R : Type} (a : List Int) (k : List DV → Option R) : f94_raw 6 a k = k [.v (.one (.ints .u64 5 (carriedL a)))] := by kernel_rfl

def I94 : (R : Type) → List DV → (List DV → Option R) → Option R := fun _ ds k => match ds with
  | [.v (.one (.ints .u64 5 a))] => k [.v (.one (.ints .u64 5 (carriedL a)))]
  | _ => none

theorem c94 : Contract Try.prog 94 { sig := S94, impl := I94 } := by
  refine Contract.refine fun R ds k r h => ⟨_, f94_contract 6 ctxOk_nil, ?_⟩
  unfold I94 at h
  split at h
  · rw [f94_raw_eq, f94_spec]; exact h
  · cases h

def G62 : Ctx := [(94, { sig := S94, impl := I94 })]
theorem G62_ok : CtxOk Try.prog G62 := ctxOk_cons ok94 rfl c94 ctxOk_nil

end Go.Proofs.Ytiaddnmloonhgaa

/- What (rime/seal.big).times comes to. MADE BY PROGRAM (wip/tools/mkfn.py, EngGen.lean). -/
namespace Go.Proofs.Ytiaddnmloonhgaa
open Go Go.Eng
set_option maxRecDepth 100000
set_option linter.unusedVariables false

def f62_2_sh : Shp := { n := 53, lo := 2, slots := [(2, .one (.fix (Go.Eng.At.ptr 2 0 Go.Eng.Off.z 5))), (3, .one (.fix (Go.Eng.At.ptr 3 0 Go.Eng.Off.z 5))), (4, .one (.fix (Go.Eng.At.ptr 4 0 Go.Eng.Off.z 5))), (5, .one (.fix (Go.Eng.At.ptr 5 0 Go.Eng.Off.z 5))), (6, .one (.int Go.IntKind.i64)), (8, .one (.int Go.IntKind.i64)), (11, .one (.int Go.IntKind.i64))], items := [(2, .obj [.ints Go.IntKind.u64 5]), (3, .obj [.ints Go.IntKind.u64 5]), (4, .obj [.ints Go.IntKind.u64 5]), (5, .obj [.ints Go.IntKind.u64 5])] }
def f62_2_ex1 : Shp := { n := 53, lo := 2, slots := [(12, .one (.bool)), (2, .one (.fix (Go.Eng.At.ptr 2 0 Go.Eng.Off.z 5))), (3, .one (.fix (Go.Eng.At.ptr 3 0 Go.Eng.Off.z 5))), (4, .one (.fix (Go.Eng.At.ptr 4 0 Go.Eng.Off.z 5))), (5, .one (.fix (Go.Eng.At.ptr 5 0 Go.Eng.Off.z 5))), (6, .one (.int Go.IntKind.i64)), (8, .one (.int Go.IntKind.i64)), (11, .one (.int Go.IntKind.i64))], items := [(2, .obj [.ints Go.IntKind.u64 5]), (3, .obj [.ints Go.IntKind.u64 5]), (4, .obj [.ints Go.IntKind.u64 5]), (5, .obj [.ints Go.IntKind.u64 5])] }
def f62_2_st {R : Type} (N : Nat) (self : Int → Int → Int → List Int → List Int → List Int → List Int → Option R) (k1 : Bool → Int → Int → Int → List Int → List Int → List Int → List Int → Option R) (x1 : Int) (x2 : Int) (x3 : Int) (x4 : List Int) (x5 : List Int) (x6 : List Int) (x7 : List Int) : Option R :=
  bif Decidable.decide (x3 < 5) then
  let v0 : Int := Go.IntKind.i64.wrap (x1 + x3);
  bif Decidable.decide (v0 < 5) then
    bif Decidable.decide (0 ≤ v0) && Decidable.decide (v0 < ↑5) then
      bif Decidable.decide (0 ≤ x1) && Decidable.decide (x1 < ↑5) then
        bif Decidable.decide (0 ≤ x3) && Decidable.decide (x3 < ↑5) then
          bif Decidable.decide (0 ≤ v0) && Decidable.decide (v0 < ↑5) then
            let v1 : Int := Go.IntKind.i64.wrap (x3 + 1);
            let v2 : Int := Go.IntKind.u64.wrap (x4.getD (Go.Eng.mulE x1.toNat 1) 0 * x5.getD (Go.Eng.mulE x3.toNat 1) 0);
            let v3 : Int := Go.IntKind.u64.wrap (x7.getD (Go.Eng.mulE v0.toNat 1) 0 + v2);
            let v4 : List Int := x7.set (Go.Eng.mulE v0.toNat 1) v3;
            self x1 x2 v1 x4 x5 x6 v4
          else Option.none
        else Option.none
      else Option.none
    else Option.none
  else
    let v5 : Int := Go.IntKind.i64.wrap (v0 - 5);
    bif Decidable.decide (0 ≤ v5) && Decidable.decide (v5 < ↑5) then
      bif Decidable.decide (0 ≤ x1) && Decidable.decide (x1 < ↑5) then
        bif Decidable.decide (0 ≤ x3) && Decidable.decide (x3 < ↑5) then
          bif Decidable.decide (0 ≤ v5) && Decidable.decide (v5 < ↑5) then
            let v6 : Int := Go.IntKind.i64.wrap (x3 + 1);
            let v7 : Int := Go.IntKind.u64.wrap (5 * x4.getD (Go.Eng.mulE x1.toNat 1) 0);
            let v8 : Int := Go.IntKind.u64.wrap (v7 * x5.getD (Go.Eng.mulE x3.toNat 1) 0);
            let v9 : Int := Go.IntKind.u64.wrap (x7.getD (Go.Eng.mulE v5.toNat 1) 0 + v8);
            let v10 : List Int := x7.set (Go.Eng.mulE v5.toNat 1) v9;
            self x1 x2 v6 x4 x5 x6 v10
          else Option.none
        else Option.none
      else Option.none
    else Option.none
else k1 (Decidable.decide (x3 < 5)) x1 x2 x3 x4 x5 x6 x7
def f62_2_lp {R : Type} (N : Nat) (k1 : Bool → Int → Int → Int → List Int → List Int → List Int → List Int → Option R) : Nat → Int → Int → Int → List Int → List Int → List Int → List Int → Option R
  | 0, _, _, _, _, _, _, _ => none
  | n + 1, x1, x2, x3, x4, x5, x6, x7 => f62_2_st N (f62_2_lp N k1 n) k1 x1 x2 x3 x4 x5 x6 x7
def f62_2_F (N : Nat) : (R : Type) → List Leaf → (X → AS → Option R) → Option R := fun _ ls K => match ls with
  | [.i x1, .i x2, .i x3, .l x4, .l x5, .l x6, .l x7] => f62_2_lp N (fun y1 y2 y3 y4 y5 y6 y7 y8 => K (Go.Eng.X.normal) (fill f62_2_ex1 [.b y1, .i y2, .i y3, .i y4, .l y5, .l y6, .l y7, .l y8])) N x1 x2 x3 x4 x5 x6 x7
  | _ => none
def f62_0_sh : Shp := { n := 53, lo := 2, slots := [(2, .one (.fix (Go.Eng.At.ptr 2 0 Go.Eng.Off.z 5))), (3, .one (.fix (Go.Eng.At.ptr 3 0 Go.Eng.Off.z 5))), (4, .one (.fix (Go.Eng.At.ptr 4 0 Go.Eng.Off.z 5))), (5, .one (.fix (Go.Eng.At.ptr 5 0 Go.Eng.Off.z 5))), (8, .one (.int Go.IntKind.i64))], items := [(2, .obj [.ints Go.IntKind.u64 5]), (3, .obj [.ints Go.IntKind.u64 5]), (4, .obj [.ints Go.IntKind.u64 5]), (5, .obj [.ints Go.IntKind.u64 5])] }
def f62_0_ex1 : Shp := { n := 53, lo := 2, slots := [(9, .one (.bool)), (2, .one (.fix (Go.Eng.At.ptr 2 0 Go.Eng.Off.z 5))), (3, .one (.fix (Go.Eng.At.ptr 3 0 Go.Eng.Off.z 5))), (4, .one (.fix (Go.Eng.At.ptr 4 0 Go.Eng.Off.z 5))), (5, .one (.fix (Go.Eng.At.ptr 5 0 Go.Eng.Off.z 5))), (8, .one (.int Go.IntKind.i64))], items := [(2, .obj [.ints Go.IntKind.u64 5]), (3, .obj [.ints Go.IntKind.u64 5]), (4, .obj [.ints Go.IntKind.u64 5]), (5, .obj [.ints Go.IntKind.u64 5])] }
def f62_0_st {R : Type} (N : Nat) (self : Int → List Int → List Int → List Int → List Int → Option R) (k1 : Bool → Int → List Int → List Int → List Int → List Int → Option R) (x1 : Int) (x2 : List Int) (x3 : List Int) (x4 : List Int) (x5 : List Int) : Option R :=
  bif Decidable.decide (x1 < 5) then
  f62_2_lp N
    (fun w0_1 w0_2 w0_3 w0_4 w0_5 w0_6 w0_7 w0_8 =>
      let v1 : Int := Go.IntKind.i64.wrap (w0_3 + 1);
      self v1 w0_5 w0_6 w0_7 w0_8)
    N x1 x1 0 x2 x3 x4 x5
else k1 (Decidable.decide (x1 < 5)) x1 x2 x3 x4 x5
def f62_0_lp {R : Type} (N : Nat) (k1 : Bool → Int → List Int → List Int → List Int → List Int → Option R) : Nat → Int → List Int → List Int → List Int → List Int → Option R
  | 0, _, _, _, _, _ => none
  | n + 1, x1, x2, x3, x4, x5 => f62_0_st N (f62_0_lp N k1 n) k1 x1 x2 x3 x4 x5
def f62_0_F (N : Nat) : (R : Type) → List Leaf → (X → AS → Option R) → Option R := fun _ ls K => match ls with
  | [.i x1, .l x2, .l x3, .l x4, .l x5] => f62_0_lp N (fun y1 y2 y3 y4 y5 y6 => K (Go.Eng.X.normal) (fill f62_0_ex1 [.b y1, .i y2, .l y3, .l y4, .l y5, .l y6])) N x1 x2 x3 x4 x5
  | _ => none
def f62_raw {R : Type} (N : Nat) (a : List Int) (b : List Int) (k : List DV → Option R) : Option R :=
 f62_0_lp N (fun w0_1 w0_2 w0_3 w0_4 w0_5 w0_6 => k [Go.Eng.DV.v (Go.Eng.SV.one (Go.Eng.At.ints Go.IntKind.u64 5 (Go.Proofs.Ytiaddnmloonhgaa.carriedL (Go.Proofs.Ytiaddnmloonhgaa.carriedL w0_6))))]) N 0 a b (List.replicate 5 0) (List.replicate 5 0)


noncomputable def E62 (N : Nat) : Env := { Θ := Th, Γ := G62, K := K62, ν := N62, fuel := 0, lp := [(0, mkL N62_0 f62_0_sh (f62_0_F N)), (2, mkL N62_2 f62_2_sh (f62_2_F N))] }

theorem f62_2_st_eq {R : Type} (N : Nat) (K : X → AS → Option R) (n : Nat) (x1 : Int) (x2 : Int) (x3 : Int) (x4 : List Int) (x5 : List Int) (x6 : List Int) (x7 : List Int) : roundsOf (E62 N) N62_2 2 B62_2 K (n + 1) (fill f62_2_sh [.i x1, .i x2, .i x3, .l x4, .l x5, .l x6, .l x7]) = f62_2_st N (fun x1 x2 x3 x4 x5 x6 x7 => roundsOf (E62 N) N62_2 2 B62_2 K n (fill f62_2_sh [.i x1, .i x2, .i x3, .l x4, .l x5, .l x6, .l x7])) (fun y1 y2 y3 y4 y5 y6 y7 y8 => K (Go.Eng.X.normal) (fill f62_2_ex1 [.b y1, .i y2, .i y3, .i y4, .l y5, .l y6, .l y7, .l y8])) x1 x2 x3 x4 x5 x6 x7 := by kernel_rfl
theorem f62_2_lp_eq {R : Type} (N : Nat) (K : X → AS → Option R) : ∀ (n : Nat) (x1 : Int) (x2 : Int) (x3 : Int) (x4 : List Int) (x5 : List Int) (x6 : List Int) (x7 : List Int), roundsOf (E62 N) N62_2 2 B62_2 K n (fill f62_2_sh [.i x1, .i x2, .i x3, .l x4, .l x5, .l x6, .l x7]) = f62_2_lp N (fun y1 y2 y3 y4 y5 y6 y7 y8 => K (Go.Eng.X.normal) (fill f62_2_ex1 [.b y1, .i y2, .i y3, .i y4, .l y5, .l y6, .l y7, .l y8])) n x1 x2 x3 x4 x5 x6 x7
  | 0, _, _, _, _, _, _, _ => rfl
  | n + 1, x1, x2, x3, x4, x5, x6, x7 => by
    rw [f62_2_st_eq, f62_2_lp, show (fun x1 x2 x3 x4 x5 x6 x7 => roundsOf (E62 N) N62_2 2 B62_2 K n (fill f62_2_sh [.i x1, .i x2, .i x3, .l x4, .l x5, .l x6, .l x7])) = f62_2_lp N (fun y1 y2 y3 y4 y5 y6 y7 y8 => K (Go.Eng.X.normal) (fill f62_2_ex1 [.b y1, .i y2, .i y3, .i y4, .l y5, .l y6, .l y7, .l y8])) n from by funext x1 x2 x3 x4 x5 x6 x7; exact f62_2_lp_eq N K n x1 x2 x3 x4 x5 x6 x7]
theorem f62_2_ok (N : Nat) (hlp : LoopsOk Try.prog (E62 N).lp B62_2) (hΓ : CtxOk Try.prog (E62 N).Γ) : LoopOk Try.prog (mkL N62_2 f62_2_sh (f62_2_F N)) 2 B62_2 := by
  refine loopOk_of (E := E62 N) thOk hΓ mixed hlp ?_
  intro R ls K r h
  unfold f62_2_F at h
  split at h
  · exact ⟨N, by rw [f62_2_lp_eq]; exact h⟩
  · cases h
theorem f62_0_st_eq {R : Type} (N : Nat) (K : X → AS → Option R) (n : Nat) (x1 : Int) (x2 : List Int) (x3 : List Int) (x4 : List Int) (x5 : List Int) : roundsOf (E62 N) N62_0 0 B62_0 K (n + 1) (fill f62_0_sh [.i x1, .l x2, .l x3, .l x4, .l x5]) = f62_0_st N (fun x1 x2 x3 x4 x5 => roundsOf (E62 N) N62_0 0 B62_0 K n (fill f62_0_sh [.i x1, .l x2, .l x3, .l x4, .l x5])) (fun y1 y2 y3 y4 y5 y6 => K (Go.Eng.X.normal) (fill f62_0_ex1 [.b y1, .i y2, .l y3, .l y4, .l y5, .l y6])) x1 x2 x3 x4 x5 := by kernel_rfl
theorem f62_0_lp_eq {R : Type} (N : Nat) (K : X → AS → Option R) : ∀ (n : Nat) (x1 : Int) (x2 : List Int) (x3 : List Int) (x4 : List Int) (x5 : List Int), roundsOf (E62 N) N62_0 0 B62_0 K n (fill f62_0_sh [.i x1, .l x2, .l x3, .l x4, .l x5]) = f62_0_lp N (fun y1 y2 y3 y4 y5 y6 => K (Go.Eng.X.normal) (fill f62_0_ex1 [.b y1, .i y2, .l y3, .l y4, .l y5, .l y6])) n x1 x2 x3 x4 x5
  | 0, _, _, _, _, _ => rfl
  | n + 1, x1, x2, x3, x4, x5 => by
    rw [f62_0_st_eq, f62_0_lp, show (fun x1 x2 x3 x4 x5 => roundsOf (E62 N) N62_0 0 B62_0 K n (fill f62_0_sh [.i x1, .l x2, .l x3, .l x4, .l x5])) = f62_0_lp N (fun y1 y2 y3 y4 y5 y6 => K (Go.Eng.X.normal) (fill f62_0_ex1 [.b y1, .i y2, .l y3, .l y4, .l y5, .l y6])) n from by funext x1 x2 x3 x4 x5; exact f62_0_lp_eq N K n x1 x2 x3 x4 x5]
theorem f62_0_ok (N : Nat) (hlp : LoopsOk Try.prog (E62 N).lp B62_0) (hΓ : CtxOk Try.prog (E62 N).Γ) : LoopOk Try.prog (mkL N62_0 f62_0_sh (f62_0_F N)) 0 B62_0 := by
  refine loopOk_of (E := E62 N) thOk hΓ mixed hlp ?_
  intro R ls K r h
  unfold f62_0_F at h
  split at h
  · exact ⟨N, by rw [f62_0_lp_eq]; exact h⟩
  · cases h

theorem lok62_2 (N : Nat) (hΓ : CtxOk Try.prog G62) : LoopOk Try.prog (mkL N62_2 f62_2_sh (f62_2_F N)) 2 B62_2 := f62_2_ok N (loopsOk_of (l := []) (by kernel_rfl) trivial) hΓ
theorem lok62_0 (N : Nat) (hΓ : CtxOk Try.prog G62) : LoopOk Try.prog (mkL N62_0 f62_0_sh (f62_0_F N)) 0 B62_0 := f62_0_ok N (loopsOk_of (l := [(2, B62_2)]) (by kernel_rfl) (allOk_cons (L := mkL N62_2 f62_2_sh (f62_2_F N)) rfl (lok62_2 N hΓ) trivial)) hΓ
theorem f62_contract (N : Nat) (hΓ : CtxOk Try.prog G62) : Contract Try.prog 62 { sig := S62, impl := fun _ ds k => call (E62 N) S62 53 B62 R62 ds k } :=
  call_contract (E := E62 N) thOk hΓ mixed ok62.look ok62.body ok62.n ok62.rv ok62.name rfl (by decide) (loopsOk_of (l := [(0, B62_0), (2, B62_2)]) (by kernel_rfl) (allOk_cons (L := mkL N62_0 f62_0_sh (f62_0_F N)) rfl (lok62_0 N hΓ) (allOk_cons (L := mkL N62_2 f62_2_sh (f62_2_F N)) rfl (lok62_2 N hΓ) trivial)))
theorem f62_raw_eq {R : Type} (N : Nat) (a : List Int) (b : List Int) (k : List DV → Option R) : call (E62 N) S62 53 B62 R62 [.v (.one (.ints .u64 5 a)), .v (.one (.ints .u64 5 b))] k = f62_raw N a b k := by kernel_rfl
end Go.Proofs.Ytiaddnmloonhgaa

/- What (rime/seal.big).whole comes to. MADE BY PROGRAM (wip/tools/mkfn.py, EngGen.lean). -/
namespace Go.Proofs.Ytiaddnmloonhgaa
open Go Go.Eng
set_option maxRecDepth 100000
set_option linter.unusedVariables false

def f63_0_sh : Shp := { n := 37, lo := 1, slots := [(1, .one (.fix (Go.Eng.At.ptr 1 0 Go.Eng.Off.z 5))), (2, .one (.fix (Go.Eng.At.ptr 2 0 Go.Eng.Off.z 5))), (3, .one (.fix (Go.Eng.At.ptr 3 0 Go.Eng.Off.z 5))), (4, .one (.int Go.IntKind.u64)), (14, .one (.int Go.IntKind.i64))], items := [(1, .obj [.ints Go.IntKind.u64 5]), (2, .obj [.ints Go.IntKind.u64 5]), (3, .obj [.ints Go.IntKind.u64 5])] }
def f63_0_ex1 : Shp := { n := 37, lo := 1, slots := [(15, .one (.bool)), (1, .one (.fix (Go.Eng.At.ptr 1 0 Go.Eng.Off.z 5))), (2, .one (.fix (Go.Eng.At.ptr 2 0 Go.Eng.Off.z 5))), (3, .one (.fix (Go.Eng.At.ptr 3 0 Go.Eng.Off.z 5))), (4, .one (.int Go.IntKind.u64)), (14, .one (.int Go.IntKind.i64))], items := [(1, .obj [.ints Go.IntKind.u64 5]), (2, .obj [.ints Go.IntKind.u64 5]), (3, .obj [.ints Go.IntKind.u64 5])] }
def f63_0_st {R : Type} (N : Nat) (self : Int → Int → List Int → List Int → List Int → Option R) (k1 : Bool → Int → Int → List Int → List Int → List Int → Option R) (x1 : Int) (x2 : Int) (x3 : List Int) (x4 : List Int) (x5 : List Int) : Option R :=
  bif Decidable.decide (x2 < 5) then
  bif Decidable.decide (0 ≤ x2) && Decidable.decide (x2 < ↑5) then
    bif Decidable.decide (0 ≤ x2) && Decidable.decide (x2 < ↑5) then
      bif Decidable.decide (0 ≤ x2) && Decidable.decide (x2 < ↑5) then
        bif Decidable.decide (0 ≤ x2) && Decidable.decide (x2 < ↑5) then
          bif Decidable.decide (0 ≤ x2) && Decidable.decide (x2 < ↑5) then
            let v0 : Int := Go.IntKind.u64.wrap (x5.getD (Go.Eng.mulE x2.toNat 1) 0 + x1);
            let v1 : List Int := x5.set (Go.Eng.mulE x2.toNat 1) v0;
            let v2 : Int := Go.Eng.shrI Go.IntKind.u64 (v1.getD (Go.Eng.mulE x2.toNat 1) 0) 26;
            let v3 : Int := Go.IntKind.i64.wrap (x2 + 1);
            let v4 : Int := Go.Eng.andI Go.IntKind.u64 (v1.getD (Go.Eng.mulE x2.toNat 1) 0) 67108863;
            let v5 : List Int := v1.set (Go.Eng.mulE x2.toNat 1) v4;
            self v2 v3 x3 x4 v5
          else Option.none
        else Option.none
      else Option.none
    else Option.none
  else Option.none
else k1 (Decidable.decide (x2 < 5)) x1 x2 x3 x4 x5
def f63_0_lp {R : Type} (N : Nat) (k1 : Bool → Int → Int → List Int → List Int → List Int → Option R) : Nat → Int → Int → List Int → List Int → List Int → Option R
  | 0, _, _, _, _, _ => none
  | n + 1, x1, x2, x3, x4, x5 => f63_0_st N (f63_0_lp N k1 n) k1 x1 x2 x3 x4 x5
def f63_0_F (N : Nat) : (R : Type) → List Leaf → (X → AS → Option R) → Option R := fun _ ls K => match ls with
  | [.i x1, .i x2, .l x3, .l x4, .l x5] => f63_0_lp N (fun y1 y2 y3 y4 y5 y6 => K (Go.Eng.X.normal) (fill f63_0_ex1 [.b y1, .i y2, .i y3, .l y4, .l y5, .l y6])) N x1 x2 x3 x4 x5
  | _ => none
def f63_raw {R : Type} (N : Nat) (a : List Int) (k : List DV → Option R) : Option R :=
 let v0 : Int := Go.IntKind.u64.wrap ((Go.Proofs.Ytiaddnmloonhgaa.carriedL (Go.Proofs.Ytiaddnmloonhgaa.carriedL a)).getD (Go.Eng.mulE (Int.toNat 0) 1) 0 + 5);
let v1 : List Int := (Go.Proofs.Ytiaddnmloonhgaa.carriedL (Go.Proofs.Ytiaddnmloonhgaa.carriedL a)).set (Go.Eng.mulE (Int.toNat 0) 1) v0;
f63_0_lp N (fun w2_1 w2_2 w2_3 w2_4 w2_5 w2_6 => bif Decidable.decide (w2_2 > 0) then k [Go.Eng.DV.v (Go.Eng.SV.one (Go.Eng.At.ints Go.IntKind.u64 5 w2_6))] else k [Go.Eng.DV.v (Go.Eng.SV.one (Go.Eng.At.ints Go.IntKind.u64 5 w2_4))]) N 0 0 (Go.Proofs.Ytiaddnmloonhgaa.carriedL (Go.Proofs.Ytiaddnmloonhgaa.carriedL a)) (List.replicate 5 0) v1


noncomputable def E63 (N : Nat) : Env := { Θ := Th, Γ := G62, K := K63, ν := N63, fuel := 0, lp := [(0, mkL N63_0 f63_0_sh (f63_0_F N))] }

theorem f63_0_st_eq {R : Type} (N : Nat) (K : X → AS → Option R) (n : Nat) (x1 : Int) (x2 : Int) (x3 : List Int) (x4 : List Int) (x5 : List Int) : roundsOf (E63 N) N63_0 0 B63_0 K (n + 1) (fill f63_0_sh [.i x1, .i x2, .l x3, .l x4, .l x5]) = f63_0_st N (fun x1 x2 x3 x4 x5 => roundsOf (E63 N) N63_0 0 B63_0 K n (fill f63_0_sh [.i x1, .i x2, .l x3, .l x4, .l x5])) (fun y1 y2 y3 y4 y5 y6 => K (Go.Eng.X.normal) (fill f63_0_ex1 [.b y1, .i y2, .i y3, .l y4, .l y5, .l y6])) x1 x2 x3 x4 x5 := by kernel_rfl
theorem f63_0_lp_eq {R : Type} (N : Nat) (K : X → AS → Option R) : ∀ (n : Nat) (x1 : Int) (x2 : Int) (x3 : List Int) (x4 : List Int) (x5 : List Int), roundsOf (E63 N) N63_0 0 B63_0 K n (fill f63_0_sh [.i x1, .i x2, .l x3, .l x4, .l x5]) = f63_0_lp N (fun y1 y2 y3 y4 y5 y6 => K (Go.Eng.X.normal) (fill f63_0_ex1 [.b y1, .i y2, .i y3, .l y4, .l y5, .l y6])) n x1 x2 x3 x4 x5
  | 0, _, _, _, _, _ => rfl
  | n + 1, x1, x2, x3, x4, x5 => by
    rw [f63_0_st_eq, f63_0_lp, show (fun x1 x2 x3 x4 x5 => roundsOf (E63 N) N63_0 0 B63_0 K n (fill f63_0_sh [.i x1, .i x2, .l x3, .l x4, .l x5])) = f63_0_lp N (fun y1 y2 y3 y4 y5 y6 => K (Go.Eng.X.normal) (fill f63_0_ex1 [.b y1, .i y2, .i y3, .l y4, .l y5, .l y6])) n from by funext x1 x2 x3 x4 x5; exact f63_0_lp_eq N K n x1 x2 x3 x4 x5]
theorem f63_0_ok (N : Nat) (hlp : LoopsOk Try.prog (E63 N).lp B63_0) (hΓ : CtxOk Try.prog (E63 N).Γ) : LoopOk Try.prog (mkL N63_0 f63_0_sh (f63_0_F N)) 0 B63_0 := by
  refine loopOk_of (E := E63 N) thOk hΓ mixed hlp ?_
  intro R ls K r h
  unfold f63_0_F at h
  split at h
  · exact ⟨N, by rw [f63_0_lp_eq]; exact h⟩
  · cases h

theorem lok63_0 (N : Nat) (hΓ : CtxOk Try.prog G62) : LoopOk Try.prog (mkL N63_0 f63_0_sh (f63_0_F N)) 0 B63_0 := f63_0_ok N (loopsOk_of (l := []) (by kernel_rfl) trivial) hΓ
theorem f63_contract (N : Nat) (hΓ : CtxOk Try.prog G62) : Contract Try.prog 63 { sig := S63, impl := fun _ ds k => call (E63 N) S63 37 B63 R63 ds k } :=
  call_contract (E := E63 N) thOk hΓ mixed ok63.look ok63.body ok63.n ok63.rv ok63.name rfl (by decide) (loopsOk_of (l := [(0, B63_0)]) (by kernel_rfl) (allOk_cons (L := mkL N63_0 f63_0_sh (f63_0_F N)) rfl (lok63_0 N hΓ) trivial))
theorem f63_raw_eq {R : Type} (N : Nat) (a : List Int) (k : List DV → Option R) : call (E63 N) S63 37 B63 R63 [.v (.one (.ints .u64 5 a))] k = f63_raw N a k := by kernel_rfl
end Go.Proofs.Ytiaddnmloonhgaa

/- Numbers in limbs: the product, the whole, the limbs of bytes. -/
namespace Go.Proofs.Ytiaddnmloonhgaa
open Go Go.Eng
set_option maxRecDepth 100000

/-! ### times -/

def timesL (a b : List Int) : List Int := answer (f62_raw 6 a b some)

theorem f62_spec {R : Type} (a b : List Int) (k : List DV → Option R) : f62_raw 6 a b k = k [.v (.one (.ints .u64 5 (timesL a b)))] := by kernel_rfl

def I62 : (R : Type) → List DV → (List DV → Option R) → Option R := fun _ ds k => match ds with
  | [.v (.one (.ints .u64 5 a)), .v (.one (.ints .u64 5 b))] => k [.v (.one (.ints .u64 5 (timesL a b)))]
  | _ => none

theorem c62 : Contract Try.prog 62 { sig := S62, impl := I62 } := by
  refine Contract.refine fun R ds k r h => ⟨_, f62_contract 6 G62_ok, ?_⟩
  unfold I62 at h
  split at h
  · rw [f62_raw_eq, f62_spec]; exact h
  · cases h

/-! ### whole -/

/-- where the loop of 'whole' ends -/
def wholeRun (a : List Int) : Option (Int × List Int × List Int) :=
  f63_0_lp 6 (fun _ y2 _ y4 _ y6 => some (y2, y4, y6)) 6 0 0 (carriedL (carriedL a)) (List.replicate 5 0) ((carriedL (carriedL a)).set 0 (IntKind.u64.wrap ((carriedL (carriedL a)).getD 0 0 + 5)))

theorem whole_some (a : List Int) : (wholeRun a).isSome = true := by kernel_rfl

def wholeL (a : List Int) : List Int := match wholeRun a with
  | some (c, u, g) => cond (decide (c > 0)) g u
  | none => []

theorem f63_match {R : Type} (a : List Int) (k : List DV → Option R) : f63_raw 6 a k = match wholeRun a with
  | some (c, u, g) => cond (decide (c > 0)) (k [.v (.one (.ints .u64 5 g))]) (k [.v (.one (.ints .u64 5 u))])
  | none => none := by kernel_rfl

theorem f63_spec {R : Type} (a : List Int) (k : List DV → Option R) : f63_raw 6 a k = k [.v (.one (.ints .u64 5 (wholeL a)))] := by
  rw [f63_match]
  unfold wholeL
  have := whole_some a
  cases hw : wholeRun a with
  | none => rw [hw] at this; cases this
  | some p =>
    obtain ⟨c, u, g⟩ := p
    simp only
    cases decide (c > 0) <;> rfl

def I63 : (R : Type) → List DV → (List DV → Option R) → Option R := fun _ ds k => match ds with
  | [.v (.one (.ints .u64 5 a))] => k [.v (.one (.ints .u64 5 (wholeL a)))]
  | _ => none

theorem c63 : Contract Try.prog 63 { sig := S63, impl := I63 } := by
  refine Contract.refine fun R ds k r h => ⟨_, f63_contract 6 G62_ok, ?_⟩
  unfold I63 at h
  split at h
  · rw [f63_raw_eq, f63_spec]; exact h
  · cases h

/-! ### limbs -/

def limbBit (b : List Int) (i : Nat) : Bool := andI .u8 (shrI .u8 (b.getD (i / 8) 0) ((i % 8 : Nat) : Int)) 1 == 1

def limbsStep (b : List Int) (i : Nat) (n : List Int) : List Int :=
  cond (decide (i < 130) && limbBit b i) (n.set (i / 26) (orI .u64 (n.getD (i / 26) 0) (shlI .u64 1 ((i % 26 : Nat) : Int)))) n

def limbsGo (b : List Int) : Nat → Nat → List Int → List Int
  | 0, _, n => n
  | m + 1, i, n => limbsGo b m (i + 1) (limbsStep b i n)

def limbsL (b : List Int) : List Int := limbsGo b 136 0 (List.replicate 5 0)

theorem limbs_step {R : Type} (N : Nat) (self : Int → List Int → List Int → List Int → Option R) (k1 : Bool → Int → List Int → List Int → List Int → Option R) (i : Nat) (hi : i < 136) (x2 x3 x4 : List Int) :
    f61_0_st N self k1 (i : Int) x2 x3 x4 = self ((i + 1 : Nat) : Int) x2 x3 (limbsStep x2 i x4) := by
  have h0 : decide ((i : Int) < 136) = true := by simp; omega
  have hd8 : (i : Int).tdiv 8 = ((i / 8 : Nat) : Int) := (Int.ofNat_tdiv i 8).symm
  have hd26 : (i : Int).tdiv 26 = ((i / 26 : Nat) : Int) := (Int.ofNat_tdiv i 26).symm
  have hm8 : (i : Int).tmod 8 = ((i % 8 : Nat) : Int) := (Int.ofNat_tmod i 8).symm
  have hm26 : (i : Int).tmod 26 = ((i % 26 : Nat) : Int) := (Int.ofNat_tmod i 26).symm
  have w8 : IntKind.i64.wrap ((i / 8 : Nat) : Int) = ((i / 8 : Nat) : Int) := wrap64_nat (by omega)
  have w26 : IntKind.i64.wrap ((i / 26 : Nat) : Int) = ((i / 26 : Nat) : Int) := wrap64_nat (by omega)
  have w1 : IntKind.i64.wrap ((i : Int) + 1) = ((i + 1 : Nat) : Int) := by rw [show (i : Int) + 1 = ((i + 1 : Nat) : Int) by omega]; exact wrap64_nat (by omega)
  have g1 : (decide ((0 : Int) ≤ ((i / 8 : Nat) : Int)) && decide (((i / 8 : Nat) : Int) < 17)) = true := by simp; omega
  have g3 : decide ((0 : Int) ≤ ((i % 8 : Nat) : Int)) = true := by simp; omega
  have g4 : decide ((0 : Int) ≤ ((i % 26 : Nat) : Int)) = true := by simp; omega
  unfold f61_0_st limbsStep
  rw [h0]
  by_cases hc : i < 130
  · have hc' : decide ((i : Int) < 130) = true := by simp; omega
    have hcn : decide (i < 130) = true := by simp; omega
    have g2 : (decide ((0 : Int) ≤ ((i / 26 : Nat) : Int)) && decide (((i / 26 : Nat) : Int) < 5)) = true := by simp; omega
    rw [hc', hcn, hd8, hm8, hd26, hm26]
    simp only [w8, w26, w1]
    rw [g1, g2, g3, g4]
    simp only [cond_true, Bool.true_and, mulE_one, Int.toNat_natCast]
    show cond (limbBit x2 i) _ _ = _
    cases limbBit x2 i <;> rfl
  · have hc' : decide ((i : Int) < 130) = false := by simp; omega
    have hcn : decide (i < 130) = false := by simp; omega
    rw [hc', hcn]
    simp only [w1]
    rfl

theorem limbs_loop {R : Type} {N : Nat} (k1 : Bool → Int → List Int → List Int → List Int → Option R) (b y : List Int) :
    ∀ (m i : Nat) (n : List Int), i + m = 136 → ∀ fuel, m < fuel → f61_0_lp N k1 fuel (i : Int) b y n = k1 false 136 b y (limbsGo b m i n) := by
  intro m
  induction m with
  | zero =>
    intro i n h fuel hf
    obtain ⟨f, rfl⟩ : ∃ f, fuel = f + 1 := ⟨fuel - 1, by omega⟩
    have : i = 136 := by omega
    subst this
    rfl
  | succ m ih =>
    intro i n h fuel hf
    obtain ⟨f, rfl⟩ : ∃ f, fuel = f + 1 := ⟨fuel - 1, by omega⟩
    show f61_0_st N (f61_0_lp N k1 f) k1 _ b y n = _
    rw [limbs_step N _ _ i (by omega), ih (i + 1) _ (by omega) f (by omega)]
    rfl

def I61 : (R : Type) → List DV → (List DV → Option R) → Option R := fun _ ds k => match ds with
  | [.v (.one (.ints .u8 17 b))] => k [.v (.one (.ints .u64 5 (limbsL b)))]
  | _ => none

theorem c61 : Contract Try.prog 61 { sig := S61, impl := I61 } := by
  refine Contract.refine fun R ds k r h => ⟨_, f61_contract 137 ctxOk_nil, ?_⟩
  unfold I61 at h
  split at h
  · rename_i b
    rw [f61_raw_eq]
    unfold f61_raw
    exact (limbs_loop (N := 137) (fun w0_1 w0_2 w0_3 w0_4 w0_5 => k [DV.v (SV.one (At.ints IntKind.u64 5 w0_5))]) b (List.replicate 5 0) 136 0 (List.replicate 5 0) (by omega) 137 (by omega)).trans h
  · cases h

def G24 : Ctx := [(61, { sig := S61, impl := I61 }), (62, { sig := S62, impl := I62 }), (63, { sig := S63, impl := I63 })]
theorem G24_ok : CtxOk Try.prog G24 := ctxOk_cons ok61 rfl c61 (ctxOk_cons ok62 rfl c62 (ctxOk_cons ok63 rfl c63 ctxOk_nil))

end Go.Proofs.Ytiaddnmloonhgaa

/- What rime/seal.Mac comes to. MADE BY PROGRAM (wip/tools/mkfn.py, EngGen.lean). -/
namespace Go.Proofs.Ytiaddnmloonhgaa
open Go Go.Eng
set_option maxRecDepth 100000
set_option linter.unusedVariables false

def f24_0_sh : Shp := { n := 123, lo := 2, slots := [(1, .one (.fix (Go.Eng.At.own 1))), (2, .one (.fix (Go.Eng.At.ptr 2 0 Go.Eng.Off.z 32))), (4, .one (.fix (Go.Eng.At.ptr 4 0 Go.Eng.Off.z 16))), (5, .one (.fix (Go.Eng.At.ptr 5 0 Go.Eng.Off.z 17))), (26, .one (.fix (Go.Eng.At.own 26))), (27, .one (.int Go.IntKind.i64)), (28, .one (.int Go.IntKind.i64))], items := [(1, .view (.one Go.IntKind.u8) 1), (2, .obj [.ints Go.IntKind.u8 32]), (4, .obj [.ints Go.IntKind.u8 16]), (5, .obj [.ints Go.IntKind.u8 17]), (26, .row (.one Go.IntKind.i64) 1)] }
def f24_0_ex1 : Shp := { n := 123, lo := 2, slots := [(29, .one (.bool)), (1, .one (.fix (Go.Eng.At.own 1))), (2, .one (.fix (Go.Eng.At.ptr 2 0 Go.Eng.Off.z 32))), (4, .one (.fix (Go.Eng.At.ptr 4 0 Go.Eng.Off.z 16))), (5, .one (.fix (Go.Eng.At.ptr 5 0 Go.Eng.Off.z 17))), (26, .one (.fix (Go.Eng.At.own 26))), (27, .one (.int Go.IntKind.i64)), (28, .one (.int Go.IntKind.i64))], items := [(1, .view (.one Go.IntKind.u8) 1), (2, .obj [.ints Go.IntKind.u8 32]), (4, .obj [.ints Go.IntKind.u8 16]), (5, .obj [.ints Go.IntKind.u8 17]), (26, .row (.one Go.IntKind.i64) 1)] }
def f24_0_st {R : Type} (N : Nat) (self : Int → Int → List Int → List Int → List Int → List Int → List Int → Option R) (k1 : Bool → Int → Int → List Int → List Int → List Int → List Int → List Int → Option R) (x1 : Int) (x2 : Int) (x3 : List Int) (x4 : List Int) (x5 : List Int) (x6 : List Int) (x7 : List Int) : Option R :=
  bif Decidable.decide (x2 < x1) then
  bif Decidable.decide (0 ≤ x2) && Decidable.decide (x2 < Go.Eng.nI (Go.Eng.rowLen 1 x7)) then
    bif Decidable.decide (0 ≤ x7.getD (Go.Eng.mulE x2.toNat 1) 0) && Decidable.decide (x7.getD (Go.Eng.mulE x2.toNat 1) 0 < 17) then
      bif Decidable.decide (0 ≤ x7.getD (Go.Eng.mulE x2.toNat 1) 0) && Decidable.decide (x7.getD (Go.Eng.mulE x2.toNat 1) 0 < 17) then
        let v0 : Int := Go.IntKind.i64.wrap (x2 + 1);
        let v1 : Int := Go.Eng.andI Go.IntKind.u8 (x6.getD (Go.Eng.mulE (x7.getD (Go.Eng.mulE x2.toNat 1) 0).toNat 1) 0) 15;
        let v2 : List Int := x6.set (Go.Eng.mulE (x7.getD (Go.Eng.mulE x2.toNat 1) 0).toNat 1) v1;
        self x1 v0 x3 x4 x5 v2 x7
      else Option.none
    else Option.none
  else Option.none
else k1 (Decidable.decide (x2 < x1)) x1 x2 x3 x4 x5 x6 x7
def f24_0_lp {R : Type} (N : Nat) (k1 : Bool → Int → Int → List Int → List Int → List Int → List Int → List Int → Option R) : Nat → Int → Int → List Int → List Int → List Int → List Int → List Int → Option R
  | 0, _, _, _, _, _, _, _ => none
  | n + 1, x1, x2, x3, x4, x5, x6, x7 => f24_0_st N (f24_0_lp N k1 n) k1 x1 x2 x3 x4 x5 x6 x7
def f24_0_F (N : Nat) : (R : Type) → List Leaf → (X → AS → Option R) → Option R := fun _ ls K => match ls with
  | [.i x1, .i x2, .l x3, .l x4, .l x5, .l x6, .l x7] => f24_0_lp N (fun y1 y2 y3 y4 y5 y6 y7 y8 => K (Go.Eng.X.normal) (fill f24_0_ex1 [.b y1, .i y2, .i y3, .l y4, .l y5, .l y6, .l y7, .l y8])) N x1 x2 x3 x4 x5 x6 x7
  | _ => none
def f24_2_sh : Shp := { n := 123, lo := 2, slots := [(1, .one (.fix (Go.Eng.At.own 1))), (2, .one (.fix (Go.Eng.At.ptr 2 0 Go.Eng.Off.z 32))), (4, .one (.fix (Go.Eng.At.ptr 4 0 Go.Eng.Off.z 16))), (5, .one (.fix (Go.Eng.At.ptr 5 0 Go.Eng.Off.z 17))), (38, .one (.fix (Go.Eng.At.own 38))), (39, .one (.int Go.IntKind.i64)), (40, .one (.int Go.IntKind.i64))], items := [(1, .view (.one Go.IntKind.u8) 1), (2, .obj [.ints Go.IntKind.u8 32]), (4, .obj [.ints Go.IntKind.u8 16]), (5, .obj [.ints Go.IntKind.u8 17]), (38, .row (.one Go.IntKind.i64) 1)] }
def f24_2_ex1 : Shp := { n := 123, lo := 2, slots := [(41, .one (.bool)), (1, .one (.fix (Go.Eng.At.own 1))), (2, .one (.fix (Go.Eng.At.ptr 2 0 Go.Eng.Off.z 32))), (4, .one (.fix (Go.Eng.At.ptr 4 0 Go.Eng.Off.z 16))), (5, .one (.fix (Go.Eng.At.ptr 5 0 Go.Eng.Off.z 17))), (38, .one (.fix (Go.Eng.At.own 38))), (39, .one (.int Go.IntKind.i64)), (40, .one (.int Go.IntKind.i64))], items := [(1, .view (.one Go.IntKind.u8) 1), (2, .obj [.ints Go.IntKind.u8 32]), (4, .obj [.ints Go.IntKind.u8 16]), (5, .obj [.ints Go.IntKind.u8 17]), (38, .row (.one Go.IntKind.i64) 1)] }
def f24_2_st {R : Type} (N : Nat) (self : Int → Int → List Int → List Int → List Int → List Int → List Int → Option R) (k1 : Bool → Int → Int → List Int → List Int → List Int → List Int → List Int → Option R) (x1 : Int) (x2 : Int) (x3 : List Int) (x4 : List Int) (x5 : List Int) (x6 : List Int) (x7 : List Int) : Option R :=
  bif Decidable.decide (x2 < x1) then
  bif Decidable.decide (0 ≤ x2) && Decidable.decide (x2 < Go.Eng.nI (Go.Eng.rowLen 1 x7)) then
    bif Decidable.decide (0 ≤ x7.getD (Go.Eng.mulE x2.toNat 1) 0) && Decidable.decide (x7.getD (Go.Eng.mulE x2.toNat 1) 0 < 17) then
      bif Decidable.decide (0 ≤ x7.getD (Go.Eng.mulE x2.toNat 1) 0) && Decidable.decide (x7.getD (Go.Eng.mulE x2.toNat 1) 0 < 17) then
        let v0 : Int := Go.IntKind.i64.wrap (x2 + 1);
        let v1 : Int := Go.Eng.andI Go.IntKind.u8 (x6.getD (Go.Eng.mulE (x7.getD (Go.Eng.mulE x2.toNat 1) 0).toNat 1) 0) 252;
        let v2 : List Int := x6.set (Go.Eng.mulE (x7.getD (Go.Eng.mulE x2.toNat 1) 0).toNat 1) v1;
        self x1 v0 x3 x4 x5 v2 x7
      else Option.none
    else Option.none
  else Option.none
else k1 (Decidable.decide (x2 < x1)) x1 x2 x3 x4 x5 x6 x7
def f24_2_lp {R : Type} (N : Nat) (k1 : Bool → Int → Int → List Int → List Int → List Int → List Int → List Int → Option R) : Nat → Int → Int → List Int → List Int → List Int → List Int → List Int → Option R
  | 0, _, _, _, _, _, _, _ => none
  | n + 1, x1, x2, x3, x4, x5, x6, x7 => f24_2_st N (f24_2_lp N k1 n) k1 x1 x2 x3 x4 x5 x6 x7
def f24_2_F (N : Nat) : (R : Type) → List Leaf → (X → AS → Option R) → Option R := fun _ ls K => match ls with
  | [.i x1, .i x2, .l x3, .l x4, .l x5, .l x6, .l x7] => f24_2_lp N (fun y1 y2 y3 y4 y5 y6 y7 y8 => K (Go.Eng.X.normal) (fill f24_2_ex1 [.b y1, .i y2, .i y3, .l y4, .l y5, .l y6, .l y7, .l y8])) N x1 x2 x3 x4 x5 x6 x7
  | _ => none
def f24_6_sh : Shp := { n := 123, lo := 2, slots := [(1, .one (.fix (Go.Eng.At.own 1))), (2, .one (.fix (Go.Eng.At.ptr 2 0 Go.Eng.Off.z 32))), (4, .one (.fix (Go.Eng.At.ptr 4 0 Go.Eng.Off.z 16))), (10, .one (.fix (Go.Eng.At.ptr 10 0 Go.Eng.Off.z 5))), (11, .one (.fix (Go.Eng.At.ptr 11 0 Go.Eng.Off.z 5))), (12, .one (.int Go.IntKind.i64)), (66, .one (.ints Go.IntKind.u64 5)), (67, .one (.int Go.IntKind.i64))], items := [(1, .view (.one Go.IntKind.u8) 1), (2, .obj [.ints Go.IntKind.u8 32]), (4, .obj [.ints Go.IntKind.u8 16]), (10, .obj [.ints Go.IntKind.u64 5]), (11, .obj [.ints Go.IntKind.u64 5])] }
def f24_6_ex1 : Shp := { n := 123, lo := 2, slots := [(68, .one (.bool)), (1, .one (.fix (Go.Eng.At.own 1))), (2, .one (.fix (Go.Eng.At.ptr 2 0 Go.Eng.Off.z 32))), (4, .one (.fix (Go.Eng.At.ptr 4 0 Go.Eng.Off.z 16))), (10, .one (.fix (Go.Eng.At.ptr 10 0 Go.Eng.Off.z 5))), (11, .one (.fix (Go.Eng.At.ptr 11 0 Go.Eng.Off.z 5))), (12, .one (.int Go.IntKind.i64)), (66, .one (.ints Go.IntKind.u64 5)), (67, .one (.int Go.IntKind.i64))], items := [(1, .view (.one Go.IntKind.u8) 1), (2, .obj [.ints Go.IntKind.u8 32]), (4, .obj [.ints Go.IntKind.u8 16]), (10, .obj [.ints Go.IntKind.u64 5]), (11, .obj [.ints Go.IntKind.u64 5])] }
def f24_6_st {R : Type} (N : Nat) (self : Int → List Int → Int → List Int → List Int → List Int → List Int → List Int → Option R) (k1 : Bool → Int → List Int → Int → List Int → List Int → List Int → List Int → List Int → Option R) (x1 : Int) (x2 : List Int) (x3 : Int) (x4 : List Int) (x5 : List Int) (x6 : List Int) (x7 : List Int) (x8 : List Int) : Option R :=
  bif Decidable.decide (x3 < 5) then
  bif Decidable.decide (0 ≤ x3) && Decidable.decide (x3 < 5) then
    bif Decidable.decide (0 ≤ x3) && Decidable.decide (x3 < 5) then
      bif Decidable.decide (0 ≤ x3) && Decidable.decide (x3 < 5) then
        let v0 : Int := Go.IntKind.i64.wrap (x3 + 1);
        let v1 : Int := Go.IntKind.u64.wrap (x8.getD (Go.Eng.mulE x3.toNat 1) 0 + x2.getD x3.toNat 0);
        let v2 : List Int := x8.set (Go.Eng.mulE x3.toNat 1) v1;
        self x1 x2 v0 x4 x5 x6 x7 v2
      else Option.none
    else Option.none
  else Option.none
else k1 (Decidable.decide (x3 < 5)) x1 x2 x3 x4 x5 x6 x7 x8
def f24_6_lp {R : Type} (N : Nat) (k1 : Bool → Int → List Int → Int → List Int → List Int → List Int → List Int → List Int → Option R) : Nat → Int → List Int → Int → List Int → List Int → List Int → List Int → List Int → Option R
  | 0, _, _, _, _, _, _, _, _ => none
  | n + 1, x1, x2, x3, x4, x5, x6, x7, x8 => f24_6_st N (f24_6_lp N k1 n) k1 x1 x2 x3 x4 x5 x6 x7 x8
def f24_6_F (N : Nat) : (R : Type) → List Leaf → (X → AS → Option R) → Option R := fun _ ls K => match ls with
  | [.i x1, .l x2, .i x3, .l x4, .l x5, .l x6, .l x7, .l x8] => f24_6_lp N (fun y1 y2 y3 y4 y5 y6 y7 y8 y9 => K (Go.Eng.X.normal) (fill f24_6_ex1 [.b y1, .i y2, .l y3, .i y4, .l y5, .l y6, .l y7, .l y8, .l y9])) N x1 x2 x3 x4 x5 x6 x7 x8
  | _ => none
def f24_4_sh : Shp := { n := 123, lo := 2, slots := [(1, .one (.fix (Go.Eng.At.own 1))), (2, .one (.fix (Go.Eng.At.ptr 2 0 Go.Eng.Off.z 32))), (4, .one (.fix (Go.Eng.At.ptr 4 0 Go.Eng.Off.z 16))), (10, .one (.fix (Go.Eng.At.ptr 10 0 Go.Eng.Off.z 5))), (11, .one (.fix (Go.Eng.At.ptr 11 0 Go.Eng.Off.z 5))), (12, .one (.int Go.IntKind.i64))], items := [(1, .view (.one Go.IntKind.u8) 1), (2, .obj [.ints Go.IntKind.u8 32]), (4, .obj [.ints Go.IntKind.u8 16]), (10, .obj [.ints Go.IntKind.u64 5]), (11, .obj [.ints Go.IntKind.u64 5])] }
def f24_4_ex1 : Shp := { n := 123, lo := 2, slots := [(55, .one (.bool)), (1, .one (.fix (Go.Eng.At.own 1))), (2, .one (.fix (Go.Eng.At.ptr 2 0 Go.Eng.Off.z 32))), (4, .one (.fix (Go.Eng.At.ptr 4 0 Go.Eng.Off.z 16))), (10, .one (.fix (Go.Eng.At.ptr 10 0 Go.Eng.Off.z 5))), (11, .one (.fix (Go.Eng.At.ptr 11 0 Go.Eng.Off.z 5))), (12, .one (.int Go.IntKind.i64))], items := [(1, .view (.one Go.IntKind.u8) 1), (2, .obj [.ints Go.IntKind.u8 32]), (4, .obj [.ints Go.IntKind.u8 16]), (10, .obj [.ints Go.IntKind.u64 5]), (11, .obj [.ints Go.IntKind.u64 5])] }
def f24_4_st {R : Type} (N : Nat) (self : Int → List Int → List Int → List Int → List Int → List Int → Option R) (k1 : Bool → Int → List Int → List Int → List Int → List Int → List Int → Option R) (x1 : Int) (x2 : List Int) (x3 : List Int) (x4 : List Int) (x5 : List Int) (x6 : List Int) : Option R :=
  bif Decidable.decide (x1 < Go.Eng.nI (Go.Eng.rowLen 1 x2)) then
  bif Go.Eng.loOk (Option.some x1) (Go.Eng.hiInt Option.none (Go.Eng.rowLen 1 x2)) then
    let v0 : List Int := Go.Eng.sub x2 (Go.Eng.plusO Go.Eng.Off.z 1 (Option.some x1)) (Go.Eng.mulE (Go.Eng.subN (Go.Eng.hiNat Option.none (Go.Eng.rowLen 1 x2)) (Option.some x1)) 1);
    let v1 : Nat := Min.min (Go.Eng.rowLen 1 v0) (Go.Eng.subN (Go.Eng.hiNat (Option.some 16) 17) Option.none);
    bif Decidable.decide (0 ≤ Go.Eng.nI v1) && Decidable.decide (Go.Eng.nI v1 < 17) then
      let v2 : List Int := Go.Eng.splice (List.replicate 17 0) (Go.Eng.plusO Go.Eng.Off.z 1 Option.none) (List.take (Go.Eng.mulE v1 1) v0);
      let v3 : List Int := v2.set (Go.Eng.mulE (Go.Eng.nI v1).toNat 1) 1;
      f24_6_lp N
        (fun w4_1 w4_2 w4_3 w4_4 w4_5 w4_6 w4_7 w4_8 w4_9 =>
          let v5 : Int := Go.IntKind.i64.wrap (w4_2 + 16);
          self v5 w4_5 w4_6 w4_7 w4_8 (Go.Proofs.Ytiaddnmloonhgaa.timesL w4_9 w4_8))
        N x1 (Go.Proofs.Ytiaddnmloonhgaa.limbsL v3) 0 x2 x3 x4 x5 x6
    else Option.none
  else Option.none
else k1 (Decidable.decide (x1 < Go.Eng.nI (Go.Eng.rowLen 1 x2))) x1 x2 x3 x4 x5 x6
def f24_4_lp {R : Type} (N : Nat) (k1 : Bool → Int → List Int → List Int → List Int → List Int → List Int → Option R) : Nat → Int → List Int → List Int → List Int → List Int → List Int → Option R
  | 0, _, _, _, _, _, _ => none
  | n + 1, x1, x2, x3, x4, x5, x6 => f24_4_st N (f24_4_lp N k1 n) k1 x1 x2 x3 x4 x5 x6
def f24_4_F (N : Nat) : (R : Type) → List Leaf → (X → AS → Option R) → Option R := fun _ ls K => match ls with
  | [.i x1, .l x2, .l x3, .l x4, .l x5, .l x6] => f24_4_lp N (fun y1 y2 y3 y4 y5 y6 y7 => K (Go.Eng.X.normal) (fill f24_4_ex1 [.b y1, .i y2, .l y3, .l y4, .l y5, .l y6, .l y7])) N x1 x2 x3 x4 x5 x6
  | _ => none
def f24_10_sh : Shp := { n := 123, lo := 2, slots := [(2, .one (.fix (Go.Eng.At.ptr 2 0 Go.Eng.Off.z 32))), (4, .one (.fix (Go.Eng.At.ptr 4 0 Go.Eng.Off.z 16))), (11, .one (.fix (Go.Eng.At.ptr 11 0 Go.Eng.Off.z 5))), (17, .one (.fix (Go.Eng.At.ptr 17 0 Go.Eng.Off.z 16))), (18, .one (.int Go.IntKind.u64)), (19, .one (.int Go.IntKind.i64)), (20, .one (.int Go.IntKind.u64)), (83, .one (.int Go.IntKind.i64)), (86, .one (.int Go.IntKind.i64))], items := [(2, .obj [.ints Go.IntKind.u8 32]), (4, .obj [.ints Go.IntKind.u8 16]), (11, .obj [.ints Go.IntKind.u64 5]), (17, .obj [.ints Go.IntKind.u8 16])] }
def f24_10_ex1 : Shp := { n := 123, lo := 2, slots := [(87, .one (.bool)), (2, .one (.fix (Go.Eng.At.ptr 2 0 Go.Eng.Off.z 32))), (4, .one (.fix (Go.Eng.At.ptr 4 0 Go.Eng.Off.z 16))), (11, .one (.fix (Go.Eng.At.ptr 11 0 Go.Eng.Off.z 5))), (17, .one (.fix (Go.Eng.At.ptr 17 0 Go.Eng.Off.z 16))), (18, .one (.int Go.IntKind.u64)), (19, .one (.int Go.IntKind.i64)), (20, .one (.int Go.IntKind.u64)), (83, .one (.int Go.IntKind.i64)), (86, .one (.int Go.IntKind.i64))], items := [(2, .obj [.ints Go.IntKind.u8 32]), (4, .obj [.ints Go.IntKind.u8 16]), (11, .obj [.ints Go.IntKind.u64 5]), (17, .obj [.ints Go.IntKind.u8 16])] }
def f24_10_st {R : Type} (N : Nat) (self : Int → Int → Int → Int → Int → List Int → List Int → List Int → List Int → Option R) (k1 : Bool → Int → Int → Int → Int → Int → List Int → List Int → List Int → List Int → Option R) (x1 : Int) (x2 : Int) (x3 : Int) (x4 : Int) (x5 : Int) (x6 : List Int) (x7 : List Int) (x8 : List Int) (x9 : List Int) : Option R :=
  bif Decidable.decide (x5 < 8) then
  let v0 : Int := Go.IntKind.i64.wrap (8 * x2);
  let v1 : Int := Go.IntKind.i64.wrap (v0 + x5);
  let v2 : Int := Go.IntKind.i64.wrap (v1.tdiv 26);
  bif Decidable.decide (0 ≤ v2) && Decidable.decide (v2 < 5) then
    bif Decidable.decide (0 ≤ v1.tmod 26) then
      bif Decidable.decide (0 ≤ x5) then
        let v3 : Int := Go.Eng.shrI Go.IntKind.u64 (x8.getD (Go.Eng.mulE v2.toNat 1) 0) (v1.tmod 26);
        let v4 : Int := Go.Eng.andI Go.IntKind.u64 v3 1;
        let v5 : Int := Go.Eng.shlI Go.IntKind.u64 v4 x5;
        let v6 : Int := Go.Eng.orI Go.IntKind.u64 x3 v5;
        let v7 : Int := Go.IntKind.i64.wrap (x5 + 1);
        self x1 x2 v6 x4 v7 x6 x7 x8 x9
      else Option.none
    else Option.none
  else Option.none
else k1 (Decidable.decide (x5 < 8)) x1 x2 x3 x4 x5 x6 x7 x8 x9
def f24_10_lp {R : Type} (N : Nat) (k1 : Bool → Int → Int → Int → Int → Int → List Int → List Int → List Int → List Int → Option R) : Nat → Int → Int → Int → Int → Int → List Int → List Int → List Int → List Int → Option R
  | 0, _, _, _, _, _, _, _, _, _ => none
  | n + 1, x1, x2, x3, x4, x5, x6, x7, x8, x9 => f24_10_st N (f24_10_lp N k1 n) k1 x1 x2 x3 x4 x5 x6 x7 x8 x9
def f24_10_F (N : Nat) : (R : Type) → List Leaf → (X → AS → Option R) → Option R := fun _ ls K => match ls with
  | [.i x1, .i x2, .i x3, .i x4, .i x5, .l x6, .l x7, .l x8, .l x9] => f24_10_lp N (fun y1 y2 y3 y4 y5 y6 y7 y8 y9 y10 => K (Go.Eng.X.normal) (fill f24_10_ex1 [.b y1, .i y2, .i y3, .i y4, .i y5, .i y6, .l y7, .l y8, .l y9, .l y10])) N x1 x2 x3 x4 x5 x6 x7 x8 x9
  | _ => none
def f24_8_sh : Shp := { n := 123, lo := 2, slots := [(2, .one (.fix (Go.Eng.At.ptr 2 0 Go.Eng.Off.z 32))), (4, .one (.fix (Go.Eng.At.ptr 4 0 Go.Eng.Off.z 16))), (11, .one (.fix (Go.Eng.At.ptr 11 0 Go.Eng.Off.z 5))), (17, .one (.fix (Go.Eng.At.ptr 17 0 Go.Eng.Off.z 16))), (18, .one (.int Go.IntKind.u64)), (83, .one (.int Go.IntKind.i64))], items := [(2, .obj [.ints Go.IntKind.u8 32]), (4, .obj [.ints Go.IntKind.u8 16]), (11, .obj [.ints Go.IntKind.u64 5]), (17, .obj [.ints Go.IntKind.u8 16])] }
def f24_8_ex1 : Shp := { n := 123, lo := 2, slots := [(84, .one (.bool)), (2, .one (.fix (Go.Eng.At.ptr 2 0 Go.Eng.Off.z 32))), (4, .one (.fix (Go.Eng.At.ptr 4 0 Go.Eng.Off.z 16))), (11, .one (.fix (Go.Eng.At.ptr 11 0 Go.Eng.Off.z 5))), (17, .one (.fix (Go.Eng.At.ptr 17 0 Go.Eng.Off.z 16))), (18, .one (.int Go.IntKind.u64)), (83, .one (.int Go.IntKind.i64))], items := [(2, .obj [.ints Go.IntKind.u8 32]), (4, .obj [.ints Go.IntKind.u8 16]), (11, .obj [.ints Go.IntKind.u64 5]), (17, .obj [.ints Go.IntKind.u8 16])] }
def f24_8_st {R : Type} (N : Nat) (self : Int → Int → List Int → List Int → List Int → List Int → Option R) (k1 : Bool → Int → Int → List Int → List Int → List Int → List Int → Option R) (x1 : Int) (x2 : Int) (x3 : List Int) (x4 : List Int) (x5 : List Int) (x6 : List Int) : Option R :=
  bif Decidable.decide (x2 < 16) then
  f24_10_lp N
    (fun w0_1 w0_2 w0_3 w0_4 w0_5 w0_6 w0_7 w0_8 w0_9 w0_10 =>
      let v1 : Int := Go.IntKind.i64.wrap (16 + w0_3);
      bif Decidable.decide (0 ≤ v1) && Decidable.decide (v1 < 32) then
        bif Decidable.decide (0 ≤ w0_3) && Decidable.decide (w0_3 < 16) then
          let v2 : Int := Go.IntKind.u64.wrap (w0_7.getD (Go.Eng.mulE v1.toNat 1) 0);
          let v3 : Int := Go.IntKind.u64.wrap (w0_4 + v2);
          let v4 : Int := Go.IntKind.u64.wrap (w0_2 + v3);
          let v5 : Int := Go.Eng.shrI Go.IntKind.u64 v4 8;
          let v6 : Int := Go.IntKind.i64.wrap (w0_5 + 1);
          let v7 : Int := Go.IntKind.u8.wrap v4;
          let v8 : List Int := w0_10.set (Go.Eng.mulE w0_3.toNat 1) v7;
          self v5 v6 w0_7 w0_8 w0_9 v8
        else Option.none
      else Option.none)
    N x1 x2 0 x2 0 x3 x4 x5 x6
else k1 (Decidable.decide (x2 < 16)) x1 x2 x3 x4 x5 x6
def f24_8_lp {R : Type} (N : Nat) (k1 : Bool → Int → Int → List Int → List Int → List Int → List Int → Option R) : Nat → Int → Int → List Int → List Int → List Int → List Int → Option R
  | 0, _, _, _, _, _, _ => none
  | n + 1, x1, x2, x3, x4, x5, x6 => f24_8_st N (f24_8_lp N k1 n) k1 x1 x2 x3 x4 x5 x6
def f24_8_F (N : Nat) : (R : Type) → List Leaf → (X → AS → Option R) → Option R := fun _ ls K => match ls with
  | [.i x1, .i x2, .l x3, .l x4, .l x5, .l x6] => f24_8_lp N (fun y1 y2 y3 y4 y5 y6 y7 => K (Go.Eng.X.normal) (fill f24_8_ex1 [.b y1, .i y2, .i y3, .l y4, .l y5, .l y6, .l y7])) N x1 x2 x3 x4 x5 x6
  | _ => none
def f24_raw {R : Type} (N : Nat) (key : List Int) (b : List Int) (k : List DV → Option R) : Option R :=
 let v0 : List Int := (Go.Eng.zerosOf (4 * 1)).set 0 3;
let v1 : List Int := v0.set 1 7;
let v2 : List Int := v1.set 2 11;
let v3 : List Int := v2.set 3 15;
let v4 : List Int := Go.Eng.sub key (Go.Eng.plusO Go.Eng.Off.z 1 Option.none) (Go.Eng.mulE (Go.Eng.subN (Go.Eng.hiNat (Option.some 16) 32) Option.none) 1);
let v5 : Nat := Min.min (Go.Eng.rowLen 1 v4) (Go.Eng.subN (Go.Eng.hiNat Option.none 17) Option.none);
let v6 : List Int := Go.Eng.splice (List.replicate 17 0) (Go.Eng.plusO Go.Eng.Off.z 1 Option.none) (List.take (Go.Eng.mulE v5 1) v4);
f24_0_lp N
 (fun w7_1 w7_2 w7_3 w7_4 w7_5 w7_6 w7_7 w7_8 =>
 let v8 : List Int := (Go.Eng.zerosOf (3 * 1)).set 0 4;
 let v9 : List Int := v8.set 1 8;
 let v10 : List Int := v9.set 2 12;
 f24_2_lp N (fun w11_1 w11_2 w11_3 w11_4 w11_5 w11_6 w11_7 w11_8 => f24_4_lp N (fun w12_1 w12_2 w12_3 w12_4 w12_5 w12_6 w12_7 => f24_8_lp N (fun w13_1 w13_2 w13_3 w13_4 w13_5 w13_6 w13_7 => k [Go.Eng.DV.v (Go.Eng.SV.one (Go.Eng.At.ints Go.IntKind.u8 16 w13_7))]) N 0 0 w12_4 w12_5 (Go.Proofs.Ytiaddnmloonhgaa.wholeL w12_7) (List.replicate 16 0)) N 0 w11_4 w11_5 w11_6 (Go.Proofs.Ytiaddnmloonhgaa.limbsL w11_7) (List.replicate 5 0)) N (Go.Eng.nI (Go.Eng.rowLen 1 v10)) 0 w7_4 w7_5 w7_6 w7_7 v10)
 N (Go.Eng.nI (Go.Eng.rowLen 1 v3)) 0 b key (List.replicate 16 0) v6 v3


noncomputable def E24 (N : Nat) : Env := { Θ := Th, Γ := G24, K := K24, ν := N24, fuel := 0, lp := [(0, mkL N24_0 f24_0_sh (f24_0_F N)), (2, mkL N24_2 f24_2_sh (f24_2_F N)), (4, mkL N24_4 f24_4_sh (f24_4_F N)), (6, mkL N24_6 f24_6_sh (f24_6_F N)), (8, mkL N24_8 f24_8_sh (f24_8_F N)), (10, mkL N24_10 f24_10_sh (f24_10_F N))] }

theorem f24_0_st_eq {R : Type} (N : Nat) (K : X → AS → Option R) (n : Nat) (x1 : Int) (x2 : Int) (x3 : List Int) (x4 : List Int) (x5 : List Int) (x6 : List Int) (x7 : List Int) : roundsOf (E24 N) N24_0 0 B24_0 K (n + 1) (fill f24_0_sh [.i x1, .i x2, .l x3, .l x4, .l x5, .l x6, .l x7]) = f24_0_st N (fun x1 x2 x3 x4 x5 x6 x7 => roundsOf (E24 N) N24_0 0 B24_0 K n (fill f24_0_sh [.i x1, .i x2, .l x3, .l x4, .l x5, .l x6, .l x7])) (fun y1 y2 y3 y4 y5 y6 y7 y8 => K (Go.Eng.X.normal) (fill f24_0_ex1 [.b y1, .i y2, .i y3, .l y4, .l y5, .l y6, .l y7, .l y8])) x1 x2 x3 x4 x5 x6 x7 := by kernel_rfl
theorem f24_0_lp_eq {R : Type} (N : Nat) (K : X → AS → Option R) : ∀ (n : Nat) (x1 : Int) (x2 : Int) (x3 : List Int) (x4 : List Int) (x5 : List Int) (x6 : List Int) (x7 : List Int), roundsOf (E24 N) N24_0 0 B24_0 K n (fill f24_0_sh [.i x1, .i x2, .l x3, .l x4, .l x5, .l x6, .l x7]) = f24_0_lp N (fun y1 y2 y3 y4 y5 y6 y7 y8 => K (Go.Eng.X.normal) (fill f24_0_ex1 [.b y1, .i y2, .i y3, .l y4, .l y5, .l y6, .l y7, .l y8])) n x1 x2 x3 x4 x5 x6 x7
  | 0, _, _, _, _, _, _, _ => rfl
  | n + 1, x1, x2, x3, x4, x5, x6, x7 => by
    rw [f24_0_st_eq, f24_0_lp, show (fun x1 x2 x3 x4 x5 x6 x7 => roundsOf (E24 N) N24_0 0 B24_0 K n (fill f24_0_sh [.i x1, .i x2, .l x3, .l x4, .l x5, .l x6, .l x7])) = f24_0_lp N (fun y1 y2 y3 y4 y5 y6 y7 y8 => K (Go.Eng.X.normal) (fill f24_0_ex1 [.b y1, .i y2, .i y3, .l y4, .l y5, .l y6, .l y7, .l y8])) n from by funext x1 x2 x3 x4 x5 x6 x7; exact f24_0_lp_eq N K n x1 x2 x3 x4 x5 x6 x7]
theorem f24_0_ok (N : Nat) (hlp : LoopsOk Try.prog (E24 N).lp B24_0) (hΓ : CtxOk Try.prog (E24 N).Γ) : LoopOk Try.prog (mkL N24_0 f24_0_sh (f24_0_F N)) 0 B24_0 := by
  refine loopOk_of (E := E24 N) thOk hΓ mixed hlp ?_
  intro R ls K r h
  unfold f24_0_F at h
  split at h
  · exact ⟨N, by rw [f24_0_lp_eq]; exact h⟩
  · cases h
theorem f24_2_st_eq {R : Type} (N : Nat) (K : X → AS → Option R) (n : Nat) (x1 : Int) (x2 : Int) (x3 : List Int) (x4 : List Int) (x5 : List Int) (x6 : List Int) (x7 : List Int) : roundsOf (E24 N) N24_2 2 B24_2 K (n + 1) (fill f24_2_sh [.i x1, .i x2, .l x3, .l x4, .l x5, .l x6, .l x7]) = f24_2_st N (fun x1 x2 x3 x4 x5 x6 x7 => roundsOf (E24 N) N24_2 2 B24_2 K n (fill f24_2_sh [.i x1, .i x2, .l x3, .l x4, .l x5, .l x6, .l x7])) (fun y1 y2 y3 y4 y5 y6 y7 y8 => K (Go.Eng.X.normal) (fill f24_2_ex1 [.b y1, .i y2, .i y3, .l y4, .l y5, .l y6, .l y7, .l y8])) x1 x2 x3 x4 x5 x6 x7 := by kernel_rfl
theorem f24_2_lp_eq {R : Type} (N : Nat) (K : X → AS → Option R) : ∀ (n : Nat) (x1 : Int) (x2 : Int) (x3 : List Int) (x4 : List Int) (x5 : List Int) (x6 : List Int) (x7 : List Int), roundsOf (E24 N) N24_2 2 B24_2 K n (fill f24_2_sh [.i x1, .i x2, .l x3, .l x4, .l x5, .l x6, .l x7]) = f24_2_lp N (fun y1 y2 y3 y4 y5 y6 y7 y8 => K (Go.Eng.X.normal) (fill f24_2_ex1 [.b y1, .i y2, .i y3, .l y4, .l y5, .l y6, .l y7, .l y8])) n x1 x2 x3 x4 x5 x6 x7
  | 0, _, _, _, _, _, _, _ => rfl
  | n + 1, x1, x2, x3, x4, x5, x6, x7 => by
    rw [f24_2_st_eq, f24_2_lp, show (fun x1 x2 x3 x4 x5 x6 x7 => roundsOf (E24 N) N24_2 2 B24_2 K n (fill f24_2_sh [.i x1, .i x2, .l x3, .l x4, .l x5, .l x6, .l x7])) = f24_2_lp N (fun y1 y2 y3 y4 y5 y6 y7 y8 => K (Go.Eng.X.normal) (fill f24_2_ex1 [.b y1, .i y2, .i y3, .l y4, .l y5, .l y6, .l y7, .l y8])) n from by funext x1 x2 x3 x4 x5 x6 x7; exact f24_2_lp_eq N K n x1 x2 x3 x4 x5 x6 x7]
theorem f24_2_ok (N : Nat) (hlp : LoopsOk Try.prog (E24 N).lp B24_2) (hΓ : CtxOk Try.prog (E24 N).Γ) : LoopOk Try.prog (mkL N24_2 f24_2_sh (f24_2_F N)) 2 B24_2 := by
  refine loopOk_of (E := E24 N) thOk hΓ mixed hlp ?_
  intro R ls K r h
  unfold f24_2_F at h
  split at h
  · exact ⟨N, by rw [f24_2_lp_eq]; exact h⟩
  · cases h
theorem f24_6_st_eq {R : Type} (N : Nat) (K : X → AS → Option R) (n : Nat) (x1 : Int) (x2 : List Int) (x3 : Int) (x4 : List Int) (x5 : List Int) (x6 : List Int) (x7 : List Int) (x8 : List Int) : roundsOf (E24 N) N24_6 6 B24_6 K (n + 1) (fill f24_6_sh [.i x1, .l x2, .i x3, .l x4, .l x5, .l x6, .l x7, .l x8]) = f24_6_st N (fun x1 x2 x3 x4 x5 x6 x7 x8 => roundsOf (E24 N) N24_6 6 B24_6 K n (fill f24_6_sh [.i x1, .l x2, .i x3, .l x4, .l x5, .l x6, .l x7, .l x8])) (fun y1 y2 y3 y4 y5 y6 y7 y8 y9 => K (Go.Eng.X.normal) (fill f24_6_ex1 [.b y1, .i y2, .l y3, .i y4, .l y5, .l y6, .l y7, .l y8, .l y9])) x1 x2 x3 x4 x5 x6 x7 x8 := by kernel_rfl
theorem f24_6_lp_eq {R : Type} (N : Nat) (K : X → AS → Option R) : ∀ (n : Nat) (x1 : Int) (x2 : List Int) (x3 : Int) (x4 : List Int) (x5 : List Int) (x6 : List Int) (x7 : List Int) (x8 : List Int), roundsOf (E24 N) N24_6 6 B24_6 K n (fill f24_6_sh [.i x1, .l x2, .i x3, .l x4, .l x5, .l x6, .l x7, .l x8]) = f24_6_lp N (fun y1 y2 y3 y4 y5 y6 y7 y8 y9 => K (Go.Eng.X.normal) (fill f24_6_ex1 [.b y1, .i y2, .l y3, .i y4, .l y5, .l y6, .l y7, .l y8, .l y9])) n x1 x2 x3 x4 x5 x6 x7 x8
  | 0, _, _, _, _, _, _, _, _ => rfl
  | n + 1, x1, x2, x3, x4, x5, x6, x7, x8 => by
    rw [f24_6_st_eq, f24_6_lp, show (fun x1 x2 x3 x4 x5 x6 x7 x8 => roundsOf (E24 N) N24_6 6 B24_6 K n (fill f24_6_sh [.i x1, .l x2, .i x3, .l x4, .l x5, .l x6, .l x7, .l x8])) = f24_6_lp N (fun y1 y2 y3 y4 y5 y6 y7 y8 y9 => K (Go.Eng.X.normal) (fill f24_6_ex1 [.b y1, .i y2, .l y3, .i y4, .l y5, .l y6, .l y7, .l y8, .l y9])) n from by funext x1 x2 x3 x4 x5 x6 x7 x8; exact f24_6_lp_eq N K n x1 x2 x3 x4 x5 x6 x7 x8]
theorem f24_6_ok (N : Nat) (hlp : LoopsOk Try.prog (E24 N).lp B24_6) (hΓ : CtxOk Try.prog (E24 N).Γ) : LoopOk Try.prog (mkL N24_6 f24_6_sh (f24_6_F N)) 6 B24_6 := by
  refine loopOk_of (E := E24 N) thOk hΓ mixed hlp ?_
  intro R ls K r h
  unfold f24_6_F at h
  split at h
  · exact ⟨N, by rw [f24_6_lp_eq]; exact h⟩
  · cases h
theorem f24_4_st_eq {R : Type} (N : Nat) (K : X → AS → Option R) (n : Nat) (x1 : Int) (x2 : List Int) (x3 : List Int) (x4 : List Int) (x5 : List Int) (x6 : List Int) : roundsOf (E24 N) N24_4 4 B24_4 K (n + 1) (fill f24_4_sh [.i x1, .l x2, .l x3, .l x4, .l x5, .l x6]) = f24_4_st N (fun x1 x2 x3 x4 x5 x6 => roundsOf (E24 N) N24_4 4 B24_4 K n (fill f24_4_sh [.i x1, .l x2, .l x3, .l x4, .l x5, .l x6])) (fun y1 y2 y3 y4 y5 y6 y7 => K (Go.Eng.X.normal) (fill f24_4_ex1 [.b y1, .i y2, .l y3, .l y4, .l y5, .l y6, .l y7])) x1 x2 x3 x4 x5 x6 := by kernel_rfl
theorem f24_4_lp_eq {R : Type} (N : Nat) (K : X → AS → Option R) : ∀ (n : Nat) (x1 : Int) (x2 : List Int) (x3 : List Int) (x4 : List Int) (x5 : List Int) (x6 : List Int), roundsOf (E24 N) N24_4 4 B24_4 K n (fill f24_4_sh [.i x1, .l x2, .l x3, .l x4, .l x5, .l x6]) = f24_4_lp N (fun y1 y2 y3 y4 y5 y6 y7 => K (Go.Eng.X.normal) (fill f24_4_ex1 [.b y1, .i y2, .l y3, .l y4, .l y5, .l y6, .l y7])) n x1 x2 x3 x4 x5 x6
  | 0, _, _, _, _, _, _ => rfl
  | n + 1, x1, x2, x3, x4, x5, x6 => by
    rw [f24_4_st_eq, f24_4_lp, show (fun x1 x2 x3 x4 x5 x6 => roundsOf (E24 N) N24_4 4 B24_4 K n (fill f24_4_sh [.i x1, .l x2, .l x3, .l x4, .l x5, .l x6])) = f24_4_lp N (fun y1 y2 y3 y4 y5 y6 y7 => K (Go.Eng.X.normal) (fill f24_4_ex1 [.b y1, .i y2, .l y3, .l y4, .l y5, .l y6, .l y7])) n from by funext x1 x2 x3 x4 x5 x6; exact f24_4_lp_eq N K n x1 x2 x3 x4 x5 x6]
theorem f24_4_ok (N : Nat) (hlp : LoopsOk Try.prog (E24 N).lp B24_4) (hΓ : CtxOk Try.prog (E24 N).Γ) : LoopOk Try.prog (mkL N24_4 f24_4_sh (f24_4_F N)) 4 B24_4 := by
  refine loopOk_of (E := E24 N) thOk hΓ mixed hlp ?_
  intro R ls K r h
  unfold f24_4_F at h
  split at h
  · exact ⟨N, by rw [f24_4_lp_eq]; exact h⟩
  · cases h
theorem f24_10_st_eq {R : Type} (N : Nat) (K : X → AS → Option R) (n : Nat) (x1 : Int) (x2 : Int) (x3 : Int) (x4 : Int) (x5 : Int) (x6 : List Int) (x7 : List Int) (x8 : List Int) (x9 : List Int) : roundsOf (E24 N) N24_10 10 B24_10 K (n + 1) (fill f24_10_sh [.i x1, .i x2, .i x3, .i x4, .i x5, .l x6, .l x7, .l x8, .l x9]) = f24_10_st N (fun x1 x2 x3 x4 x5 x6 x7 x8 x9 => roundsOf (E24 N) N24_10 10 B24_10 K n (fill f24_10_sh [.i x1, .i x2, .i x3, .i x4, .i x5, .l x6, .l x7, .l x8, .l x9])) (fun y1 y2 y3 y4 y5 y6 y7 y8 y9 y10 => K (Go.Eng.X.normal) (fill f24_10_ex1 [.b y1, .i y2, .i y3, .i y4, .i y5, .i y6, .l y7, .l y8, .l y9, .l y10])) x1 x2 x3 x4 x5 x6 x7 x8 x9 := by kernel_rfl
theorem f24_10_lp_eq {R : Type} (N : Nat) (K : X → AS → Option R) : ∀ (n : Nat) (x1 : Int) (x2 : Int) (x3 : Int) (x4 : Int) (x5 : Int) (x6 : List Int) (x7 : List Int) (x8 : List Int) (x9 : List Int), roundsOf (E24 N) N24_10 10 B24_10 K n (fill f24_10_sh [.i x1, .i x2, .i x3, .i x4, .i x5, .l x6, .l x7, .l x8, .l x9]) = f24_10_lp N (fun y1 y2 y3 y4 y5 y6 y7 y8 y9 y10 => K (Go.Eng.X.normal) (fill f24_10_ex1 [.b y1, .i y2, .i y3, .i y4, .i y5, .i y6, .l y7, .l y8, .l y9, .l y10])) n x1 x2 x3 x4 x5 x6 x7 x8 x9
  | 0, _, _, _, _, _, _, _, _, _ => rfl
  | n + 1, x1, x2, x3, x4, x5, x6, x7, x8, x9 => by
    rw [f24_10_st_eq, f24_10_lp, show (fun x1 x2 x3 x4 x5 x6 x7 x8 x9 => roundsOf (E24 N) N24_10 10 B24_10 K n (fill f24_10_sh [.i x1, .i x2, .i x3, .i x4, .i x5, .l x6, .l x7, .l x8, .l x9])) = f24_10_lp N (fun y1 y2 y3 y4 y5 y6 y7 y8 y9 y10 => K (Go.Eng.X.normal) (fill f24_10_ex1 [.b y1, .i y2, .i y3, .i y4, .i y5, .i y6, .l y7, .l y8, .l y9, .l y10])) n from by funext x1 x2 x3 x4 x5 x6 x7 x8 x9; exact f24_10_lp_eq N K n x1 x2 x3 x4 x5 x6 x7 x8 x9]
theorem f24_10_ok (N : Nat) (hlp : LoopsOk Try.prog (E24 N).lp B24_10) (hΓ : CtxOk Try.prog (E24 N).Γ) : LoopOk Try.prog (mkL N24_10 f24_10_sh (f24_10_F N)) 10 B24_10 := by
  refine loopOk_of (E := E24 N) thOk hΓ mixed hlp ?_
  intro R ls K r h
  unfold f24_10_F at h
  split at h
  · exact ⟨N, by rw [f24_10_lp_eq]; exact h⟩
  · cases h
theorem f24_8_st_eq {R : Type} (N : Nat) (K : X → AS → Option R) (n : Nat) (x1 : Int) (x2 : Int) (x3 : List Int) (x4 : List Int) (x5 : List Int) (x6 : List Int) : roundsOf (E24 N) N24_8 8 B24_8 K (n + 1) (fill f24_8_sh [.i x1, .i x2, .l x3, .l x4, .l x5, .l x6]) = f24_8_st N (fun x1 x2 x3 x4 x5 x6 => roundsOf (E24 N) N24_8 8 B24_8 K n (fill f24_8_sh [.i x1, .i x2, .l x3, .l x4, .l x5, .l x6])) (fun y1 y2 y3 y4 y5 y6 y7 => K (Go.Eng.X.normal) (fill f24_8_ex1 [.b y1, .i y2, .i y3, .l y4, .l y5, .l y6, .l y7])) x1 x2 x3 x4 x5 x6 := by kernel_rfl
theorem f24_8_lp_eq {R : Type} (N : Nat) (K : X → AS → Option R) : ∀ (n : Nat) (x1 : Int) (x2 : Int) (x3 : List Int) (x4 : List Int) (x5 : List Int) (x6 : List Int), roundsOf (E24 N) N24_8 8 B24_8 K n (fill f24_8_sh [.i x1, .i x2, .l x3, .l x4, .l x5, .l x6]) = f24_8_lp N (fun y1 y2 y3 y4 y5 y6 y7 => K (Go.Eng.X.normal) (fill f24_8_ex1 [.b y1, .i y2, .i y3, .l y4, .l y5, .l y6, .l y7])) n x1 x2 x3 x4 x5 x6
  | 0, _, _, _, _, _, _ => rfl
  | n + 1, x1, x2, x3, x4, x5, x6 => by
    rw [f24_8_st_eq, f24_8_lp, show (fun x1 x2 x3 x4 x5 x6 => roundsOf (E24 N) N24_8 8 B24_8 K n (fill f24_8_sh [.i x1, .i x2, .l x3, .l x4, .l x5, .l x6])) = f24_8_lp N (fun y1 y2 y3 y4 y5 y6 y7 => K (Go.Eng.X.normal) (fill f24_8_ex1 [.b y1, .i y2, .i y3, .l y4, .l y5, .l y6, .l y7])) n from by funext x1 x2 x3 x4 x5 x6; exact f24_8_lp_eq N K n x1 x2 x3 x4 x5 x6]
theorem f24_8_ok (N : Nat) (hlp : LoopsOk Try.prog (E24 N).lp B24_8) (hΓ : CtxOk Try.prog (E24 N).Γ) : LoopOk Try.prog (mkL N24_8 f24_8_sh (f24_8_F N)) 8 B24_8 := by
  refine loopOk_of (E := E24 N) thOk hΓ mixed hlp ?_
  intro R ls K r h
  unfold f24_8_F at h
  split at h
  · exact ⟨N, by rw [f24_8_lp_eq]; exact h⟩
  · cases h

theorem lok24_10 (N : Nat) (hΓ : CtxOk Try.prog G24) : LoopOk Try.prog (mkL N24_10 f24_10_sh (f24_10_F N)) 10 B24_10 := f24_10_ok N (loopsOk_of (l := []) (by kernel_rfl) trivial) hΓ
theorem lok24_8 (N : Nat) (hΓ : CtxOk Try.prog G24) : LoopOk Try.prog (mkL N24_8 f24_8_sh (f24_8_F N)) 8 B24_8 := f24_8_ok N (loopsOk_of (l := [(10, B24_10)]) (by kernel_rfl) (allOk_cons (L := mkL N24_10 f24_10_sh (f24_10_F N)) rfl (lok24_10 N hΓ) trivial)) hΓ
theorem lok24_6 (N : Nat) (hΓ : CtxOk Try.prog G24) : LoopOk Try.prog (mkL N24_6 f24_6_sh (f24_6_F N)) 6 B24_6 := f24_6_ok N (loopsOk_of (l := []) (by kernel_rfl) trivial) hΓ
theorem lok24_4 (N : Nat) (hΓ : CtxOk Try.prog G24) : LoopOk Try.prog (mkL N24_4 f24_4_sh (f24_4_F N)) 4 B24_4 := f24_4_ok N (loopsOk_of (l := [(6, B24_6)]) (by kernel_rfl) (allOk_cons (L := mkL N24_6 f24_6_sh (f24_6_F N)) rfl (lok24_6 N hΓ) trivial)) hΓ
theorem lok24_2 (N : Nat) (hΓ : CtxOk Try.prog G24) : LoopOk Try.prog (mkL N24_2 f24_2_sh (f24_2_F N)) 2 B24_2 := f24_2_ok N (loopsOk_of (l := []) (by kernel_rfl) trivial) hΓ
theorem lok24_0 (N : Nat) (hΓ : CtxOk Try.prog G24) : LoopOk Try.prog (mkL N24_0 f24_0_sh (f24_0_F N)) 0 B24_0 := f24_0_ok N (loopsOk_of (l := []) (by kernel_rfl) trivial) hΓ
theorem f24_contract (N : Nat) (hΓ : CtxOk Try.prog G24) : Contract Try.prog 24 { sig := S24, impl := fun _ ds k => call (E24 N) S24 123 B24 R24 ds k } :=
  call_contract (E := E24 N) thOk hΓ mixed ok24.look ok24.body ok24.n ok24.rv ok24.name rfl (by decide) (loopsOk_of (l := [(0, B24_0), (2, B24_2), (4, B24_4), (6, B24_6), (8, B24_8), (10, B24_10)]) (by kernel_rfl) (allOk_cons (L := mkL N24_0 f24_0_sh (f24_0_F N)) rfl (lok24_0 N hΓ) (allOk_cons (L := mkL N24_2 f24_2_sh (f24_2_F N)) rfl (lok24_2 N hΓ) (allOk_cons (L := mkL N24_4 f24_4_sh (f24_4_F N)) rfl (lok24_4 N hΓ) (allOk_cons (L := mkL N24_6 f24_6_sh (f24_6_F N)) rfl (lok24_6 N hΓ) (allOk_cons (L := mkL N24_8 f24_8_sh (f24_8_F N)) rfl (lok24_8 N hΓ) (allOk_cons (L := mkL N24_10 f24_10_sh (f24_10_F N)) rfl (lok24_10 N hΓ) trivial)))))))
theorem f24_raw_eq {R : Type} (N : Nat) (key : List Int) (b : List Int) (k : List DV → Option R) : call (E24 N) S24 123 B24 R24 [.v (.one (.ints .u8 32 key)), .lst (.one .u8) 1 b] k = f24_raw N key b k := by kernel_rfl
end Go.Proofs.Ytiaddnmloonhgaa

/- What rime/seal.Block comes to. MADE BY PROGRAM (wip/tools/mkfn.py, EngGen.lean). -/
namespace Go.Proofs.Ytiaddnmloonhgaa
open Go Go.Eng
set_option maxRecDepth 100000
set_option linter.unusedVariables false

def f18_0_sh : Shp := { n := 100, lo := 3, slots := [(1, .one (.int Go.IntKind.u32)), (3, .one (.fix (Go.Eng.At.ptr 3 0 Go.Eng.Off.z 32))), (5, .one (.fix (Go.Eng.At.ptr 5 0 Go.Eng.Off.z 12))), (6, .one (.fix (Go.Eng.At.ptr 6 0 Go.Eng.Off.z 64))), (7, .one (.fix (Go.Eng.At.ptr 7 0 Go.Eng.Off.z 16))), (16, .one (.int Go.IntKind.i64))], items := [(3, .obj [.ints Go.IntKind.u8 32]), (5, .obj [.ints Go.IntKind.u8 12]), (6, .obj [.ints Go.IntKind.u8 64]), (7, .obj [.ints Go.IntKind.u32 16])] }
def f18_0_ex1 : Shp := { n := 100, lo := 3, slots := [(17, .one (.bool)), (1, .one (.int Go.IntKind.u32)), (3, .one (.fix (Go.Eng.At.ptr 3 0 Go.Eng.Off.z 32))), (5, .one (.fix (Go.Eng.At.ptr 5 0 Go.Eng.Off.z 12))), (6, .one (.fix (Go.Eng.At.ptr 6 0 Go.Eng.Off.z 64))), (7, .one (.fix (Go.Eng.At.ptr 7 0 Go.Eng.Off.z 16))), (16, .one (.int Go.IntKind.i64))], items := [(3, .obj [.ints Go.IntKind.u8 32]), (5, .obj [.ints Go.IntKind.u8 12]), (6, .obj [.ints Go.IntKind.u8 64]), (7, .obj [.ints Go.IntKind.u32 16])] }
def f18_0_st {R : Type} (N : Nat) (self : Int → Int → List Int → List Int → List Int → List Int → Option R) (k1 : Bool → Int → Int → List Int → List Int → List Int → List Int → Option R) (x1 : Int) (x2 : Int) (x3 : List Int) (x4 : List Int) (x5 : List Int) (x6 : List Int) : Option R :=
  bif Decidable.decide (x2 < 8) then
  let v0 : Int := Go.IntKind.i64.wrap (4 * x2);
  let v1 : Int := Go.IntKind.i64.wrap (v0 + 4);
  bif Go.Eng.hiOk (Option.some v1) 32 then
    bif Go.Eng.loOk (Option.some v0) (Go.Eng.hiInt (Option.some v1) 32) then
      bif (Go.Eng.sub x3 (Go.Eng.plusO Go.Eng.Off.z 1 (Option.some v0)) (Go.Eng.mulE (Go.Eng.subN (Go.Eng.hiNat (Option.some v1) 32) (Option.some v0)) 1)).length.ble 1048576 then
        let v2 : Int := Go.IntKind.i64.wrap (4 + x2);
        bif Decidable.decide (0 ≤ v2) && Decidable.decide (v2 < ↑16) then
          let v3 : Int := Go.IntKind.i64.wrap (x2 + 1);
          let v4 : Int := Go.IntKind.u32.wrap (Go.Proofs.Ytiaddnmloonhgaa.lowL (Go.Eng.sub x3 (Go.Eng.plusO Go.Eng.Off.z 1 (Option.some v0)) (Go.Eng.mulE (Go.Eng.subN (Go.Eng.hiNat (Option.some v1) 32) (Option.some v0)) 1)));
          let v5 : List Int := x6.set (Go.Eng.mulE v2.toNat 1) v4;
          self x1 v3 x3 x4 x5 v5
        else Option.none
      else Option.none
    else Option.none
  else Option.none
else k1 (Decidable.decide (x2 < 8)) x1 x2 x3 x4 x5 x6
def f18_0_lp {R : Type} (N : Nat) (k1 : Bool → Int → Int → List Int → List Int → List Int → List Int → Option R) : Nat → Int → Int → List Int → List Int → List Int → List Int → Option R
  | 0, _, _, _, _, _, _ => none
  | n + 1, x1, x2, x3, x4, x5, x6 => f18_0_st N (f18_0_lp N k1 n) k1 x1 x2 x3 x4 x5 x6
def f18_0_F (N : Nat) : (R : Type) → List Leaf → (X → AS → Option R) → Option R := fun _ ls K => match ls with
  | [.i x1, .i x2, .l x3, .l x4, .l x5, .l x6] => f18_0_lp N (fun y1 y2 y3 y4 y5 y6 y7 => K (Go.Eng.X.normal) (fill f18_0_ex1 [.b y1, .i y2, .i y3, .l y4, .l y5, .l y6, .l y7])) N x1 x2 x3 x4 x5 x6
  | _ => none
def f18_2_sh : Shp := { n := 100, lo := 3, slots := [(5, .one (.fix (Go.Eng.At.ptr 5 0 Go.Eng.Off.z 12))), (6, .one (.fix (Go.Eng.At.ptr 6 0 Go.Eng.Off.z 64))), (7, .one (.fix (Go.Eng.At.ptr 7 0 Go.Eng.Off.z 16))), (33, .one (.int Go.IntKind.i64))], items := [(5, .obj [.ints Go.IntKind.u8 12]), (6, .obj [.ints Go.IntKind.u8 64]), (7, .obj [.ints Go.IntKind.u32 16])] }
def f18_2_ex1 : Shp := { n := 100, lo := 3, slots := [(34, .one (.bool)), (5, .one (.fix (Go.Eng.At.ptr 5 0 Go.Eng.Off.z 12))), (6, .one (.fix (Go.Eng.At.ptr 6 0 Go.Eng.Off.z 64))), (7, .one (.fix (Go.Eng.At.ptr 7 0 Go.Eng.Off.z 16))), (33, .one (.int Go.IntKind.i64))], items := [(5, .obj [.ints Go.IntKind.u8 12]), (6, .obj [.ints Go.IntKind.u8 64]), (7, .obj [.ints Go.IntKind.u32 16])] }
def f18_2_st {R : Type} (N : Nat) (self : Int → List Int → List Int → List Int → Option R) (k1 : Bool → Int → List Int → List Int → List Int → Option R) (x1 : Int) (x2 : List Int) (x3 : List Int) (x4 : List Int) : Option R :=
  bif Decidable.decide (x1 < 3) then
  let v0 : Int := Go.IntKind.i64.wrap (4 * x1);
  let v1 : Int := Go.IntKind.i64.wrap (v0 + 4);
  bif Go.Eng.hiOk (Option.some v1) 12 then
    bif Go.Eng.loOk (Option.some v0) (Go.Eng.hiInt (Option.some v1) 12) then
      bif (Go.Eng.sub x2 (Go.Eng.plusO Go.Eng.Off.z 1 (Option.some v0)) (Go.Eng.mulE (Go.Eng.subN (Go.Eng.hiNat (Option.some v1) 12) (Option.some v0)) 1)).length.ble 1048576 then
        let v2 : Int := Go.IntKind.i64.wrap (13 + x1);
        bif Decidable.decide (0 ≤ v2) && Decidable.decide (v2 < ↑16) then
          let v3 : Int := Go.IntKind.i64.wrap (x1 + 1);
          let v4 : Int := Go.IntKind.u32.wrap (Go.Proofs.Ytiaddnmloonhgaa.lowL (Go.Eng.sub x2 (Go.Eng.plusO Go.Eng.Off.z 1 (Option.some v0)) (Go.Eng.mulE (Go.Eng.subN (Go.Eng.hiNat (Option.some v1) 12) (Option.some v0)) 1)));
          let v5 : List Int := x4.set (Go.Eng.mulE v2.toNat 1) v4;
          self v3 x2 x3 v5
        else Option.none
      else Option.none
    else Option.none
  else Option.none
else k1 (Decidable.decide (x1 < 3)) x1 x2 x3 x4
def f18_2_lp {R : Type} (N : Nat) (k1 : Bool → Int → List Int → List Int → List Int → Option R) : Nat → Int → List Int → List Int → List Int → Option R
  | 0, _, _, _, _ => none
  | n + 1, x1, x2, x3, x4 => f18_2_st N (f18_2_lp N k1 n) k1 x1 x2 x3 x4
def f18_2_F (N : Nat) : (R : Type) → List Leaf → (X → AS → Option R) → Option R := fun _ ls K => match ls with
  | [.i x1, .l x2, .l x3, .l x4] => f18_2_lp N (fun y1 y2 y3 y4 y5 => K (Go.Eng.X.normal) (fill f18_2_ex1 [.b y1, .i y2, .l y3, .l y4, .l y5])) N x1 x2 x3 x4
  | _ => none
def f18_6_sh : Shp := { n := 100, lo := 3, slots := [(6, .one (.fix (Go.Eng.At.ptr 6 0 Go.Eng.Off.z 64))), (7, .one (.fix (Go.Eng.At.ptr 7 0 Go.Eng.Off.z 16))), (10, .one (.fix (Go.Eng.At.ptr 10 0 Go.Eng.Off.z 16))), (49, .one (.int Go.IntKind.i64)), (51, .one (.int Go.IntKind.i64))], items := [(6, .obj [.ints Go.IntKind.u8 64]), (7, .obj [.ints Go.IntKind.u32 16]), (10, .obj [.ints Go.IntKind.u32 16])] }
def f18_6_ex1 : Shp := { n := 100, lo := 3, slots := [(52, .one (.bool)), (6, .one (.fix (Go.Eng.At.ptr 6 0 Go.Eng.Off.z 64))), (7, .one (.fix (Go.Eng.At.ptr 7 0 Go.Eng.Off.z 16))), (10, .one (.fix (Go.Eng.At.ptr 10 0 Go.Eng.Off.z 16))), (49, .one (.int Go.IntKind.i64)), (51, .one (.int Go.IntKind.i64))], items := [(6, .obj [.ints Go.IntKind.u8 64]), (7, .obj [.ints Go.IntKind.u32 16]), (10, .obj [.ints Go.IntKind.u32 16])] }
def f18_6_st {R : Type} (N : Nat) (self : Int → Int → List Int → List Int → List Int → Option R) (k1 : Bool → Int → Int → List Int → List Int → List Int → Option R) (x1 : Int) (x2 : Int) (x3 : List Int) (x4 : List Int) (x5 : List Int) : Option R :=
  bif Decidable.decide (x2 < 4) then
  let v0 : Int := Go.IntKind.i64.wrap (4 + x2);
  let v1 : Int := Go.IntKind.i64.wrap (8 + x2);
  let v2 : Int := Go.IntKind.i64.wrap (12 + x2);
  bif Go.Proofs.Ytiaddnmloonhgaa.in16 x2 && (Go.Proofs.Ytiaddnmloonhgaa.in16 v0 && (Go.Proofs.Ytiaddnmloonhgaa.in16 v1 && Go.Proofs.Ytiaddnmloonhgaa.in16 v2)) then
    let v3 : Int := Go.IntKind.i64.wrap (x2 + 1);
    self x1 v3 x3 x4 (Go.Proofs.Ytiaddnmloonhgaa.quarterL x5 x2.toNat v0.toNat v1.toNat v2.toNat)
  else Option.none
else k1 (Decidable.decide (x2 < 4)) x1 x2 x3 x4 x5
def f18_6_lp {R : Type} (N : Nat) (k1 : Bool → Int → Int → List Int → List Int → List Int → Option R) : Nat → Int → Int → List Int → List Int → List Int → Option R
  | 0, _, _, _, _, _ => none
  | n + 1, x1, x2, x3, x4, x5 => f18_6_st N (f18_6_lp N k1 n) k1 x1 x2 x3 x4 x5
def f18_6_F (N : Nat) : (R : Type) → List Leaf → (X → AS → Option R) → Option R := fun _ ls K => match ls with
  | [.i x1, .i x2, .l x3, .l x4, .l x5] => f18_6_lp N (fun y1 y2 y3 y4 y5 y6 => K (Go.Eng.X.normal) (fill f18_6_ex1 [.b y1, .i y2, .i y3, .l y4, .l y5, .l y6])) N x1 x2 x3 x4 x5
  | _ => none
def f18_8_sh : Shp := { n := 100, lo := 3, slots := [(6, .one (.fix (Go.Eng.At.ptr 6 0 Go.Eng.Off.z 64))), (7, .one (.fix (Go.Eng.At.ptr 7 0 Go.Eng.Off.z 16))), (10, .one (.fix (Go.Eng.At.ptr 10 0 Go.Eng.Off.z 16))), (49, .one (.int Go.IntKind.i64)), (63, .one (.int Go.IntKind.i64))], items := [(6, .obj [.ints Go.IntKind.u8 64]), (7, .obj [.ints Go.IntKind.u32 16]), (10, .obj [.ints Go.IntKind.u32 16])] }
def f18_8_ex1 : Shp := { n := 100, lo := 3, slots := [(64, .one (.bool)), (6, .one (.fix (Go.Eng.At.ptr 6 0 Go.Eng.Off.z 64))), (7, .one (.fix (Go.Eng.At.ptr 7 0 Go.Eng.Off.z 16))), (10, .one (.fix (Go.Eng.At.ptr 10 0 Go.Eng.Off.z 16))), (49, .one (.int Go.IntKind.i64)), (63, .one (.int Go.IntKind.i64))], items := [(6, .obj [.ints Go.IntKind.u8 64]), (7, .obj [.ints Go.IntKind.u32 16]), (10, .obj [.ints Go.IntKind.u32 16])] }
def f18_8_st {R : Type} (N : Nat) (self : Int → Int → List Int → List Int → List Int → Option R) (k1 : Bool → Int → Int → List Int → List Int → List Int → Option R) (x1 : Int) (x2 : Int) (x3 : List Int) (x4 : List Int) (x5 : List Int) : Option R :=
  bif Decidable.decide (x2 < 4) then
  let v0 : Int := Go.IntKind.i64.wrap (x2 + 1);
  let v1 : Int := Go.IntKind.i64.wrap (4 + v0.tmod 4);
  let v2 : Int := Go.IntKind.i64.wrap (x2 + 2);
  let v3 : Int := Go.IntKind.i64.wrap (8 + v2.tmod 4);
  let v4 : Int := Go.IntKind.i64.wrap (x2 + 3);
  let v5 : Int := Go.IntKind.i64.wrap (12 + v4.tmod 4);
  bif Go.Proofs.Ytiaddnmloonhgaa.in16 x2 && (Go.Proofs.Ytiaddnmloonhgaa.in16 v1 && (Go.Proofs.Ytiaddnmloonhgaa.in16 v3 && Go.Proofs.Ytiaddnmloonhgaa.in16 v5)) then self x1 v0 x3 x4 (Go.Proofs.Ytiaddnmloonhgaa.quarterL x5 x2.toNat v1.toNat v3.toNat v5.toNat) else Option.none
else k1 (Decidable.decide (x2 < 4)) x1 x2 x3 x4 x5
def f18_8_lp {R : Type} (N : Nat) (k1 : Bool → Int → Int → List Int → List Int → List Int → Option R) : Nat → Int → Int → List Int → List Int → List Int → Option R
  | 0, _, _, _, _, _ => none
  | n + 1, x1, x2, x3, x4, x5 => f18_8_st N (f18_8_lp N k1 n) k1 x1 x2 x3 x4 x5
def f18_8_F (N : Nat) : (R : Type) → List Leaf → (X → AS → Option R) → Option R := fun _ ls K => match ls with
  | [.i x1, .i x2, .l x3, .l x4, .l x5] => f18_8_lp N (fun y1 y2 y3 y4 y5 y6 => K (Go.Eng.X.normal) (fill f18_8_ex1 [.b y1, .i y2, .i y3, .l y4, .l y5, .l y6])) N x1 x2 x3 x4 x5
  | _ => none
def f18_4_sh : Shp := { n := 100, lo := 3, slots := [(6, .one (.fix (Go.Eng.At.ptr 6 0 Go.Eng.Off.z 64))), (7, .one (.fix (Go.Eng.At.ptr 7 0 Go.Eng.Off.z 16))), (10, .one (.fix (Go.Eng.At.ptr 10 0 Go.Eng.Off.z 16))), (49, .one (.int Go.IntKind.i64))], items := [(6, .obj [.ints Go.IntKind.u8 64]), (7, .obj [.ints Go.IntKind.u32 16]), (10, .obj [.ints Go.IntKind.u32 16])] }
def f18_4_ex1 : Shp := { n := 100, lo := 3, slots := [(50, .one (.bool)), (6, .one (.fix (Go.Eng.At.ptr 6 0 Go.Eng.Off.z 64))), (7, .one (.fix (Go.Eng.At.ptr 7 0 Go.Eng.Off.z 16))), (10, .one (.fix (Go.Eng.At.ptr 10 0 Go.Eng.Off.z 16))), (49, .one (.int Go.IntKind.i64))], items := [(6, .obj [.ints Go.IntKind.u8 64]), (7, .obj [.ints Go.IntKind.u32 16]), (10, .obj [.ints Go.IntKind.u32 16])] }
def f18_4_st {R : Type} (N : Nat) (self : Int → List Int → List Int → List Int → Option R) (k1 : Bool → Int → List Int → List Int → List Int → Option R) (x1 : Int) (x2 : List Int) (x3 : List Int) (x4 : List Int) : Option R :=
  bif Decidable.decide (x1 < 10) then
  f18_6_lp N
    (fun w0_1 w0_2 w0_3 w0_4 w0_5 w0_6 =>
      f18_8_lp N
        (fun w1_1 w1_2 w1_3 w1_4 w1_5 w1_6 =>
          let v2 : Int := Go.IntKind.i64.wrap (w1_2 + 1);
          self v2 w1_4 w1_5 w1_6)
        N w0_2 0 w0_4 w0_5 w0_6)
    N x1 0 x2 x3 x4
else k1 (Decidable.decide (x1 < 10)) x1 x2 x3 x4
def f18_4_lp {R : Type} (N : Nat) (k1 : Bool → Int → List Int → List Int → List Int → Option R) : Nat → Int → List Int → List Int → List Int → Option R
  | 0, _, _, _, _ => none
  | n + 1, x1, x2, x3, x4 => f18_4_st N (f18_4_lp N k1 n) k1 x1 x2 x3 x4
def f18_4_F (N : Nat) : (R : Type) → List Leaf → (X → AS → Option R) → Option R := fun _ ls K => match ls with
  | [.i x1, .l x2, .l x3, .l x4] => f18_4_lp N (fun y1 y2 y3 y4 y5 => K (Go.Eng.X.normal) (fill f18_4_ex1 [.b y1, .i y2, .l y3, .l y4, .l y5])) N x1 x2 x3 x4
  | _ => none
def f18_10_sh : Shp := { n := 100, lo := 3, slots := [(6, .one (.fix (Go.Eng.At.ptr 6 0 Go.Eng.Off.z 64))), (7, .one (.fix (Go.Eng.At.ptr 7 0 Go.Eng.Off.z 16))), (10, .one (.fix (Go.Eng.At.ptr 10 0 Go.Eng.Off.z 16))), (13, .one (.fix (Go.Eng.At.ptr 13 0 Go.Eng.Off.z 64))), (82, .one (.int Go.IntKind.i64))], items := [(6, .obj [.ints Go.IntKind.u8 64]), (7, .obj [.ints Go.IntKind.u32 16]), (10, .obj [.ints Go.IntKind.u32 16]), (13, .obj [.ints Go.IntKind.u8 64])] }
def f18_10_ex1 : Shp := { n := 100, lo := 3, slots := [(83, .one (.bool)), (6, .one (.fix (Go.Eng.At.ptr 6 0 Go.Eng.Off.z 64))), (7, .one (.fix (Go.Eng.At.ptr 7 0 Go.Eng.Off.z 16))), (10, .one (.fix (Go.Eng.At.ptr 10 0 Go.Eng.Off.z 16))), (13, .one (.fix (Go.Eng.At.ptr 13 0 Go.Eng.Off.z 64))), (82, .one (.int Go.IntKind.i64))], items := [(6, .obj [.ints Go.IntKind.u8 64]), (7, .obj [.ints Go.IntKind.u32 16]), (10, .obj [.ints Go.IntKind.u32 16]), (13, .obj [.ints Go.IntKind.u8 64])] }
def f18_10_st {R : Type} (N : Nat) (self : Int → List Int → List Int → List Int → List Int → Option R) (k1 : Bool → Int → List Int → List Int → List Int → List Int → Option R) (x1 : Int) (x2 : List Int) (x3 : List Int) (x4 : List Int) (x5 : List Int) : Option R :=
  bif Decidable.decide (x1 < 16) then
  let v0 : Int := Go.IntKind.i64.wrap (4 * x1);
  bif Go.Eng.loOk (Option.some v0) (Go.Eng.hiInt Option.none 64) then
    bif Decidable.decide (0 ≤ x1) && Decidable.decide (x1 < ↑16) then
      bif Decidable.decide (0 ≤ x1) && Decidable.decide (x1 < ↑16) then
        let v1 : Int := Go.IntKind.i64.wrap (x1 + 1);
        let v2 : Int := Go.IntKind.u32.wrap (x4.getD (Go.Eng.mulE x1.toNat 1) 0 + x3.getD (Go.Eng.mulE x1.toNat 1) 0);
        let v3 : Int := Go.IntKind.u64.wrap v2;
        let v4 : List Int := Go.Eng.splice x5 (Go.Eng.plusO Go.Eng.Off.z 1 (Option.some v0)) (List.take (Go.Eng.mulE (Min.min (Go.Eng.rowLen 1 (Go.Proofs.Ytiaddnmloonhgaa.bytesL v3 (Int.toNat 4))) (Go.Eng.subN (Go.Eng.hiNat Option.none 64) (Option.some v0))) 1) (Go.Proofs.Ytiaddnmloonhgaa.bytesL v3 (Int.toNat 4)));
        self v1 x2 x3 x4 v4
      else Option.none
    else Option.none
  else Option.none
else k1 (Decidable.decide (x1 < 16)) x1 x2 x3 x4 x5
def f18_10_lp {R : Type} (N : Nat) (k1 : Bool → Int → List Int → List Int → List Int → List Int → Option R) : Nat → Int → List Int → List Int → List Int → List Int → Option R
  | 0, _, _, _, _, _ => none
  | n + 1, x1, x2, x3, x4, x5 => f18_10_st N (f18_10_lp N k1 n) k1 x1 x2 x3 x4 x5
def f18_10_F (N : Nat) : (R : Type) → List Leaf → (X → AS → Option R) → Option R := fun _ ls K => match ls with
  | [.i x1, .l x2, .l x3, .l x4, .l x5] => f18_10_lp N (fun y1 y2 y3 y4 y5 y6 => K (Go.Eng.X.normal) (fill f18_10_ex1 [.b y1, .i y2, .l y3, .l y4, .l y5, .l y6])) N x1 x2 x3 x4 x5
  | _ => none
def f18_raw {R : Type} (N : Nat) (key : List Int) (ctr : Int) (nonce : List Int) (k : List DV → Option R) : Option R :=
 let v0 : List Int := (List.replicate 16 0).set 0 1634760805;
let v1 : List Int := v0.set 1 857760878;
let v2 : List Int := v1.set 2 2036477234;
let v3 : List Int := v2.set 3 1797285236;
f18_0_lp N
 (fun w4_1 w4_2 w4_3 w4_4 w4_5 w4_6 w4_7 =>
 let v5 : List Int := w4_7.set (Go.Eng.mulE (Int.toNat 12) 1) w4_2;
 f18_2_lp N (fun w6_1 w6_2 w6_3 w6_4 w6_5 => f18_4_lp N (fun w7_1 w7_2 w7_3 w7_4 w7_5 => f18_10_lp N (fun w8_1 w8_2 w8_3 w8_4 w8_5 w8_6 => k [Go.Eng.DV.v (Go.Eng.SV.one (Go.Eng.At.ints Go.IntKind.u8 64 w8_6))]) N 0 w7_3 w7_4 w7_5 (List.replicate 64 0)) N 0 w6_4 w6_5 w6_5) N 0 w4_5 w4_6 v5)
 N ctr 0 key nonce (List.replicate 64 0) v3


noncomputable def E18 (N : Nat) : Env := { Θ := Th, Γ := G18, K := K18, ν := N18, fuel := 0, lp := [(0, mkL N18_0 f18_0_sh (f18_0_F N)), (2, mkL N18_2 f18_2_sh (f18_2_F N)), (4, mkL N18_4 f18_4_sh (f18_4_F N)), (6, mkL N18_6 f18_6_sh (f18_6_F N)), (8, mkL N18_8 f18_8_sh (f18_8_F N)), (10, mkL N18_10 f18_10_sh (f18_10_F N))] }

theorem f18_0_st_eq {R : Type} (N : Nat) (K : X → AS → Option R) (n : Nat) (x1 : Int) (x2 : Int) (x3 : List Int) (x4 : List Int) (x5 : List Int) (x6 : List Int) : roundsOf (E18 N) N18_0 0 B18_0 K (n + 1) (fill f18_0_sh [.i x1, .i x2, .l x3, .l x4, .l x5, .l x6]) = f18_0_st N (fun x1 x2 x3 x4 x5 x6 => roundsOf (E18 N) N18_0 0 B18_0 K n (fill f18_0_sh [.i x1, .i x2, .l x3, .l x4, .l x5, .l x6])) (fun y1 y2 y3 y4 y5 y6 y7 => K (Go.Eng.X.normal) (fill f18_0_ex1 [.b y1, .i y2, .i y3, .l y4, .l y5, .l y6, .l y7])) x1 x2 x3 x4 x5 x6 := by kernel_rfl
theorem f18_0_lp_eq {R : Type} (N : Nat) (K : X → AS → Option R) : ∀ (n : Nat) (x1 : Int) (x2 : Int) (x3 : List Int) (x4 : List Int) (x5 : List Int) (x6 : List Int), roundsOf (E18 N) N18_0 0 B18_0 K n (fill f18_0_sh [.i x1, .i x2, .l x3, .l x4, .l x5, .l x6]) = f18_0_lp N (fun y1 y2 y3 y4 y5 y6 y7 => K (Go.Eng.X.normal) (fill f18_0_ex1 [.b y1, .i y2, .i y3, .l y4, .l y5, .l y6, .l y7])) n x1 x2 x3 x4 x5 x6
  | 0, _, _, _, _, _, _ => rfl
  | n + 1, x1, x2, x3, x4, x5, x6 => by
    rw [f18_0_st_eq, f18_0_lp, show (fun x1 x2 x3 x4 x5 x6 => roundsOf (E18 N) N18_0 0 B18_0 K n (fill f18_0_sh [.i x1, .i x2, .l x3, .l x4, .l x5, .l x6])) = f18_0_lp N (fun y1 y2 y3 y4 y5 y6 y7 => K (Go.Eng.X.normal) (fill f18_0_ex1 [.b y1, .i y2, .i y3, .l y4, .l y5, .l y6, .l y7])) n from by funext x1 x2 x3 x4 x5 x6; exact f18_0_lp_eq N K n x1 x2 x3 x4 x5 x6]
theorem f18_0_ok (N : Nat) (hlp : LoopsOk Try.prog (E18 N).lp B18_0) (hΓ : CtxOk Try.prog (E18 N).Γ) : LoopOk Try.prog (mkL N18_0 f18_0_sh (f18_0_F N)) 0 B18_0 := by
  refine loopOk_of (E := E18 N) thOk hΓ mixed hlp ?_
  intro R ls K r h
  unfold f18_0_F at h
  split at h
  · exact ⟨N, by rw [f18_0_lp_eq]; exact h⟩
  · cases h
theorem f18_2_st_eq {R : Type} (N : Nat) (K : X → AS → Option R) (n : Nat) (x1 : Int) (x2 : List Int) (x3 : List Int) (x4 : List Int) : roundsOf (E18 N) N18_2 2 B18_2 K (n + 1) (fill f18_2_sh [.i x1, .l x2, .l x3, .l x4]) = f18_2_st N (fun x1 x2 x3 x4 => roundsOf (E18 N) N18_2 2 B18_2 K n (fill f18_2_sh [.i x1, .l x2, .l x3, .l x4])) (fun y1 y2 y3 y4 y5 => K (Go.Eng.X.normal) (fill f18_2_ex1 [.b y1, .i y2, .l y3, .l y4, .l y5])) x1 x2 x3 x4 := by kernel_rfl
theorem f18_2_lp_eq {R : Type} (N : Nat) (K : X → AS → Option R) : ∀ (n : Nat) (x1 : Int) (x2 : List Int) (x3 : List Int) (x4 : List Int), roundsOf (E18 N) N18_2 2 B18_2 K n (fill f18_2_sh [.i x1, .l x2, .l x3, .l x4]) = f18_2_lp N (fun y1 y2 y3 y4 y5 => K (Go.Eng.X.normal) (fill f18_2_ex1 [.b y1, .i y2, .l y3, .l y4, .l y5])) n x1 x2 x3 x4
  | 0, _, _, _, _ => rfl
  | n + 1, x1, x2, x3, x4 => by
    rw [f18_2_st_eq, f18_2_lp, show (fun x1 x2 x3 x4 => roundsOf (E18 N) N18_2 2 B18_2 K n (fill f18_2_sh [.i x1, .l x2, .l x3, .l x4])) = f18_2_lp N (fun y1 y2 y3 y4 y5 => K (Go.Eng.X.normal) (fill f18_2_ex1 [.b y1, .i y2, .l y3, .l y4, .l y5])) n from by funext x1 x2 x3 x4; exact f18_2_lp_eq N K n x1 x2 x3 x4]
theorem f18_2_ok (N : Nat) (hlp : LoopsOk Try.prog (E18 N).lp B18_2) (hΓ : CtxOk Try.prog (E18 N).Γ) : LoopOk Try.prog (mkL N18_2 f18_2_sh (f18_2_F N)) 2 B18_2 := by
  refine loopOk_of (E := E18 N) thOk hΓ mixed hlp ?_
  intro R ls K r h
  unfold f18_2_F at h
  split at h
  · exact ⟨N, by rw [f18_2_lp_eq]; exact h⟩
  · cases h
theorem f18_6_st_eq {R : Type} (N : Nat) (K : X → AS → Option R) (n : Nat) (x1 : Int) (x2 : Int) (x3 : List Int) (x4 : List Int) (x5 : List Int) : roundsOf (E18 N) N18_6 6 B18_6 K (n + 1) (fill f18_6_sh [.i x1, .i x2, .l x3, .l x4, .l x5]) = f18_6_st N (fun x1 x2 x3 x4 x5 => roundsOf (E18 N) N18_6 6 B18_6 K n (fill f18_6_sh [.i x1, .i x2, .l x3, .l x4, .l x5])) (fun y1 y2 y3 y4 y5 y6 => K (Go.Eng.X.normal) (fill f18_6_ex1 [.b y1, .i y2, .i y3, .l y4, .l y5, .l y6])) x1 x2 x3 x4 x5 := by kernel_rfl
theorem f18_6_lp_eq {R : Type} (N : Nat) (K : X → AS → Option R) : ∀ (n : Nat) (x1 : Int) (x2 : Int) (x3 : List Int) (x4 : List Int) (x5 : List Int), roundsOf (E18 N) N18_6 6 B18_6 K n (fill f18_6_sh [.i x1, .i x2, .l x3, .l x4, .l x5]) = f18_6_lp N (fun y1 y2 y3 y4 y5 y6 => K (Go.Eng.X.normal) (fill f18_6_ex1 [.b y1, .i y2, .i y3, .l y4, .l y5, .l y6])) n x1 x2 x3 x4 x5
  | 0, _, _, _, _, _ => rfl
  | n + 1, x1, x2, x3, x4, x5 => by
    rw [f18_6_st_eq, f18_6_lp, show (fun x1 x2 x3 x4 x5 => roundsOf (E18 N) N18_6 6 B18_6 K n (fill f18_6_sh [.i x1, .i x2, .l x3, .l x4, .l x5])) = f18_6_lp N (fun y1 y2 y3 y4 y5 y6 => K (Go.Eng.X.normal) (fill f18_6_ex1 [.b y1, .i y2, .i y3, .l y4, .l y5, .l y6])) n from by funext x1 x2 x3 x4 x5; exact f18_6_lp_eq N K n x1 x2 x3 x4 x5]
theorem f18_6_ok (N : Nat) (hlp : LoopsOk Try.prog (E18 N).lp B18_6) (hΓ : CtxOk Try.prog (E18 N).Γ) : LoopOk Try.prog (mkL N18_6 f18_6_sh (f18_6_F N)) 6 B18_6 := by
  refine loopOk_of (E := E18 N) thOk hΓ mixed hlp ?_
  intro R ls K r h
  unfold f18_6_F at h
  split at h
  · exact ⟨N, by rw [f18_6_lp_eq]; exact h⟩
  · cases h
theorem f18_8_st_eq {R : Type} (N : Nat) (K : X → AS → Option R) (n : Nat) (x1 : Int) (x2 : Int) (x3 : List Int) (x4 : List Int) (x5 : List Int) : roundsOf (E18 N) N18_8 8 B18_8 K (n + 1) (fill f18_8_sh [.i x1, .i x2, .l x3, .l x4, .l x5]) = f18_8_st N (fun x1 x2 x3 x4 x5 => roundsOf (E18 N) N18_8 8 B18_8 K n (fill f18_8_sh [.i x1, .i x2, .l x3, .l x4, .l x5])) (fun y1 y2 y3 y4 y5 y6 => K (Go.Eng.X.normal) (fill f18_8_ex1 [.b y1, .i y2, .i y3, .l y4, .l y5, .l y6])) x1 x2 x3 x4 x5 := by kernel_rfl
theorem f18_8_lp_eq {R : Type} (N : Nat) (K : X → AS → Option R) : ∀ (n : Nat) (x1 : Int) (x2 : Int) (x3 : List Int) (x4 : List Int) (x5 : List Int), roundsOf (E18 N) N18_8 8 B18_8 K n (fill f18_8_sh [.i x1, .i x2, .l x3, .l x4, .l x5]) = f18_8_lp N (fun y1 y2 y3 y4 y5 y6 => K (Go.Eng.X.normal) (fill f18_8_ex1 [.b y1, .i y2, .i y3, .l y4, .l y5, .l y6])) n x1 x2 x3 x4 x5
  | 0, _, _, _, _, _ => rfl
  | n + 1, x1, x2, x3, x4, x5 => by
    rw [f18_8_st_eq, f18_8_lp, show (fun x1 x2 x3 x4 x5 => roundsOf (E18 N) N18_8 8 B18_8 K n (fill f18_8_sh [.i x1, .i x2, .l x3, .l x4, .l x5])) = f18_8_lp N (fun y1 y2 y3 y4 y5 y6 => K (Go.Eng.X.normal) (fill f18_8_ex1 [.b y1, .i y2, .i y3, .l y4, .l y5, .l y6])) n from by funext x1 x2 x3 x4 x5; exact f18_8_lp_eq N K n x1 x2 x3 x4 x5]
theorem f18_8_ok (N : Nat) (hlp : LoopsOk Try.prog (E18 N).lp B18_8) (hΓ : CtxOk Try.prog (E18 N).Γ) : LoopOk Try.prog (mkL N18_8 f18_8_sh (f18_8_F N)) 8 B18_8 := by
  refine loopOk_of (E := E18 N) thOk hΓ mixed hlp ?_
  intro R ls K r h
  unfold f18_8_F at h
  split at h
  · exact ⟨N, by rw [f18_8_lp_eq]; exact h⟩
  · cases h
theorem f18_4_st_eq {R : Type} (N : Nat) (K : X → AS → Option R) (n : Nat) (x1 : Int) (x2 : List Int) (x3 : List Int) (x4 : List Int) : roundsOf (E18 N) N18_4 4 B18_4 K (n + 1) (fill f18_4_sh [.i x1, .l x2, .l x3, .l x4]) = f18_4_st N (fun x1 x2 x3 x4 => roundsOf (E18 N) N18_4 4 B18_4 K n (fill f18_4_sh [.i x1, .l x2, .l x3, .l x4])) (fun y1 y2 y3 y4 y5 => K (Go.Eng.X.normal) (fill f18_4_ex1 [.b y1, .i y2, .l y3, .l y4, .l y5])) x1 x2 x3 x4 := by kernel_rfl
theorem f18_4_lp_eq {R : Type} (N : Nat) (K : X → AS → Option R) : ∀ (n : Nat) (x1 : Int) (x2 : List Int) (x3 : List Int) (x4 : List Int), roundsOf (E18 N) N18_4 4 B18_4 K n (fill f18_4_sh [.i x1, .l x2, .l x3, .l x4]) = f18_4_lp N (fun y1 y2 y3 y4 y5 => K (Go.Eng.X.normal) (fill f18_4_ex1 [.b y1, .i y2, .l y3, .l y4, .l y5])) n x1 x2 x3 x4
  | 0, _, _, _, _ => rfl
  | n + 1, x1, x2, x3, x4 => by
    rw [f18_4_st_eq, f18_4_lp, show (fun x1 x2 x3 x4 => roundsOf (E18 N) N18_4 4 B18_4 K n (fill f18_4_sh [.i x1, .l x2, .l x3, .l x4])) = f18_4_lp N (fun y1 y2 y3 y4 y5 => K (Go.Eng.X.normal) (fill f18_4_ex1 [.b y1, .i y2, .l y3, .l y4, .l y5])) n from by funext x1 x2 x3 x4; exact f18_4_lp_eq N K n x1 x2 x3 x4]
theorem f18_4_ok (N : Nat) (hlp : LoopsOk Try.prog (E18 N).lp B18_4) (hΓ : CtxOk Try.prog (E18 N).Γ) : LoopOk Try.prog (mkL N18_4 f18_4_sh (f18_4_F N)) 4 B18_4 := by
  refine loopOk_of (E := E18 N) thOk hΓ mixed hlp ?_
  intro R ls K r h
  unfold f18_4_F at h
  split at h
  · exact ⟨N, by rw [f18_4_lp_eq]; exact h⟩
  · cases h
theorem f18_10_st_eq {R : Type} (N : Nat) (K : X → AS → Option R) (n : Nat) (x1 : Int) (x2 : List Int) (x3 : List Int) (x4 : List Int) (x5 : List Int) : roundsOf (E18 N) N18_10 10 B18_10 K (n + 1) (fill f18_10_sh [.i x1, .l x2, .l x3, .l x4, .l x5]) = f18_10_st N (fun x1 x2 x3 x4 x5 => roundsOf (E18 N) N18_10 10 B18_10 K n (fill f18_10_sh [.i x1, .l x2, .l x3, .l x4, .l x5])) (fun y1 y2 y3 y4 y5 y6 => K (Go.Eng.X.normal) (fill f18_10_ex1 [.b y1, .i y2, .l y3, .l y4, .l y5, .l y6])) x1 x2 x3 x4 x5 := by kernel_rfl
theorem f18_10_lp_eq {R : Type} (N : Nat) (K : X → AS → Option R) : ∀ (n : Nat) (x1 : Int) (x2 : List Int) (x3 : List Int) (x4 : List Int) (x5 : List Int), roundsOf (E18 N) N18_10 10 B18_10 K n (fill f18_10_sh [.i x1, .l x2, .l x3, .l x4, .l x5]) = f18_10_lp N (fun y1 y2 y3 y4 y5 y6 => K (Go.Eng.X.normal) (fill f18_10_ex1 [.b y1, .i y2, .l y3, .l y4, .l y5, .l y6])) n x1 x2 x3 x4 x5
  | 0, _, _, _, _, _ => rfl
  | n + 1, x1, x2, x3, x4, x5 => by
    rw [f18_10_st_eq, f18_10_lp, show (fun x1 x2 x3 x4 x5 => roundsOf (E18 N) N18_10 10 B18_10 K n (fill f18_10_sh [.i x1, .l x2, .l x3, .l x4, .l x5])) = f18_10_lp N (fun y1 y2 y3 y4 y5 y6 => K (Go.Eng.X.normal) (fill f18_10_ex1 [.b y1, .i y2, .l y3, .l y4, .l y5, .l y6])) n from by funext x1 x2 x3 x4 x5; exact f18_10_lp_eq N K n x1 x2 x3 x4 x5]
theorem f18_10_ok (N : Nat) (hlp : LoopsOk Try.prog (E18 N).lp B18_10) (hΓ : CtxOk Try.prog (E18 N).Γ) : LoopOk Try.prog (mkL N18_10 f18_10_sh (f18_10_F N)) 10 B18_10 := by
  refine loopOk_of (E := E18 N) thOk hΓ mixed hlp ?_
  intro R ls K r h
  unfold f18_10_F at h
  split at h
  · exact ⟨N, by rw [f18_10_lp_eq]; exact h⟩
  · cases h

theorem lok18_10 (N : Nat) (hΓ : CtxOk Try.prog G18) : LoopOk Try.prog (mkL N18_10 f18_10_sh (f18_10_F N)) 10 B18_10 := f18_10_ok N (loopsOk_of (l := []) (by kernel_rfl) trivial) hΓ
theorem lok18_8 (N : Nat) (hΓ : CtxOk Try.prog G18) : LoopOk Try.prog (mkL N18_8 f18_8_sh (f18_8_F N)) 8 B18_8 := f18_8_ok N (loopsOk_of (l := []) (by kernel_rfl) trivial) hΓ
theorem lok18_6 (N : Nat) (hΓ : CtxOk Try.prog G18) : LoopOk Try.prog (mkL N18_6 f18_6_sh (f18_6_F N)) 6 B18_6 := f18_6_ok N (loopsOk_of (l := []) (by kernel_rfl) trivial) hΓ
theorem lok18_4 (N : Nat) (hΓ : CtxOk Try.prog G18) : LoopOk Try.prog (mkL N18_4 f18_4_sh (f18_4_F N)) 4 B18_4 := f18_4_ok N (loopsOk_of (l := [(6, B18_6), (8, B18_8)]) (by kernel_rfl) (allOk_cons (L := mkL N18_6 f18_6_sh (f18_6_F N)) rfl (lok18_6 N hΓ) (allOk_cons (L := mkL N18_8 f18_8_sh (f18_8_F N)) rfl (lok18_8 N hΓ) trivial))) hΓ
theorem lok18_2 (N : Nat) (hΓ : CtxOk Try.prog G18) : LoopOk Try.prog (mkL N18_2 f18_2_sh (f18_2_F N)) 2 B18_2 := f18_2_ok N (loopsOk_of (l := []) (by kernel_rfl) trivial) hΓ
theorem lok18_0 (N : Nat) (hΓ : CtxOk Try.prog G18) : LoopOk Try.prog (mkL N18_0 f18_0_sh (f18_0_F N)) 0 B18_0 := f18_0_ok N (loopsOk_of (l := []) (by kernel_rfl) trivial) hΓ
theorem f18_contract (N : Nat) (hΓ : CtxOk Try.prog G18) : Contract Try.prog 18 { sig := S18, impl := fun _ ds k => call (E18 N) S18 100 B18 R18 ds k } :=
  call_contract (E := E18 N) thOk hΓ mixed ok18.look ok18.body ok18.n ok18.rv ok18.name rfl (by decide) (loopsOk_of (l := [(0, B18_0), (2, B18_2), (4, B18_4), (6, B18_6), (8, B18_8), (10, B18_10)]) (by kernel_rfl) (allOk_cons (L := mkL N18_0 f18_0_sh (f18_0_F N)) rfl (lok18_0 N hΓ) (allOk_cons (L := mkL N18_2 f18_2_sh (f18_2_F N)) rfl (lok18_2 N hΓ) (allOk_cons (L := mkL N18_4 f18_4_sh (f18_4_F N)) rfl (lok18_4 N hΓ) (allOk_cons (L := mkL N18_6 f18_6_sh (f18_6_F N)) rfl (lok18_6 N hΓ) (allOk_cons (L := mkL N18_8 f18_8_sh (f18_8_F N)) rfl (lok18_8 N hΓ) (allOk_cons (L := mkL N18_10 f18_10_sh (f18_10_F N)) rfl (lok18_10 N hΓ) trivial)))))))
theorem f18_raw_eq {R : Type} (N : Nat) (key : List Int) (ctr : Int) (nonce : List Int) (k : List DV → Option R) : call (E18 N) S18 100 B18 R18 [.v (.one (.ints .u8 32 key)), .v (.one (.int .u32 ctr)), .v (.one (.ints .u8 12 nonce))] k = f18_raw N key ctr nonce k := by kernel_rfl
end Go.Proofs.Ytiaddnmloonhgaa

/- The block. -/
namespace Go.Proofs.Ytiaddnmloonhgaa
open Go Go.Eng
set_option maxRecDepth 100000

theorem wrapI {x : Int} {n : Nat} (h : x = (n : Int)) (hn : n < 2 ^ 62) : IntKind.i64.wrap x = (n : Int) := by rw [h]; exact wrap64_nat hn

theorem hiOk_nat {n h : Nat} (hn : n ≤ h) : hiOk (some (n : Int)) h = true := by simp [hiOk]; omega
theorem loOk_nat {n : Nat} {h : Int} (hn : (n : Int) ≤ h) : loOk (some (n : Int)) h = true := by simp [loOk]; omega

theorem sub_nat (xs : List Int) (a b h : Nat) : Go.Eng.sub xs (plusO .z 1 (some (a : Int))) (mulE (subN (hiNat (some (b : Int)) h) (some (a : Int))) 1) = (xs.drop a).take (b - a) := by
  simp [Go.Eng.sub, plusO, Off.plus, mulE, subN, hiNat]

theorem ble_take (xs : List Int) (a n : Nat) (hn : n ≤ 1048576) : ((xs.drop a).take n).length.ble 1048576 = true := by
  rw [Nat.ble_eq]; exact Nat.le_trans (List.length_take_le _ _) hn

theorem key_step {R : Type} (N : Nat) (self : Int → Int → List Int → List Int → List Int → List Int → Option R) (k1 : Bool → Int → Int → List Int → List Int → List Int → List Int → Option R) (i : Nat) (hi : i < 8) (x1 : Int) (x3 x4 x5 x6 : List Int) :
    f18_0_st N self k1 x1 (i : Int) x3 x4 x5 x6 = self x1 ((i + 1 : Nat) : Int) x3 x4 x5 (x6.set (4 + i) (IntKind.u32.wrap (lowL ((x3.drop (4 * i)).take 4)))) := by
  unfold f18_0_st
  have h0 : decide ((i : Int) < 8) = true := by simp; omega
  have h1 : IntKind.i64.wrap (4 * (i : Int)) = ((4 * i : Nat) : Int) := wrapI (by omega) (by omega)
  have h2 : IntKind.i64.wrap (((4 * i : Nat) : Int) + 4) = ((4 * i + 4 : Nat) : Int) := wrapI (by omega) (by omega)
  have h3 : IntKind.i64.wrap (4 + (i : Int)) = ((4 + i : Nat) : Int) := wrapI (by omega) (by omega)
  have h4 : IntKind.i64.wrap ((i : Int) + 1) = ((i + 1 : Nat) : Int) := wrapI (by omega) (by omega)
  have h5 : (decide ((0 : Int) ≤ ((4 + i : Nat) : Int)) && decide (((4 + i : Nat) : Int) < 16)) = true := by simp; omega
  have h6 : 4 * i + 4 - 4 * i = 4 := by omega
  simp only [h0, h1, h2, h3, h4]
  rw [hiOk_nat (by omega), loOk_nat (by simp [hiInt]; omega), sub_nat, h6, ble_take _ _ _ (by omega), h5]
  simp only [cond_true, mulE_one, Int.toNat_natCast]

def keyGo (key : List Int) : Nat → Nat → List Int → List Int
  | 0, _, s => s
  | m + 1, i, s => keyGo key m (i + 1) (s.set (4 + i) (IntKind.u32.wrap (lowL ((key.drop (4 * i)).take 4))))

theorem key_loop {R : Type} {N : Nat} (k1 : Bool → Int → Int → List Int → List Int → List Int → List Int → Option R) (x1 : Int) (x3 x4 x5 : List Int) :
    ∀ (m i : Nat) (s : List Int), i + m = 8 → ∀ fuel, m < fuel → f18_0_lp N k1 fuel x1 (i : Int) x3 x4 x5 s = k1 false x1 8 x3 x4 x5 (keyGo x3 m i s) := by
  intro m
  induction m with
  | zero =>
    intro i n h fuel hf
    obtain ⟨f, rfl⟩ : ∃ f, fuel = f + 1 := ⟨fuel - 1, by omega⟩
    have : i = 8 := by omega
    subst this
    rfl
  | succ m ih =>
    intro i n h fuel hf
    obtain ⟨f, rfl⟩ : ∃ f, fuel = f + 1 := ⟨fuel - 1, by omega⟩
    show f18_0_st N (f18_0_lp N k1 f) k1 _ _ _ _ _ n = _
    rw [key_step N _ _ i (by omega), ih (i + 1) _ (by omega) f (by omega)]
    rfl

theorem nonce_step {R : Type} (N : Nat) (self : Int → List Int → List Int → List Int → Option R) (k1 : Bool → Int → List Int → List Int → List Int → Option R) (i : Nat) (hi : i < 3) (x2 x3 x4 : List Int) :
    f18_2_st N self k1 (i : Int) x2 x3 x4 = self ((i + 1 : Nat) : Int) x2 x3 (x4.set (13 + i) (IntKind.u32.wrap (lowL ((x2.drop (4 * i)).take 4)))) := by
  unfold f18_2_st
  have h0 : decide ((i : Int) < 3) = true := by simp; omega
  have h1 : IntKind.i64.wrap (4 * (i : Int)) = ((4 * i : Nat) : Int) := wrapI (by omega) (by omega)
  have h2 : IntKind.i64.wrap (((4 * i : Nat) : Int) + 4) = ((4 * i + 4 : Nat) : Int) := wrapI (by omega) (by omega)
  have h3 : IntKind.i64.wrap (13 + (i : Int)) = ((13 + i : Nat) : Int) := wrapI (by omega) (by omega)
  have h4 : IntKind.i64.wrap ((i : Int) + 1) = ((i + 1 : Nat) : Int) := wrapI (by omega) (by omega)
  have h5 : (decide ((0 : Int) ≤ ((13 + i : Nat) : Int)) && decide (((13 + i : Nat) : Int) < 16)) = true := by simp; omega
  have h6 : 4 * i + 4 - 4 * i = 4 := by omega
  simp only [h0, h1, h2, h3, h4]
  rw [hiOk_nat (by omega), loOk_nat (by simp [hiInt]; omega), sub_nat, h6, ble_take _ _ _ (by omega), h5]
  simp only [cond_true, mulE_one, Int.toNat_natCast]

def nonceGo (nonce : List Int) : Nat → Nat → List Int → List Int
  | 0, _, s => s
  | m + 1, i, s => nonceGo nonce m (i + 1) (s.set (13 + i) (IntKind.u32.wrap (lowL ((nonce.drop (4 * i)).take 4))))

theorem nonce_loop {R : Type} {N : Nat} (k1 : Bool → Int → List Int → List Int → List Int → Option R) (x2 x3 : List Int) :
    ∀ (m i : Nat) (s : List Int), i + m = 3 → ∀ fuel, m < fuel → f18_2_lp N k1 fuel (i : Int) x2 x3 s = k1 false 3 x2 x3 (nonceGo x2 m i s) := by
  intro m
  induction m with
  | zero =>
    intro i n h fuel hf
    obtain ⟨f, rfl⟩ : ∃ f, fuel = f + 1 := ⟨fuel - 1, by omega⟩
    have : i = 3 := by omega
    subst this
    rfl
  | succ m ih =>
    intro i n h fuel hf
    obtain ⟨f, rfl⟩ : ∃ f, fuel = f + 1 := ⟨fuel - 1, by omega⟩
    show f18_2_st N (f18_2_lp N k1 f) k1 _ _ _ n = _
    rw [nonce_step N _ _ i (by omega), ih (i + 1) _ (by omega) f (by omega)]
    rfl

/-! ### rounds -/

def columns (x : List Int) : List Int := quarterL (quarterL (quarterL (quarterL x 0 4 8 12) 1 5 9 13) 2 6 10 14) 3 7 11 15
def diagonals (x : List Int) : List Int := quarterL (quarterL (quarterL (quarterL x 0 5 10 15) 1 6 11 12) 2 7 8 13) 3 4 9 14

theorem columns_loop {R : Type} (N : Nat) (k1 : Bool → Int → Int → List Int → List Int → List Int → Option R) (x1 : Int) (x3 x4 x5 : List Int) :
    f18_6_lp N k1 20 x1 0 x3 x4 x5 = k1 false x1 4 x3 x4 (columns x5) := by kernel_rfl

theorem diagonals_loop {R : Type} (N : Nat) (k1 : Bool → Int → Int → List Int → List Int → List Int → Option R) (x1 : Int) (x3 x4 x5 : List Int) :
    f18_8_lp N k1 20 x1 0 x3 x4 x5 = k1 false x1 4 x3 x4 (diagonals x5) := by kernel_rfl

def roundsGo : Nat → List Int → List Int
  | 0, x => x
  | m + 1, x => roundsGo m (diagonals (columns x))

theorem rounds_loop {R : Type} (k1 : Bool → Int → List Int → List Int → List Int → Option R) (x2 x3 : List Int) :
    ∀ (m i : Nat) (s : List Int), i + m = 10 → ∀ fuel, m < fuel → f18_4_lp 20 k1 fuel (i : Int) x2 x3 s = k1 false 10 x2 x3 (roundsGo m s) := by
  intro m
  induction m with
  | zero =>
    intro i n h fuel hf
    obtain ⟨f, rfl⟩ : ∃ f, fuel = f + 1 := ⟨fuel - 1, by omega⟩
    have : i = 10 := by omega
    subst this
    rfl
  | succ m ih =>
    intro i n h fuel hf
    obtain ⟨f, rfl⟩ : ∃ f, fuel = f + 1 := ⟨fuel - 1, by omega⟩
    show f18_4_st 20 (f18_4_lp 20 k1 f) k1 _ _ _ n = _
    unfold f18_4_st
    have h0 : decide ((i : Int) < 10) = true := by simp; omega
    rw [h0, cond_true, columns_loop, diagonals_loop]
    simp only
    rw [wrapI (show (i : Int) + 1 = ((i + 1 : Nat) : Int) by omega) (by omega), ih (i + 1) _ (by omega) f (by omega)]
    rfl

/-! ### out -/

def outRun (t s : List Int) : Option (List Int) := f18_10_lp 20 (fun _ _ _ _ _ y6 => some y6) 20 0 [] s t (List.replicate 64 0)

theorem out_some (t s : List Int) : (outRun t s).isSome = true := by kernel_rfl

theorem out_match {R : Type} (k1 : List Int → Option R) (x2 t s : List Int) : f18_10_lp 20 (fun _ _ _ _ _ y6 => k1 y6) 20 0 x2 s t (List.replicate 64 0) = match outRun t s with | some o => k1 o | none => none := by kernel_rfl

def outL (t s : List Int) : List Int := (outRun t s).getD []

theorem out_loop {R : Type} (k1 : List Int → Option R) (x2 t s : List Int) : f18_10_lp 20 (fun _ _ _ _ _ y6 => k1 y6) 20 0 x2 s t (List.replicate 64 0) = k1 (outL t s) := by
  rw [out_match]
  have := out_some t s
  unfold outL
  cases h : outRun t s with
  | none => rw [h] at this; cases this
  | some o => rfl

/-- what the rounds begin with -/
def startL (key : List Int) (ctr : Int) (nonce : List Int) : List Int :=
  nonceGo nonce 3 0 ((keyGo key 8 0 [1634760805, 857760878, 2036477234, 1797285236, 0, 0, 0, 0, 0, 0, 0, 0, 0, 0, 0, 0]).set 12 ctr)

def blockL (key : List Int) (ctr : Int) (nonce : List Int) : List Int :=
  outL (roundsGo 10 (startL key ctr nonce)) (startL key ctr nonce)

theorem f18_spec {R : Type} (key : List Int) (ctr : Int) (nonce : List Int) (k : List DV → Option R) : f18_raw 20 key ctr nonce k = k [.v (.one (.ints .u8 64 (blockL key ctr nonce)))] := by
  unfold f18_raw
  refine (key_loop (N := 20) _ ctr key nonce (List.replicate 64 0) 8 0 _ rfl 20 (by omega)).trans ?_
  refine (nonce_loop (N := 20) _ nonce (List.replicate 64 0) 3 0 _ rfl 20 (by omega)).trans ?_
  refine (rounds_loop _ _ _ 10 0 _ rfl 20 (by omega)).trans ?_
  exact out_loop (fun o => k [.v (.one (.ints .u8 64 o))]) _ _ _

def I18 : (R : Type) → List DV → (List DV → Option R) → Option R := fun _ ds k => match ds with
  | [.v (.one (.ints .u8 32 key)), .v (.one (.int .u32 ctr)), .v (.one (.ints .u8 12 nonce))] => k [.v (.one (.ints .u8 64 (blockL key ctr nonce)))]
  | _ => none

theorem c18 : Contract Try.prog 18 { sig := S18, impl := I18 } := by
  refine Contract.refine fun R ds k r h => ⟨_, f18_contract 20 G18_ok, ?_⟩
  unfold I18 at h
  split at h
  · rw [f18_raw_eq, f18_spec]; exact h
  · cases h

def G16 : Ctx := [(18, { sig := S18, impl := I18 })]
theorem G16_ok : CtxOk Try.prog G16 := ctxOk_cons ok18 rfl c18 ctxOk_nil

end Go.Proofs.Ytiaddnmloonhgaa

/- What rime/seal.Stream comes to. MADE BY PROGRAM (wip/tools/mkfn.py, EngGen.lean). -/
namespace Go.Proofs.Ytiaddnmloonhgaa
open Go Go.Eng
set_option maxRecDepth 100000
set_option linter.unusedVariables false

def f16_2_sh : Shp := { n := 63, lo := 4, slots := [(1, .one (.int Go.IntKind.u32)), (4, .one (.fix (Go.Eng.At.ptr 4 0 Go.Eng.Off.z 32))), (6, .one (.fix (Go.Eng.At.ptr 6 0 Go.Eng.Off.z 12))), (11, .one (.fix (Go.Eng.At.own 26))), (12, .one (.int Go.IntKind.i64)), (13, .one (.fix (Go.Eng.At.ptr 13 0 Go.Eng.Off.z 64))), (14, .one (.int Go.IntKind.i64))], items := [(4, .obj [.ints Go.IntKind.u8 32]), (6, .obj [.ints Go.IntKind.u8 12]), (13, .obj [.ints Go.IntKind.u8 64]), (26, .row (.one Go.IntKind.u8) 1)] }
def f16_2_ex1 : Shp := { n := 63, lo := 4, slots := [(48, .one (.bool)), (1, .one (.int Go.IntKind.u32)), (4, .one (.fix (Go.Eng.At.ptr 4 0 Go.Eng.Off.z 32))), (6, .one (.fix (Go.Eng.At.ptr 6 0 Go.Eng.Off.z 12))), (11, .one (.fix (Go.Eng.At.own 26))), (12, .one (.int Go.IntKind.i64)), (13, .one (.fix (Go.Eng.At.ptr 13 0 Go.Eng.Off.z 64))), (14, .one (.int Go.IntKind.i64))], items := [(4, .obj [.ints Go.IntKind.u8 32]), (6, .obj [.ints Go.IntKind.u8 12]), (13, .obj [.ints Go.IntKind.u8 64]), (26, .row (.one Go.IntKind.u8) 1)] }
def f16_2_st {R : Type} (N : Nat) (self : Int → Int → Int → List Int → List Int → List Int → List Int → Option R) (k1 : Bool → Int → Int → Int → List Int → List Int → List Int → List Int → Option R) (x1 : Int) (x2 : Int) (x3 : Int) (x4 : List Int) (x5 : List Int) (x6 : List Int) (x7 : List Int) : Option R :=
  let v0 : Int := Go.IntKind.i64.wrap (x2 + 64);
bif Decidable.decide (x3 < Go.Eng.minI v0 (Go.Eng.nI (Go.Eng.rowLen 1 x7))) then
  bif Decidable.decide (0 ≤ x3) && Decidable.decide (x3 < Go.Eng.nI (Go.Eng.rowLen 1 x7)) then
    let v1 : Int := Go.IntKind.i64.wrap (x3 - x2);
    bif Decidable.decide (0 ≤ v1) && Decidable.decide (v1 < 64) then
      bif Decidable.decide (0 ≤ x3) && Decidable.decide (x3 < Go.Eng.nI (Go.Eng.rowLen 1 x7)) then
        let v2 : Int := Go.IntKind.i64.wrap (x3 + 1);
        let v3 : Int := Go.Eng.xorI Go.IntKind.u8 (x7.getD (Go.Eng.mulE x3.toNat 1) 0) (x6.getD (Go.Eng.mulE v1.toNat 1) 0);
        let v4 : List Int := x7.set (Go.Eng.mulE x3.toNat 1) v3;
        self x1 x2 v2 x4 x5 x6 v4
      else Option.none
    else Option.none
  else Option.none
else k1 (Decidable.decide (x3 < Go.Eng.minI v0 (Go.Eng.nI (Go.Eng.rowLen 1 x7)))) x1 x2 x3 x4 x5 x6 x7
def f16_2_lp {R : Type} (N : Nat) (k1 : Bool → Int → Int → Int → List Int → List Int → List Int → List Int → Option R) : Nat → Int → Int → Int → List Int → List Int → List Int → List Int → Option R
  | 0, _, _, _, _, _, _, _ => none
  | n + 1, x1, x2, x3, x4, x5, x6, x7 => f16_2_st N (f16_2_lp N k1 n) k1 x1 x2 x3 x4 x5 x6 x7
def f16_2_F (N : Nat) : (R : Type) → List Leaf → (X → AS → Option R) → Option R := fun _ ls K => match ls with
  | [.i x1, .i x2, .i x3, .l x4, .l x5, .l x6, .l x7] => f16_2_lp N (fun y1 y2 y3 y4 y5 y6 y7 y8 => K (Go.Eng.X.normal) (fill f16_2_ex1 [.b y1, .i y2, .i y3, .i y4, .l y5, .l y6, .l y7, .l y8])) N x1 x2 x3 x4 x5 x6 x7
  | _ => none
def f16_0_sh : Shp := { n := 63, lo := 4, slots := [(1, .one (.int Go.IntKind.u32)), (4, .one (.fix (Go.Eng.At.ptr 4 0 Go.Eng.Off.z 32))), (6, .one (.fix (Go.Eng.At.ptr 6 0 Go.Eng.Off.z 12))), (11, .one (.fix (Go.Eng.At.own 26))), (12, .one (.int Go.IntKind.i64))], items := [(4, .obj [.ints Go.IntKind.u8 32]), (6, .obj [.ints Go.IntKind.u8 12]), (26, .row (.one Go.IntKind.u8) 1)] }
def f16_0_ex1 : Shp := { n := 63, lo := 4, slots := [(30, .one (.bool)), (1, .one (.int Go.IntKind.u32)), (4, .one (.fix (Go.Eng.At.ptr 4 0 Go.Eng.Off.z 32))), (6, .one (.fix (Go.Eng.At.ptr 6 0 Go.Eng.Off.z 12))), (11, .one (.fix (Go.Eng.At.own 26))), (12, .one (.int Go.IntKind.i64))], items := [(4, .obj [.ints Go.IntKind.u8 32]), (6, .obj [.ints Go.IntKind.u8 12]), (26, .row (.one Go.IntKind.u8) 1)] }
def f16_0_st {R : Type} (N : Nat) (self : Int → Int → List Int → List Int → List Int → Option R) (k1 : Bool → Int → Int → List Int → List Int → List Int → Option R) (x1 : Int) (x2 : Int) (x3 : List Int) (x4 : List Int) (x5 : List Int) : Option R :=
  bif Decidable.decide (x2 < Go.Eng.nI (Go.Eng.rowLen 1 x5)) then
  let v0 : Int := Go.IntKind.i64.wrap (x2.tdiv 64);
  let v1 : Int := Go.IntKind.u32.wrap v0;
  let v2 : Int := Go.IntKind.u32.wrap (x1 + v1);
  f16_2_lp N
    (fun w3_1 w3_2 w3_3 w3_4 w3_5 w3_6 w3_7 w3_8 =>
      let v4 : Int := Go.IntKind.i64.wrap (w3_3 + 64);
      self w3_2 v4 w3_5 w3_6 w3_8)
    N x1 x2 x2 x3 x4 (Go.Proofs.Ytiaddnmloonhgaa.blockL x3 v2 x4) x5
else k1 (Decidable.decide (x2 < Go.Eng.nI (Go.Eng.rowLen 1 x5))) x1 x2 x3 x4 x5
def f16_0_lp {R : Type} (N : Nat) (k1 : Bool → Int → Int → List Int → List Int → List Int → Option R) : Nat → Int → Int → List Int → List Int → List Int → Option R
  | 0, _, _, _, _, _ => none
  | n + 1, x1, x2, x3, x4, x5 => f16_0_st N (f16_0_lp N k1 n) k1 x1 x2 x3 x4 x5
def f16_0_F (N : Nat) : (R : Type) → List Leaf → (X → AS → Option R) → Option R := fun _ ls K => match ls with
  | [.i x1, .i x2, .l x3, .l x4, .l x5] => f16_0_lp N (fun y1 y2 y3 y4 y5 y6 => K (Go.Eng.X.normal) (fill f16_0_ex1 [.b y1, .i y2, .i y3, .l y4, .l y5, .l y6])) N x1 x2 x3 x4 x5
  | _ => none
def f16_raw {R : Type} (N : Nat) (key : List Int) (ctr : Int) (nonce : List Int) (b : List Int) (k : List DV → Option R) : Option R :=
 let v0 : Int := Go.IntKind.u64.wrap ctr;
let v1 : Int := Go.IntKind.i64.wrap (Go.Eng.nI (Go.Eng.rowLen 1 b) + 63);
let v2 : Int := Go.IntKind.u64.wrap v1;
let v3 : Int := Go.IntKind.u64.wrap (v2.tdiv 64);
let v4 : Int := Go.IntKind.u64.wrap (v0 + v3);
bif Decidable.decide (v4 > 4294967296) then k [Go.Eng.DV.lst (.one Go.IntKind.u8) 1 [], Go.Eng.DV.v (Go.Eng.SV.one (Go.Eng.At.int Go.IntKind.i64 122))] else bif (Go.Eng.rowLen 1 b * 1).ble Go.Eng.big48 && (Go.Eng.rowLen 1 b).ble Go.Eng.big48 then f16_0_lp N (fun w5_1 w5_2 w5_3 w5_4 w5_5 w5_6 => k [Go.Eng.DV.lst (.one Go.IntKind.u8) 1 w5_6, Go.Eng.DV.v (Go.Eng.SV.one (Go.Eng.At.int Go.IntKind.i64 0))]) N ctr 0 key nonce b else Option.none


noncomputable def E16 (N : Nat) : Env := { Θ := Th, Γ := G16, K := K16, ν := N16, fuel := 0, lp := [(0, mkL N16_0 f16_0_sh (f16_0_F N)), (2, mkL N16_2 f16_2_sh (f16_2_F N))] }

theorem f16_2_st_eq {R : Type} (N : Nat) (K : X → AS → Option R) (n : Nat) (x1 : Int) (x2 : Int) (x3 : Int) (x4 : List Int) (x5 : List Int) (x6 : List Int) (x7 : List Int) : roundsOf (E16 N) N16_2 2 B16_2 K (n + 1) (fill f16_2_sh [.i x1, .i x2, .i x3, .l x4, .l x5, .l x6, .l x7]) = f16_2_st N (fun x1 x2 x3 x4 x5 x6 x7 => roundsOf (E16 N) N16_2 2 B16_2 K n (fill f16_2_sh [.i x1, .i x2, .i x3, .l x4, .l x5, .l x6, .l x7])) (fun y1 y2 y3 y4 y5 y6 y7 y8 => K (Go.Eng.X.normal) (fill f16_2_ex1 [.b y1, .i y2, .i y3, .i y4, .l y5, .l y6, .l y7, .l y8])) x1 x2 x3 x4 x5 x6 x7 := by kernel_rfl
theorem f16_2_lp_eq {R : Type} (N : Nat) (K : X → AS → Option R) : ∀ (n : Nat) (x1 : Int) (x2 : Int) (x3 : Int) (x4 : List Int) (x5 : List Int) (x6 : List Int) (x7 : List Int), roundsOf (E16 N) N16_2 2 B16_2 K n (fill f16_2_sh [.i x1, .i x2, .i x3, .l x4, .l x5, .l x6, .l x7]) = f16_2_lp N (fun y1 y2 y3 y4 y5 y6 y7 y8 => K (Go.Eng.X.normal) (fill f16_2_ex1 [.b y1, .i y2, .i y3, .i y4, .l y5, .l y6, .l y7, .l y8])) n x1 x2 x3 x4 x5 x6 x7
  | 0, _, _, _, _, _, _, _ => rfl
  | n + 1, x1, x2, x3, x4, x5, x6, x7 => by
    rw [f16_2_st_eq, f16_2_lp, show (fun x1 x2 x3 x4 x5 x6 x7 => roundsOf (E16 N) N16_2 2 B16_2 K n (fill f16_2_sh [.i x1, .i x2, .i x3, .l x4, .l x5, .l x6, .l x7])) = f16_2_lp N (fun y1 y2 y3 y4 y5 y6 y7 y8 => K (Go.Eng.X.normal) (fill f16_2_ex1 [.b y1, .i y2, .i y3, .i y4, .l y5, .l y6, .l y7, .l y8])) n from by funext x1 x2 x3 x4 x5 x6 x7; exact f16_2_lp_eq N K n x1 x2 x3 x4 x5 x6 x7]
theorem f16_2_ok (N : Nat) (hlp : LoopsOk Try.prog (E16 N).lp B16_2) (hΓ : CtxOk Try.prog (E16 N).Γ) : LoopOk Try.prog (mkL N16_2 f16_2_sh (f16_2_F N)) 2 B16_2 := by
  refine loopOk_of (E := E16 N) thOk hΓ mixed hlp ?_
  intro R ls K r h
  unfold f16_2_F at h
  split at h
  · exact ⟨N, by rw [f16_2_lp_eq]; exact h⟩
  · cases h
theorem f16_0_st_eq {R : Type} (N : Nat) (K : X → AS → Option R) (n : Nat) (x1 : Int) (x2 : Int) (x3 : List Int) (x4 : List Int) (x5 : List Int) : roundsOf (E16 N) N16_0 0 B16_0 K (n + 1) (fill f16_0_sh [.i x1, .i x2, .l x3, .l x4, .l x5]) = f16_0_st N (fun x1 x2 x3 x4 x5 => roundsOf (E16 N) N16_0 0 B16_0 K n (fill f16_0_sh [.i x1, .i x2, .l x3, .l x4, .l x5])) (fun y1 y2 y3 y4 y5 y6 => K (Go.Eng.X.normal) (fill f16_0_ex1 [.b y1, .i y2, .i y3, .l y4, .l y5, .l y6])) x1 x2 x3 x4 x5 := by kernel_rfl
theorem f16_0_lp_eq {R : Type} (N : Nat) (K : X → AS → Option R) : ∀ (n : Nat) (x1 : Int) (x2 : Int) (x3 : List Int) (x4 : List Int) (x5 : List Int), roundsOf (E16 N) N16_0 0 B16_0 K n (fill f16_0_sh [.i x1, .i x2, .l x3, .l x4, .l x5]) = f16_0_lp N (fun y1 y2 y3 y4 y5 y6 => K (Go.Eng.X.normal) (fill f16_0_ex1 [.b y1, .i y2, .i y3, .l y4, .l y5, .l y6])) n x1 x2 x3 x4 x5
  | 0, _, _, _, _, _ => rfl
  | n + 1, x1, x2, x3, x4, x5 => by
    rw [f16_0_st_eq, f16_0_lp, show (fun x1 x2 x3 x4 x5 => roundsOf (E16 N) N16_0 0 B16_0 K n (fill f16_0_sh [.i x1, .i x2, .l x3, .l x4, .l x5])) = f16_0_lp N (fun y1 y2 y3 y4 y5 y6 => K (Go.Eng.X.normal) (fill f16_0_ex1 [.b y1, .i y2, .i y3, .l y4, .l y5, .l y6])) n from by funext x1 x2 x3 x4 x5; exact f16_0_lp_eq N K n x1 x2 x3 x4 x5]
theorem f16_0_ok (N : Nat) (hlp : LoopsOk Try.prog (E16 N).lp B16_0) (hΓ : CtxOk Try.prog (E16 N).Γ) : LoopOk Try.prog (mkL N16_0 f16_0_sh (f16_0_F N)) 0 B16_0 := by
  refine loopOk_of (E := E16 N) thOk hΓ mixed hlp ?_
  intro R ls K r h
  unfold f16_0_F at h
  split at h
  · exact ⟨N, by rw [f16_0_lp_eq]; exact h⟩
  · cases h

theorem lok16_2 (N : Nat) (hΓ : CtxOk Try.prog G16) : LoopOk Try.prog (mkL N16_2 f16_2_sh (f16_2_F N)) 2 B16_2 := f16_2_ok N (loopsOk_of (l := []) (by kernel_rfl) trivial) hΓ
theorem lok16_0 (N : Nat) (hΓ : CtxOk Try.prog G16) : LoopOk Try.prog (mkL N16_0 f16_0_sh (f16_0_F N)) 0 B16_0 := f16_0_ok N (loopsOk_of (l := [(2, B16_2)]) (by kernel_rfl) (allOk_cons (L := mkL N16_2 f16_2_sh (f16_2_F N)) rfl (lok16_2 N hΓ) trivial)) hΓ
theorem f16_contract (N : Nat) (hΓ : CtxOk Try.prog G16) : Contract Try.prog 16 { sig := S16, impl := fun _ ds k => call (E16 N) S16 63 B16 R16 ds k } :=
  call_contract (E := E16 N) thOk hΓ mixed ok16.look ok16.body ok16.n ok16.rv ok16.name rfl (by decide) (loopsOk_of (l := [(0, B16_0), (2, B16_2)]) (by kernel_rfl) (allOk_cons (L := mkL N16_0 f16_0_sh (f16_0_F N)) rfl (lok16_0 N hΓ) (allOk_cons (L := mkL N16_2 f16_2_sh (f16_2_F N)) rfl (lok16_2 N hΓ) trivial)))
theorem f16_raw_eq {R : Type} (N : Nat) (key : List Int) (ctr : Int) (nonce : List Int) (b : List Int) (k : List DV → Option R) : call (E16 N) S16 63 B16 R16 [.v (.one (.ints .u8 32 key)), .v (.one (.int .u32 ctr)), .v (.one (.ints .u8 12 nonce)), .lst (.one .u8) 1 b] k = f16_raw N key ctr nonce b k := by kernel_rfl
end Go.Proofs.Ytiaddnmloonhgaa

/- What rime/rimeplain.SameBytes comes to. MADE BY PROGRAM (wip/tools/mkfn.py, EngGen.lean). -/
namespace Go.Proofs.Ytiaddnmloonhgaa
open Go Go.Eng
set_option maxRecDepth 100000
set_option linter.unusedVariables false

def f20_0_sh : Shp := { n := 26, lo := 2, slots := [(0, .one (.fix (Go.Eng.At.own 0))), (1, .one (.fix (Go.Eng.At.own 1))), (5, .one (.int Go.IntKind.i64))], items := [(0, .view (.one Go.IntKind.u8) 1), (1, .view (.one Go.IntKind.u8) 1)] }
def f20_0_ex1 : Shp := { n := 26, lo := 2, slots := [(4, .one (.bool)), (25, .one (.bool)), (14, .one (.bool)), (0, .one (.fix (Go.Eng.At.own 0))), (1, .one (.fix (Go.Eng.At.own 1))), (5, .one (.int Go.IntKind.i64))], items := [(0, .view (.one Go.IntKind.u8) 1), (1, .view (.one Go.IntKind.u8) 1)] }
def f20_0_ex2 : Shp := { n := 26, lo := 2, slots := [(14, .one (.bool)), (0, .one (.fix (Go.Eng.At.own 0))), (1, .one (.fix (Go.Eng.At.own 1))), (5, .one (.int Go.IntKind.i64))], items := [(0, .view (.one Go.IntKind.u8) 1), (1, .view (.one Go.IntKind.u8) 1)] }
def f20_0_st {R : Type} (N : Nat) (self : Int → List Int → List Int → Option R) (k1 : Bool → Bool → Bool → Int → List Int → List Int → Option R) (k2 : Bool → Int → List Int → List Int → Option R) (x1 : Int) (x2 : List Int) (x3 : List Int) : Option R :=
  bif Decidable.decide (x1 < Go.Eng.nI (Go.Eng.rowLen 1 x2)) then
  bif Decidable.decide (0 ≤ x1) && Decidable.decide (x1 < Go.Eng.nI (Go.Eng.rowLen 1 x2)) then
    bif Decidable.decide (0 ≤ x1) && Decidable.decide (x1 < Go.Eng.nI (Go.Eng.rowLen 1 x3)) then
      bif x2.getD (Go.Eng.mulE x1.toNat 1) 0 != x3.getD (Go.Eng.mulE x1.toNat 1) 0 then k1 Bool.false (x2.getD (Go.Eng.mulE x1.toNat 1) 0 != x3.getD (Go.Eng.mulE x1.toNat 1) 0) (Decidable.decide (x1 < Go.Eng.nI (Go.Eng.rowLen 1 x2))) x1 x2 x3
      else
        let v0 : Int := Go.IntKind.i64.wrap (x1 + 1);
        self v0 x2 x3
    else Option.none
  else Option.none
else k2 (Decidable.decide (x1 < Go.Eng.nI (Go.Eng.rowLen 1 x2))) x1 x2 x3
def f20_0_lp {R : Type} (N : Nat) (k1 : Bool → Bool → Bool → Int → List Int → List Int → Option R) (k2 : Bool → Int → List Int → List Int → Option R) : Nat → Int → List Int → List Int → Option R
  | 0, _, _, _ => none
  | n + 1, x1, x2, x3 => f20_0_st N (f20_0_lp N k1 k2 n) k1 k2 x1 x2 x3
def f20_0_F (N : Nat) : (R : Type) → List Leaf → (X → AS → Option R) → Option R := fun _ ls K => match ls with
  | [.i x1, .l x2, .l x3] => f20_0_lp N (fun y1 y2 y3 y4 y5 y6 => K (Go.Eng.X.ret) (fill f20_0_ex1 [.b y1, .b y2, .b y3, .i y4, .l y5, .l y6])) (fun y1 y2 y3 y4 => K (Go.Eng.X.normal) (fill f20_0_ex2 [.b y1, .i y2, .l y3, .l y4])) N x1 x2 x3
  | _ => none
def f20_raw {R : Type} (N : Nat) (a : List Int) (b : List Int) (k : List DV → Option R) : Option R :=
 bif Go.Eng.nI (Go.Eng.rowLen 1 a) != Go.Eng.nI (Go.Eng.rowLen 1 b) then k [Go.Eng.DV.v (Go.Eng.SV.one (Go.Eng.At.bool Bool.false))] else f20_0_lp N (fun w0_1 w0_2 w0_3 w0_4 w0_5 w0_6 => k [Go.Eng.DV.v (Go.Eng.SV.one (Go.Eng.At.bool w0_1))]) (fun w1_1 w1_2 w1_3 w1_4 => k [Go.Eng.DV.v (Go.Eng.SV.one (Go.Eng.At.bool Bool.true))]) N 0 a b


noncomputable def E20 (N : Nat) : Env := { Θ := Th, Γ := [], K := K20, ν := N20, fuel := 0, lp := [(0, mkL N20_0 f20_0_sh (f20_0_F N))] }

theorem f20_0_st_eq {R : Type} (N : Nat) (K : X → AS → Option R) (n : Nat) (x1 : Int) (x2 : List Int) (x3 : List Int) : roundsOf (E20 N) N20_0 0 B20_0 K (n + 1) (fill f20_0_sh [.i x1, .l x2, .l x3]) = f20_0_st N (fun x1 x2 x3 => roundsOf (E20 N) N20_0 0 B20_0 K n (fill f20_0_sh [.i x1, .l x2, .l x3])) (fun y1 y2 y3 y4 y5 y6 => K (Go.Eng.X.ret) (fill f20_0_ex1 [.b y1, .b y2, .b y3, .i y4, .l y5, .l y6])) (fun y1 y2 y3 y4 => K (Go.Eng.X.normal) (fill f20_0_ex2 [.b y1, .i y2, .l y3, .l y4])) x1 x2 x3 := by kernel_rfl
theorem f20_0_lp_eq {R : Type} (N : Nat) (K : X → AS → Option R) : ∀ (n : Nat) (x1 : Int) (x2 : List Int) (x3 : List Int), roundsOf (E20 N) N20_0 0 B20_0 K n (fill f20_0_sh [.i x1, .l x2, .l x3]) = f20_0_lp N (fun y1 y2 y3 y4 y5 y6 => K (Go.Eng.X.ret) (fill f20_0_ex1 [.b y1, .b y2, .b y3, .i y4, .l y5, .l y6])) (fun y1 y2 y3 y4 => K (Go.Eng.X.normal) (fill f20_0_ex2 [.b y1, .i y2, .l y3, .l y4])) n x1 x2 x3
  | 0, _, _, _ => rfl
  | n + 1, x1, x2, x3 => by
    rw [f20_0_st_eq, f20_0_lp, show (fun x1 x2 x3 => roundsOf (E20 N) N20_0 0 B20_0 K n (fill f20_0_sh [.i x1, .l x2, .l x3])) = f20_0_lp N (fun y1 y2 y3 y4 y5 y6 => K (Go.Eng.X.ret) (fill f20_0_ex1 [.b y1, .b y2, .b y3, .i y4, .l y5, .l y6])) (fun y1 y2 y3 y4 => K (Go.Eng.X.normal) (fill f20_0_ex2 [.b y1, .i y2, .l y3, .l y4])) n from by funext x1 x2 x3; exact f20_0_lp_eq N K n x1 x2 x3]
theorem f20_0_ok (N : Nat) (hlp : LoopsOk Try.prog (E20 N).lp B20_0) (hΓ : CtxOk Try.prog (E20 N).Γ) : LoopOk Try.prog (mkL N20_0 f20_0_sh (f20_0_F N)) 0 B20_0 := by
  refine loopOk_of (E := E20 N) thOk hΓ mixed hlp ?_
  intro R ls K r h
  unfold f20_0_F at h
  split at h
  · exact ⟨N, by rw [f20_0_lp_eq]; exact h⟩
  · cases h

theorem lok20_0 (N : Nat) (hΓ : CtxOk Try.prog []) : LoopOk Try.prog (mkL N20_0 f20_0_sh (f20_0_F N)) 0 B20_0 := f20_0_ok N (loopsOk_of (l := []) (by kernel_rfl) trivial) hΓ
theorem f20_contract (N : Nat) (hΓ : CtxOk Try.prog []) : Contract Try.prog 20 { sig := S20, impl := fun _ ds k => call (E20 N) S20 26 B20 R20 ds k } :=
  call_contract (E := E20 N) thOk hΓ mixed ok20.look ok20.body ok20.n ok20.rv ok20.name rfl (by decide) (loopsOk_of (l := [(0, B20_0)]) (by kernel_rfl) (allOk_cons (L := mkL N20_0 f20_0_sh (f20_0_F N)) rfl (lok20_0 N hΓ) trivial))
theorem f20_raw_eq {R : Type} (N : Nat) (a : List Int) (b : List Int) (k : List DV → Option R) : call (E20 N) S20 26 B20 R20 [.lst (.one .u8) 1 a, .lst (.one .u8) 1 b] k = f20_raw N a b k := by kernel_rfl
end Go.Proofs.Ytiaddnmloonhgaa

/- What rime/rimeplain.CopyBytes comes to. MADE BY PROGRAM (wip/tools/mkfn.py, EngGen.lean). -/
namespace Go.Proofs.Ytiaddnmloonhgaa
open Go Go.Eng
set_option maxRecDepth 100000
set_option linter.unusedVariables false

def f30_raw {R : Type} (N : Nat) (a : List Int) (k : List DV → Option R) : Option R :=
 bif (Go.Eng.rowLen 1 a * 1).ble Go.Eng.big48 && (Go.Eng.rowLen 1 a).ble Go.Eng.big48 then k [Go.Eng.DV.lst (.one Go.IntKind.u8) 1 a] else Option.none


noncomputable def E30 (N : Nat) : Env := { Θ := Th, Γ := [], K := K30, ν := N30, fuel := 0, lp := [] }


theorem f30_contract (N : Nat) (hΓ : CtxOk Try.prog []) : Contract Try.prog 30 { sig := S30, impl := fun _ ds k => call (E30 N) S30 8 B30 R30 ds k } :=
  call_contract (E := E30 N) thOk hΓ mixed ok30.look ok30.body ok30.n ok30.rv ok30.name rfl (by decide) (loopsOk_of (l := []) (by kernel_rfl) trivial)
theorem f30_raw_eq {R : Type} (N : Nat) (a : List Int) (k : List DV → Option R) : call (E30 N) S30 8 B30 R30 [.lst (.one .u8) 1 a] k = f30_raw N a k := by kernel_rfl
end Go.Proofs.Ytiaddnmloonhgaa

/- What rime/seal.tag$1 comes to. MADE BY PROGRAM (wip/tools/mkfn.py, EngGen.lean). -/
namespace Go.Proofs.Ytiaddnmloonhgaa
open Go Go.Eng
set_option maxRecDepth 100000
set_option linter.unusedVariables false

def f96_raw {R : Type} (N : Nat) (a : List Int) (k : List DV → Option R) : Option R :=
 bif (Go.Eng.rowLen 1 a * 1).ble Go.Eng.big48 && (Go.Eng.rowLen 1 a).ble Go.Eng.big48 then
 let v0 : Int := Go.IntKind.i64.wrap (16 - (Go.Eng.nI (Go.Eng.rowLen 1 a)).tmod 16);
 bif Go.Eng.okCnt 1 (Option.some (v0.tmod 16)) then
 bif ((2 * (Go.Eng.rowLen 1 a + Go.Eng.rowLen 1 (Go.Eng.zerosOf (Go.Eng.mulE (v0.tmod 16).toNat 1))) + 192) * 1).ble Go.Eng.big48 && (Go.Eng.rowLen 1 a + Go.Eng.rowLen 1 (Go.Eng.zerosOf (Go.Eng.mulE (v0.tmod 16).toNat 1))).ble Go.Eng.big48 then
 let v1 : List Int := a ++ Go.Eng.zerosOf (Go.Eng.mulE (v0.tmod 16).toNat 1);
 k [Go.Eng.DV.lst (.one Go.IntKind.u8) 1 v1]
 else Option.none
 else Option.none
else Option.none


noncomputable def E96 (N : Nat) : Env := { Θ := Th, Γ := [], K := K96, ν := N96, fuel := 0, lp := [] }


theorem f96_contract (N : Nat) (hΓ : CtxOk Try.prog []) : Contract Try.prog 96 { sig := S96, impl := fun _ ds k => call (E96 N) S96 13 B96 R96 ds k } :=
  call_contract (E := E96 N) thOk hΓ mixed ok96.look ok96.body ok96.n ok96.rv ok96.name rfl (by decide) (loopsOk_of (l := []) (by kernel_rfl) trivial)
theorem f96_raw_eq {R : Type} (N : Nat) (a : List Int) (k : List DV → Option R) : call (E96 N) S96 13 B96 R96 [.lst (.one .u8) 1 a] k = f96_raw N a k := by kernel_rfl
end Go.Proofs.Ytiaddnmloonhgaa

/- What rime/rimelaw12.num comes to. MADE BY PROGRAM (wip/tools/mkfn.py, EngGen.lean). -/
namespace Go.Proofs.Ytiaddnmloonhgaa
open Go Go.Eng
set_option maxRecDepth 100000
set_option linter.unusedVariables false

def f21_raw {R : Type} (N : Nat) (a : Int) (k : List DV → Option R) : Option R :=
 k [Go.Eng.DV.v (Go.Eng.SV.one (Go.Eng.At.int Go.IntKind.i64 a))]


noncomputable def E21 (N : Nat) : Env := { Θ := Th, Γ := [], K := K21, ν := N21, fuel := 0, lp := [] }


theorem f21_contract (N : Nat) (hΓ : CtxOk Try.prog []) : Contract Try.prog 21 { sig := S21, impl := fun _ ds k => call (E21 N) S21 4 B21 R21 ds k } :=
  call_contract (E := E21 N) thOk hΓ mixed ok21.look ok21.body ok21.n ok21.rv ok21.name rfl (by decide) (loopsOk_of (l := []) (by kernel_rfl) trivial)
theorem f21_raw_eq {R : Type} (N : Nat) (a : Int) (k : List DV → Option R) : call (E21 N) S21 4 B21 R21 [.v (.one (.int .i64 a))] k = f21_raw N a k := by kernel_rfl
end Go.Proofs.Ytiaddnmloonhgaa

/- Streams; small helpers. -/
namespace Go.Proofs.Ytiaddnmloonhgaa
open Go Go.Eng
set_option maxRecDepth 100000

def lim : Nat := 1099511627776

theorem wrapU64 {n : Nat} (h : n < 2 ^ 62) : IntKind.u64.wrap (n : Int) = n := by
  unfold IntKind.wrap
  simp only [IntKind.bits, IntKind.signed]
  have e : (n : Int) % 2 ^ 64 = n := Int.emod_eq_of_lt (by omega) (by omega)
  simp only [e]
  simp

theorem wrapU32 {n : Nat} (h : n < 4294967296) : IntKind.u32.wrap (n : Int) = n := by
  unfold IntKind.wrap
  simp only [IntKind.bits, IntKind.signed]
  have e : (n : Int) % 2 ^ 32 = n := Int.emod_eq_of_lt (by omega) (by omega)
  simp only [e]
  simp

/-! ### CopyBytes, num -/

def I30 : (R : Type) → List DV → (List DV → Option R) → Option R := fun _ ds k => match ds with
  | [.lst (.one .u8) 1 a] => cond (Nat.ble a.length lim) (k [.lst (.one .u8) 1 a]) none
  | _ => none

theorem c30 : Contract Try.prog 30 { sig := S30, impl := I30 } := by
  refine Contract.refine fun R ds k r h => ⟨_, f30_contract 0 ctxOk_nil, ?_⟩
  unfold I30 at h
  split at h
  · rename_i a
    rw [f30_raw_eq]
    cases hb : Nat.ble a.length lim with
    | true =>
      rw [hb] at h
      have hb := Nat.le_of_ble_eq_true hb
      unfold f30_raw
      rw [show ((rowLen 1 a * 1).ble big48 && (rowLen 1 a).ble big48) = true by simp [rowLen_one, big48, lim] at *; omega]
      exact h
    | false => rw [hb] at h; cases h
  · cases h

def I21 : (R : Type) → List DV → (List DV → Option R) → Option R := fun _ ds k => match ds with
  | [.v (.one (.int .i64 a))] => k [.v (.one (.int .i64 a))]
  | _ => none

theorem c21 : Contract Try.prog 21 { sig := S21, impl := I21 } := by
  refine Contract.refine fun R ds k r h => ⟨_, f21_contract 0 ctxOk_nil, ?_⟩
  unfold I21 at h
  split at h
  · rw [f21_raw_eq]; exact h
  · cases h

/-! ### pad -/

def padN (n : Nat) : Nat := (16 - n % 16) % 16
def padL (a : List Int) : List Int := a ++ List.replicate (padN a.length) 0

def I96 : (R : Type) → List DV → (List DV → Option R) → Option R := fun _ ds k => match ds with
  | [.lst (.one .u8) 1 a] => cond (Nat.ble a.length lim) (k [.lst (.one .u8) 1 (padL a)]) none
  | _ => none

theorem c96 : Contract Try.prog 96 { sig := S96, impl := I96 } := by
  refine Contract.refine fun R ds k r h => ⟨_, f96_contract 0 ctxOk_nil, ?_⟩
  unfold I96 at h
  split at h
  · rename_i a
    rw [f96_raw_eq]
    cases hb : Nat.ble a.length lim with
    | true =>
      rw [hb] at h
      have hb := Nat.le_of_ble_eq_true hb
      have hb' : a.length ≤ 1099511627776 := hb
      unfold f96_raw
      have e1 : (nI (rowLen 1 a)).tmod 16 = ((a.length % 16 : Nat) : Int) := (Int.ofNat_tmod a.length 16).symm
      have e2 : IntKind.i64.wrap (16 - ((a.length % 16 : Nat) : Int)) = ((16 - a.length % 16 : Nat) : Int) := wrapI (by omega) (by omega)
      have e3 : (((16 - a.length % 16 : Nat) : Int)).tmod 16 = ((padN a.length : Nat) : Int) := (Int.ofNat_tmod (16 - a.length % 16) 16).symm
      have hp : padN a.length < 16 := Nat.mod_lt _ (by omega)
      rw [show ((rowLen 1 a * 1).ble big48 && (rowLen 1 a).ble big48) = true by simp [rowLen_one, big48]; omega]
      simp only [e1, e2, e3, cond_true, mulE_one, Int.toNat_natCast]
      rw [show okCnt 1 (some ((padN a.length : Nat) : Int)) = true by simp [okCnt]; omega]
      rw [show (((2 * (rowLen 1 a + rowLen 1 (zerosOf (padN a.length))) + 192) * 1).ble big48 && (rowLen 1 a + rowLen 1 (zerosOf (padN a.length))).ble big48) = true by
        simp [rowLen_one, big48, zerosOf]; omega]
      exact h
    | false => rw [hb] at h; cases h
  · cases h

/-! ### SameBytes -/

theorem same_loop {R : Type} {N : Nat} (k1 : Bool → Option R) (a b : List Int) (hl : a.length = b.length) (hb : a.length ≤ lim) :
    ∀ (m i : Nat), i + m = a.length → ∀ fuel, m < fuel → f20_0_lp N (fun y _ _ _ _ _ => k1 y) (fun _ _ _ _ => k1 true) fuel (i : Int) a b = k1 (decide (a.drop i = b.drop i)) := by
  have hb' : a.length ≤ 1099511627776 := hb
  intro m
  induction m with
  | zero =>
    intro i h fuel hf
    obtain ⟨f, rfl⟩ : ∃ f, fuel = f + 1 := ⟨fuel - 1, by omega⟩
    have : i = a.length := by omega
    subst this
    show f20_0_st N (f20_0_lp N _ _ f) _ _ _ a b = _
    unfold f20_0_st
    rw [show decide (((a.length : Nat) : Int) < nI (rowLen 1 a)) = false by simp [rowLen_one]]
    rw [List.drop_length, hl, List.drop_length]
    simp
  | succ m ih =>
    intro i h fuel hf
    obtain ⟨f, rfl⟩ : ∃ f, fuel = f + 1 := ⟨fuel - 1, by omega⟩
    show f20_0_st N (f20_0_lp N _ _ f) _ _ _ a b = _
    unfold f20_0_st
    have h1 : decide ((i : Int) < nI (rowLen 1 a)) = true := by simp [rowLen_one]; omega
    have h2 : (decide ((0 : Int) ≤ (i : Int)) && decide ((i : Int) < nI (rowLen 1 a))) = true := by simp [rowLen_one]; omega
    have h3 : (decide ((0 : Int) ≤ (i : Int)) && decide ((i : Int) < nI (rowLen 1 b))) = true := by simp [rowLen_one]; omega
    have h4 : IntKind.i64.wrap ((i : Int) + 1) = ((i + 1 : Nat) : Int) := wrapI (by omega) (by omega)
    rw [h2, h3, h1]
    simp only [h4, cond_true, mulE_one, Int.toNat_natCast]
    rw [ih (i + 1) (by omega) f (by omega), drop_getD (show i < a.length by omega), drop_getD (show i < b.length by omega)]
    by_cases hx : a.getD i 0 = b.getD i 0
    · rw [hx]; simp
    · have : (a.getD i 0 != b.getD i 0) = true := by simpa using hx
      rw [this]
      simp only [cond_true, List.cons.injEq, hx, false_and, decide_false]

def I20 : (R : Type) → List DV → (List DV → Option R) → Option R := fun _ ds k => match ds with
  | [.lst (.one .u8) 1 a, .lst (.one .u8) 1 b] => cond (Nat.ble a.length lim) (k [.v (.one (.bool (decide (a = b))))]) none
  | _ => none

theorem c20 : Contract Try.prog 20 { sig := S20, impl := I20 } := by
  refine Contract.refine fun R ds k r h => ?_
  unfold I20 at h
  split at h
  · rename_i a b
    refine ⟨_, f20_contract (a.length + 1) ctxOk_nil, ?_⟩
    rw [f20_raw_eq]
    cases hb : Nat.ble a.length lim with
    | true =>
      rw [hb] at h
      have hb := Nat.le_of_ble_eq_true hb
      unfold f20_raw
      by_cases hl : a.length = b.length
      · rw [show (nI (rowLen 1 a) != nI (rowLen 1 b)) = false by simp [rowLen_one, hl]]
        have := same_loop (N := a.length + 1) (fun y => k [DV.v (SV.one (At.bool y))]) a b hl hb a.length 0 (by omega) (a.length + 1) (by omega)
        exact this.trans h
      · rw [show (nI (rowLen 1 a) != nI (rowLen 1 b)) = true by simpa [rowLen_one, nI, Int.ofNat_inj] using hl]
        rw [show decide (a = b) = false by simp; intro e; exact hl (by rw [e])] at h
        exact h
    | false => rw [hb] at h; cases h
  · exact (Option.some_ne_none _ h.symm).elim

/-! ### Stream -/

/-- what lies upon the byte at i -/
def maskAt (key : List Int) (ctr : Nat) (nonce : List Int) (i : Nat) : Int := (blockL key ((ctr + i / 64 : Nat) : Int) nonce).getD (i % 64) 0

def maskL (f : Nat → Int) (b : List Int) : List Int := b.mapIdx fun i x => xorI .u8 x (f i)

/-- the first so many are done -/
def upTo (f : Nat → Int) (b : List Int) (n : Nat) : List Int := b.mapIdx fun i x => if i < n then xorI .u8 x (f i) else x

theorem upTo_zero (f : Nat → Int) (b : List Int) : upTo f b 0 = b := by
  unfold upTo
  apply List.ext_getElem?
  intro i
  simp

theorem upTo_all (f : Nat → Int) (b : List Int) : upTo f b b.length = maskL f b := by
  unfold upTo maskL
  apply List.ext_getElem?
  intro i
  simp only [List.getElem?_mapIdx]
  cases h : b[i]? with
  | none => rfl
  | some x =>
    have := (List.getElem?_eq_some_iff.1 h).1
    simp [this]

theorem upTo_length (f : Nat → Int) (b : List Int) (n : Nat) : (upTo f b n).length = b.length := by simp [upTo]

theorem upTo_getD (f : Nat → Int) (b : List Int) (n i : Nat) (h : n ≤ i) (hi : i < b.length) : (upTo f b n).getD i 0 = b.getD i 0 := by
  rw [List.getD_eq_getElem?_getD, List.getD_eq_getElem?_getD]
  unfold upTo
  rw [List.getElem?_mapIdx, List.getElem?_eq_getElem hi]
  simp; intro h'; omega

theorem upTo_set (f : Nat → Int) (b : List Int) (n : Nat) (hi : n < b.length) : (upTo f b n).set n (xorI .u8 (b.getD n 0) (f n)) = upTo f b (n + 1) := by
  apply List.ext_getElem?
  intro i
  rw [List.getElem?_set, upTo_length]
  unfold upTo
  rw [List.getElem?_mapIdx, List.getElem?_mapIdx]
  by_cases e : n = i
  · subst e
    rw [if_pos rfl, if_pos hi, List.getElem?_eq_getElem hi, List.getD_eq_getElem?_getD, List.getElem?_eq_getElem hi]
    simp
  · rw [if_neg e]
    cases h : b[i]? with
    | none => rfl
    | some x =>
      simp only [Option.map_some]
      by_cases h1 : i < n
      · rw [if_pos h1, if_pos (by omega)]
      · rw [if_neg h1, if_neg (by omega)]

theorem minI_nat (a b : Nat) : minI (a : Int) (b : Int) = ((min a b : Nat) : Int) := by
  unfold minI
  split <;> omega

theorem xor_loop {R : Type} {N : Nat} (k1 : Bool → Int → Int → Int → List Int → List Int → List Int → List Int → Option R) (f : Nat → Int) (b : List Int) (hb : b.length ≤ lim) (x1 : Int) (at_ : Nat) (hat : at_ ≤ b.length) (x4 x5 blk : List Int)
    (hf : ∀ j, at_ ≤ j → j < at_ + 64 → f j = blk.getD (j - at_) 0) :
    ∀ (m i : Nat), at_ ≤ i → i + m = min (at_ + 64) b.length → ∀ fuel, m < fuel → f16_2_lp N k1 fuel x1 (at_ : Int) (i : Int) x4 x5 blk (upTo f b i) = k1 false x1 (at_ : Int) ((min (at_ + 64) b.length : Nat) : Int) x4 x5 blk (upTo f b (min (at_ + 64) b.length)) := by
  have hb' : b.length ≤ 1099511627776 := hb
  intro m
  induction m with
  | zero =>
    intro i hai h fuel hfu
    obtain ⟨g, rfl⟩ : ∃ g, fuel = g + 1 := ⟨fuel - 1, by omega⟩
    have : i = min (at_ + 64) b.length := by omega
    subst this
    show f16_2_st N (f16_2_lp N k1 g) k1 _ _ _ _ _ _ _ = _
    unfold f16_2_st
    simp only [rowLen_one, upTo_length]
    rw [wrapI (show (at_ : Int) + 64 = ((at_ + 64 : Nat) : Int) by omega) (by omega), minI_nat]
    rw [show decide (((min (at_ + 64) b.length : Nat) : Int) < ((min (at_ + 64) b.length : Nat) : Int)) = false by simp]
    rfl
  | succ m ih =>
    intro i hai h fuel hfu
    obtain ⟨g, rfl⟩ : ∃ g, fuel = g + 1 := ⟨fuel - 1, by omega⟩
    show f16_2_st N (f16_2_lp N k1 g) k1 _ _ _ _ _ _ _ = _
    unfold f16_2_st
    simp only [rowLen_one, upTo_length]
    rw [wrapI (show (at_ : Int) + 64 = ((at_ + 64 : Nat) : Int) by omega) (by omega), minI_nat]
    have h0 : decide ((i : Int) < ((min (at_ + 64) b.length : Nat) : Int)) = true := by simp; omega
    have h1 : (decide ((0 : Int) ≤ (i : Int)) && decide ((i : Int) < nI b.length)) = true := by simp; omega
    have h2 : IntKind.i64.wrap ((i : Int) - (at_ : Int)) = ((i - at_ : Nat) : Int) := wrapI (by omega) (by omega)
    have h3 : (decide ((0 : Int) ≤ ((i - at_ : Nat) : Int)) && decide (((i - at_ : Nat) : Int) < 64)) = true := by simp; omega
    have h4 : IntKind.i64.wrap ((i : Int) + 1) = ((i + 1 : Nat) : Int) := wrapI (by omega) (by omega)
    rw [h0, h1, h2, h3, h4]
    simp only [cond_true, mulE_one, Int.toNat_natCast]
    rw [upTo_getD _ _ _ _ (Nat.le_refl _) (by omega), ← hf i hai (by omega), upTo_set _ _ _ (by omega)]
    exact ih (i + 1) (by omega) (by omega) g (by omega)

theorem stream_loop {R : Type} {N : Nat} (k1 : Bool → Int → Int → List Int → List Int → List Int → Option R) (key nonce : List Int) (ctr : Nat) (b : List Int) (hb : b.length ≤ lim) (hc : ctr + (b.length + 63) / 64 ≤ 4294967296) (hN : 65 ≤ N) :
    ∀ (m q : Nat), (b.length + 63) / 64 ≤ q + m → q ≤ (b.length + 63) / 64 → ∀ fuel, m < fuel → ∃ e : Int, f16_0_lp N k1 fuel (ctr : Int) ((64 * q : Nat) : Int) key nonce (upTo (maskAt key ctr nonce) b (64 * q)) = k1 false (ctr : Int) e key nonce (maskL (maskAt key ctr nonce) b) := by
  have hb' : b.length ≤ 1099511627776 := hb
  intro m
  induction m with
  | zero =>
    intro q h hq fuel hfu
    obtain ⟨g, rfl⟩ : ∃ g, fuel = g + 1 := ⟨fuel - 1, by omega⟩
    refine ⟨((64 * q : Nat) : Int), ?_⟩
    show f16_0_st N (f16_0_lp N k1 g) k1 _ _ _ _ _ = _
    unfold f16_0_st
    simp only [rowLen_one, upTo_length]
    rw [show decide (((64 * q : Nat) : Int) < nI b.length) = false by simp [nI]; omega]
    simp only [cond_false]
    rw [show upTo (maskAt key ctr nonce) b (64 * q) = maskL (maskAt key ctr nonce) b by
      rw [← upTo_all]
      apply List.ext_getElem?
      intro i
      unfold upTo
      rw [List.getElem?_mapIdx, List.getElem?_mapIdx]
      cases hx : b[i]? with
      | none => rfl
      | some x =>
        have := (List.getElem?_eq_some_iff.1 hx).1
        simp only [Option.map_some]
        rw [if_pos (by omega), if_pos this]]
  | succ m ih =>
    intro q h hq fuel hfu
    obtain ⟨g, rfl⟩ : ∃ g, fuel = g + 1 := ⟨fuel - 1, by omega⟩
    by_cases hlt : 64 * q < b.length
    · show ∃ e, f16_0_st N (f16_0_lp N k1 g) k1 _ _ _ _ _ = _
      unfold f16_0_st
      simp only [rowLen_one, upTo_length]
      rw [show decide (((64 * q : Nat) : Int) < nI b.length) = true by simp [nI]; omega]
      have e1 : (((64 * q : Nat) : Int)).tdiv 64 = ((q : Nat) : Int) := by
        rw [show (64 : Int) = ((64 : Nat) : Int) from rfl, ← Int.ofNat_tdiv]; congr 1; omega
      rw [e1, wrapI (n := q) rfl (by omega), wrapU32 (n := q) (by omega)]
      have e2 : IntKind.u32.wrap ((ctr : Int) + (q : Int)) = ((ctr + q : Nat) : Int) := by
        rw [show (ctr : Int) + (q : Int) = ((ctr + q : Nat) : Int) by omega]; exact wrapU32 (by omega)
      rw [e2]
      simp only [cond_true]
      have hx := xor_loop (N := N) (R := R) (fun _ w2 w3 w4 w5 w6 w7 w8 => f16_0_lp N k1 g w2 (IntKind.i64.wrap (w3 + 64)) w5 w6 w8) (maskAt key ctr nonce) b hb (ctr : Int) (64 * q) (by omega) key nonce (blockL key ((ctr + q : Nat) : Int) nonce)
        (fun j h1 h2 => by
          unfold maskAt
          rw [show j / 64 = q by omega, show j % 64 = j - 64 * q by omega])
        (min (64 * q + 64) b.length - 64 * q) (64 * q) (Nat.le_refl _) (by omega) N (by omega)
      obtain ⟨e, he⟩ := ih (q + 1) (by omega) (by omega) g (by omega)
      refine ⟨e, hx.trans ?_⟩
      rw [wrapI (show ((64 * q : Nat) : Int) + 64 = ((64 * (q + 1) : Nat) : Int) by omega) (by omega), ← he]
      congr 1
      -- what is done up to the end
      apply List.ext_getElem?
      intro i
      unfold upTo
      rw [List.getElem?_mapIdx, List.getElem?_mapIdx]
      cases hx : b[i]? with
      | none => rfl
      | some x =>
        have := (List.getElem?_eq_some_iff.1 hx).1
        simp only [Option.map_some]
        by_cases h1 : i < 64 * (q + 1)
        · rw [if_pos h1, if_pos (by omega)]
        · rw [if_neg h1, if_neg (by omega)]
    · exact ⟨((64 * q : Nat) : Int), by
        show f16_0_st N (f16_0_lp N k1 g) k1 _ _ _ _ _ = _
        unfold f16_0_st
        simp only [rowLen_one, upTo_length]
        rw [show decide (((64 * q : Nat) : Int) < nI b.length) = false by simp [nI]; omega]
        simp only [cond_false]
        rw [show upTo (maskAt key ctr nonce) b (64 * q) = maskL (maskAt key ctr nonce) b by
          rw [← upTo_all]
          apply List.ext_getElem?
          intro i
          unfold upTo
          rw [List.getElem?_mapIdx, List.getElem?_mapIdx]
          cases hx : b[i]? with
          | none => rfl
          | some x =>
            have := (List.getElem?_eq_some_iff.1 hx).1
            simp only [Option.map_some]
            rw [if_pos (by omega), if_pos this]]⟩

/-- the stream upon bytes -/
def streamL (key : List Int) (ctr : Nat) (nonce b : List Int) : List Int := maskL (maskAt key ctr nonce) b

def tooFar (ctr : Nat) (n : Nat) : Bool := decide (4294967296 < ctr + (n + 63) / 64)

def I16 : (R : Type) → List DV → (List DV → Option R) → Option R := fun _ ds k => match ds with
  | [.v (.one (.ints .u8 32 key)), .v (.one (.int .u32 ctr)), .v (.one (.ints .u8 12 nonce)), .lst (.one .u8) 1 b] =>
    cond (decide (0 ≤ ctr) && (decide (ctr < 4294967296) && Nat.ble b.length lim))
      (cond (tooFar ctr.toNat b.length) (k [.lst (.one .u8) 1 [], .v (.one (.int .i64 122))]) (k [.lst (.one .u8) 1 (streamL key ctr.toNat nonce b), .v (.one (.int .i64 0))])) none
  | _ => none

theorem c16 : Contract Try.prog 16 { sig := S16, impl := I16 } := by
  refine Contract.refine fun R ds k r h => ?_
  unfold I16 at h
  split at h
  · rename_i key ctr nonce b
    refine ⟨_, f16_contract (b.length + 65) G16_ok, ?_⟩
    rw [f16_raw_eq]
    cases hb : (decide (0 ≤ ctr) && (decide (ctr < 4294967296) && Nat.ble b.length lim)) with
    | false => rw [hb] at h; cases h
    | true =>
      rw [hb] at h
      simp only [Bool.and_eq_true, decide_eq_true_eq] at hb
      obtain ⟨h1, h2, h3⟩ := hb
      have h3 := Nat.le_of_ble_eq_true h3
      have h3' : b.length ≤ 1099511627776 := h3
      obtain ⟨c, rfl⟩ : ∃ c : Nat, ctr = c := ⟨ctr.toNat, by omega⟩
      simp only [Int.toNat_natCast, cond_true] at h
      unfold f16_raw
      have e1 : IntKind.u64.wrap (c : Int) = ((c : Nat) : Int) := wrapU64 (by omega)
      have e2 : IntKind.i64.wrap (nI (rowLen 1 b) + 63) = ((b.length + 63 : Nat) : Int) := wrapI (by simp [rowLen_one]) (by omega)
      have e3 : IntKind.u64.wrap ((b.length + 63 : Nat) : Int) = ((b.length + 63 : Nat) : Int) := wrapU64 (by omega)
      have e4 : (((b.length + 63 : Nat) : Int)).tdiv 64 = (((b.length + 63) / 64 : Nat) : Int) := (Int.ofNat_tdiv (b.length + 63) 64).symm
      have e5 : IntKind.u64.wrap (((b.length + 63) / 64 : Nat) : Int) = (((b.length + 63) / 64 : Nat) : Int) := wrapU64 (by omega)
      have e6 : IntKind.u64.wrap ((c : Int) + (((b.length + 63) / 64 : Nat) : Int)) = ((c + (b.length + 63) / 64 : Nat) : Int) := by
        rw [show (c : Int) + (((b.length + 63) / 64 : Nat) : Int) = ((c + (b.length + 63) / 64 : Nat) : Int) by omega]; exact wrapU64 (by omega)
      simp only [e1, e2, e3, e4, e5, e6]
      cases ht : tooFar c b.length with
      | true =>
        rw [ht] at h
        rw [show decide (((c + (b.length + 63) / 64 : Nat) : Int) > 4294967296) = true by simp [tooFar] at ht ⊢; omega]
        exact h
      | false =>
        rw [ht] at h
        have hc : c + (b.length + 63) / 64 ≤ 4294967296 := by simp [tooFar] at ht; exact ht
        rw [show decide (((c + (b.length + 63) / 64 : Nat) : Int) > 4294967296) = false by simp; omega]
        rw [show ((rowLen 1 b * 1).ble big48 && (rowLen 1 b).ble big48) = true by simp [rowLen_one, big48]; omega]
        simp only [cond_true, cond_false] at h ⊢
        obtain ⟨e, he⟩ := stream_loop (N := b.length + 65) (fun _ _ _ _ _ y6 => k [DV.lst (.one IntKind.u8) 1 y6, DV.v (SV.one (At.int IntKind.i64 0))]) key nonce c b h3 hc (by omega) ((b.length + 63) / 64) 0 (by omega) (by omega) (b.length + 65) (by omega)
        rw [Nat.mul_zero, upTo_zero] at he
        exact he.trans h
  · exact (Option.some_ne_none _ h.symm).elim

end Go.Proofs.Ytiaddnmloonhgaa

/- The tag of bytes. -/
namespace Go.Proofs.Ytiaddnmloonhgaa
open Go Go.Eng
set_option maxRecDepth 100000

def setAnd (x : List Int) (i : Nat) (m : Int) : List Int := x.set i (andI .u8 (x.getD i 0) m)
def clampA (x : List Int) : List Int := setAnd (setAnd (setAnd (setAnd x 3 15) 7 15) 11 15) 15 15
def clampB (x : List Int) : List Int := setAnd (setAnd (setAnd x 4 252) 8 252) 12 252

theorem clampA_loop {R : Type} (N n : Nat) (k1 : Bool → Int → Int → List Int → List Int → List Int → List Int → List Int → Option R) (x3 x4 x5 x6 : List Int) :
    f24_0_lp N k1 (n + 5) 4 0 x3 x4 x5 x6 [3, 7, 11, 15] = k1 false 4 4 x3 x4 x5 (clampA x6) [3, 7, 11, 15] := by kernel_rfl

theorem clampB_loop {R : Type} (N n : Nat) (k1 : Bool → Int → Int → List Int → List Int → List Int → List Int → List Int → Option R) (x3 x4 x5 x6 : List Int) :
    f24_2_lp N k1 (n + 4) 3 0 x3 x4 x5 x6 [4, 8, 12] = k1 false 3 3 x3 x4 x5 (clampB x6) [4, 8, 12] := by kernel_rfl

def setAdd (s p : List Int) (i : Nat) : List Int := s.set i (IntKind.u64.wrap (s.getD i 0 + p.getD i 0))
def addL (s p : List Int) : List Int := setAdd (setAdd (setAdd (setAdd (setAdd s p 0) p 1) p 2) p 3) p 4

theorem add_loop {R : Type} (N n : Nat) (k1 : Bool → Int → List Int → Int → List Int → List Int → List Int → List Int → List Int → Option R) (x1 : Int) (x2 x4 x5 x6 x7 x8 : List Int) :
    f24_6_lp N k1 (n + 6) x1 x2 0 x4 x5 x6 x7 x8 = k1 false x1 x2 5 x4 x5 x6 x7 (addL x8 x2) := by kernel_rfl

/-- a piece of at most 16 bytes, with the one behind it -/
def pieceL (c : List Int) : List Int := (c ++ (List.replicate 17 0).drop c.length).set c.length 1

def macGo (r b : List Int) : Nat → Nat → List Int → List Int
  | 0, _, s => s
  | m + 1, i, s => macGo r b m (i + 16) (timesL (addL s (limbsL (pieceL ((b.drop i).take 16)))) r)

theorem mac_loop {R : Type} {N : Nat} (k1 : Bool → Int → List Int → List Int → List Int → List Int → List Int → Option R) (b x3 x4 r : List Int) (hb : b.length ≤ lim) (hN : 6 ≤ N) :
    ∀ (m q : Nat) (s : List Int), q + m = (b.length + 15) / 16 → ∀ fuel, m < fuel → ∃ e : Int, f24_4_lp N k1 fuel ((16 * q : Nat) : Int) b x3 x4 r s = k1 false e b x3 x4 r (macGo r b m (16 * q) s) := by
  have hb' : b.length ≤ 1099511627776 := hb
  intro m
  induction m with
  | zero =>
    intro q s h fuel hfu
    obtain ⟨g, rfl⟩ : ∃ g, fuel = g + 1 := ⟨fuel - 1, by omega⟩
    refine ⟨((16 * q : Nat) : Int), ?_⟩
    show f24_4_st N (f24_4_lp N k1 g) k1 _ _ _ _ _ _ = _
    unfold f24_4_st
    rw [show decide (((16 * q : Nat) : Int) < nI (rowLen 1 b)) = false from decide_eq_false (by show ¬ ((16 * q : Nat) : Int) < (b.length : Int); omega)]
    rfl
  | succ m ih =>
    intro q s h fuel hfu
    obtain ⟨g, rfl⟩ : ∃ g, fuel = g + 1 := ⟨fuel - 1, by omega⟩
    show ∃ e, f24_4_st N (f24_4_lp N k1 g) k1 _ _ _ _ _ _ = _
    unfold f24_4_st
    have hlt : 16 * q < b.length := by omega
    rw [show decide (((16 * q : Nat) : Int) < nI (rowLen 1 b)) = true from decide_eq_true (by show ((16 * q : Nat) : Int) < (b.length : Int); omega)]
    have e0 : Go.Eng.sub b (plusO .z 1 (some ((16 * q : Nat) : Int))) (mulE (subN (hiNat none (rowLen 1 b)) (some ((16 * q : Nat) : Int))) 1) = b.drop (16 * q) := by
      show (b.drop (16 * q)).take (b.length - 16 * q) = _
      rw [List.take_of_length_le]; simp
    rw [show loOk (some ((16 * q : Nat) : Int)) (hiInt none (rowLen 1 b)) = true from loOk_nat (by simp [hiInt, rowLen_one]; omega)]
    rw [e0]
    simp only [cond_true]
    have e1 : min (rowLen 1 (b.drop (16 * q))) (subN (hiNat (some 16) 17) none) = ((b.drop (16 * q)).take 16).length := by
      rw [List.length_take, Nat.min_comm, rowLen_one]; rfl
    rw [e1]
    have hl16 : ((b.drop (16 * q)).take 16).length ≤ 16 := List.length_take_le _ _
    have e2 : List.take (mulE ((b.drop (16 * q)).take 16).length 1) (b.drop (16 * q)) = (b.drop (16 * q)).take 16 := by
      rw [mulE_one, List.length_take, List.take_eq_take_iff]; omega
    rw [show (decide ((0 : Int) ≤ nI ((b.drop (16 * q)).take 16).length) && decide (nI ((b.drop (16 * q)).take 16).length < 17)) = true by simp [nI]; omega]
    rw [e2, cond_true]
    have e3 : (splice (List.replicate 17 0) (plusO .z 1 none) ((b.drop (16 * q)).take 16)).set (mulE (nI ((b.drop (16 * q)).take 16).length).toNat 1) 1 = pieceL ((b.drop (16 * q)).take 16) := by
      rw [mulE_one, nI, Int.toNat_natCast]; rfl
    rw [e3]
    obtain ⟨e, he⟩ := ih (q + 1) (timesL (addL s (limbsL (pieceL ((b.drop (16 * q)).take 16)))) r) (by omega) g (by omega)
    refine ⟨e, ?_⟩
    obtain ⟨M, rfl⟩ : ∃ M, N = M + 6 := ⟨N - 6, by omega⟩
    refine (add_loop _ _ _ _ _ _ _ _ _ _).trans ?_
    rw [wrapI (show ((16 * q : Nat) : Int) + 16 = ((16 * (q + 1) : Nat) : Int) by omega) (by omega), he]
    rfl

/-! ### the digits -/

def digRun (key b' w : List Int) : Option (List Int) := f24_8_lp 20 (fun _ _ _ _ _ _ y7 => some y7) 20 0 0 key b' w (List.replicate 16 0)

theorem dig_some (key b' w : List Int) : (digRun key b' w).isSome = true := by kernel_rfl

theorem dig_match {R : Type} (M : Nat) (k1 : List Int → Option R) (key b' w : List Int) : f24_8_lp (M + 40) (fun _ _ _ _ _ _ y7 => k1 y7) (M + 40) 0 0 key b' w (List.replicate 16 0) = match digRun key b' w with | some o => k1 o | none => none := by kernel_rfl

def digL (key b' w : List Int) : List Int := (digRun key b' w).getD []

theorem dig_loop {R : Type} (M : Nat) (k1 : List Int → Option R) (key b' w : List Int) : f24_8_lp (M + 40) (fun _ _ _ _ _ _ y7 => k1 y7) (M + 40) 0 0 key b' w (List.replicate 16 0) = k1 (digL key b' w) := by
  rw [dig_match]
  have := dig_some key b' w
  unfold digL
  cases h : digRun key b' w with
  | none => rw [h] at this; cases this
  | some o => rfl

def halfL (key : List Int) : List Int :=
  limbsL (clampB (clampA (Go.Eng.splice (List.replicate 17 0) (plusO .z 1 none) (List.take (mulE (min (rowLen 1 (Go.Eng.sub key (plusO .z 1 none) (mulE (subN (hiNat (some 16) 32) none) 1))) (subN (hiNat none 17) none)) 1) (Go.Eng.sub key (plusO .z 1 none) (mulE (subN (hiNat (some 16) 32) none) 1))))))

def macL (key b : List Int) : List Int :=
  digL key (List.replicate 16 0) (wholeL (macGo (halfL key) b ((b.length + 15) / 16) 0 (List.replicate 5 0)))

theorem f24_spec {R : Type} (key b : List Int) (k : List DV → Option R) (hb : b.length ≤ lim) : f24_raw (b.length + 40) key b k = k [.v (.one (.ints .u8 16 (macL key b)))] := by
  unfold f24_raw
  refine (clampA_loop (b.length + 40) (b.length + 35) _ b key (List.replicate 16 0) _).trans ?_
  refine (clampB_loop (b.length + 40) (b.length + 36) _ b key (List.replicate 16 0) _).trans ?_
  obtain ⟨e, he⟩ := mac_loop (R := R) (N := b.length + 40) (fun w12_1 w12_2 w12_3 w12_4 w12_5 w12_6 w12_7 => f24_8_lp (b.length + 40) (fun w13_1 w13_2 w13_3 w13_4 w13_5 w13_6 w13_7 => k [DV.v (SV.one (At.ints IntKind.u8 16 w13_7))]) (b.length + 40) 0 0 w12_4 w12_5 (wholeL w12_7) (List.replicate 16 0)) b key (List.replicate 16 0) (halfL key) hb (by omega) ((b.length + 15) / 16) 0 (List.replicate 5 0) (by omega) (b.length + 40) (by omega)
  refine he.trans ?_
  exact dig_loop b.length (fun o => k [.v (.one (.ints .u8 16 o))]) _ _ _

def I24 : (R : Type) → List DV → (List DV → Option R) → Option R := fun _ ds k => match ds with
  | [.v (.one (.ints .u8 32 key)), .lst (.one .u8) 1 b] => cond (Nat.ble b.length lim) (k [.v (.one (.ints .u8 16 (macL key b)))]) none
  | _ => none

theorem c24 : Contract Try.prog 24 { sig := S24, impl := I24 } := by
  refine Contract.refine fun R ds k r h => ?_
  unfold I24 at h
  split at h
  · rename_i key b
    refine ⟨_, f24_contract (b.length + 40) G24_ok, ?_⟩
    rw [f24_raw_eq]
    cases hb : Nat.ble b.length lim with
    | true => rw [hb] at h; rw [f24_spec key b k (Nat.le_of_ble_eq_true hb)]; exact h
    | false => rw [hb] at h; cases h
  · exact (Option.some_ne_none _ h.symm).elim

def G67 : Ctx := [(18, { sig := S18, impl := I18 }), (24, { sig := S24, impl := I24 }), (44, { sig := S44, impl := I44 }), (96, { sig := S96, impl := I96 })]
theorem G67_ok : CtxOk Try.prog G67 := ctxOk_cons ok18 rfl c18 (ctxOk_cons ok24 rfl c24 (ctxOk_cons ok44 rfl c44 (ctxOk_cons ok96 rfl c96 ctxOk_nil)))

end Go.Proofs.Ytiaddnmloonhgaa

/- What rime/seal.tag comes to. MADE BY PROGRAM (wip/tools/mkfn.py, EngGen.lean). -/
namespace Go.Proofs.Ytiaddnmloonhgaa
open Go Go.Eng
set_option maxRecDepth 100000
set_option linter.unusedVariables false

def f67_raw {R : Type} (N : Nat) (key : List Int) (nonce : List Int) (a : List Int) (b : List Int) (k : List DV → Option R) : Option R :=
 bif a.length.ble Go.Proofs.Ytiaddnmloonhgaa.lim then
 bif b.length.ble Go.Proofs.Ytiaddnmloonhgaa.lim then
 bif ((2 * (Go.Eng.rowLen 1 (Go.Proofs.Ytiaddnmloonhgaa.padL a) + Go.Eng.rowLen 1 (Go.Proofs.Ytiaddnmloonhgaa.padL b)) + 192) * 1).ble Go.Eng.big48 && (Go.Eng.rowLen 1 (Go.Proofs.Ytiaddnmloonhgaa.padL a) + Go.Eng.rowLen 1 (Go.Proofs.Ytiaddnmloonhgaa.padL b)).ble Go.Eng.big48 then
 let v0 : List Int := Go.Proofs.Ytiaddnmloonhgaa.padL a ++ Go.Proofs.Ytiaddnmloonhgaa.padL b;
 let v1 : Int := Go.IntKind.u64.wrap (Go.Eng.nI (Go.Eng.rowLen 1 a));
 bif ((2 * (Go.Eng.rowLen 1 v0 + Go.Eng.rowLen 1 (Go.Proofs.Ytiaddnmloonhgaa.bytesL v1 (Int.toNat 8))) + 192) * 1).ble Go.Eng.big48 && (Go.Eng.rowLen 1 v0 + Go.Eng.rowLen 1 (Go.Proofs.Ytiaddnmloonhgaa.bytesL v1 (Int.toNat 8))).ble Go.Eng.big48 then
 let v2 : List Int := v0 ++ Go.Proofs.Ytiaddnmloonhgaa.bytesL v1 (Int.toNat 8);
 let v3 : Int := Go.IntKind.u64.wrap (Go.Eng.nI (Go.Eng.rowLen 1 b));
 bif ((2 * (Go.Eng.rowLen 1 v2 + Go.Eng.rowLen 1 (Go.Proofs.Ytiaddnmloonhgaa.bytesL v3 (Int.toNat 8))) + 192) * 1).ble Go.Eng.big48 && (Go.Eng.rowLen 1 v2 + Go.Eng.rowLen 1 (Go.Proofs.Ytiaddnmloonhgaa.bytesL v3 (Int.toNat 8))).ble Go.Eng.big48 then
 let v4 : List Int := v2 ++ Go.Proofs.Ytiaddnmloonhgaa.bytesL v3 (Int.toNat 8);
 bif v4.length.ble Go.Proofs.Ytiaddnmloonhgaa.lim then k [Go.Eng.DV.v (Go.Eng.SV.one (Go.Eng.At.ints Go.IntKind.u8 16 (Go.Proofs.Ytiaddnmloonhgaa.macL (List.take 32 (List.drop 0 (Go.Proofs.Ytiaddnmloonhgaa.blockL key 0 nonce))) v4)))] else Option.none
 else Option.none
 else Option.none
 else Option.none
 else Option.none
else Option.none


noncomputable def E67 (N : Nat) : Env := { Θ := Th, Γ := G67, K := K67, ν := N67, fuel := 0, lp := [] }


theorem f67_contract (N : Nat) (hΓ : CtxOk Try.prog G67) : Contract Try.prog 67 { sig := S67, impl := fun _ ds k => call (E67 N) S67 39 B67 R67 ds k } :=
  call_contract (E := E67 N) thOk hΓ mixed ok67.look ok67.body ok67.n ok67.rv ok67.name rfl (by decide) (loopsOk_of (l := []) (by kernel_rfl) trivial)
theorem f67_raw_eq {R : Type} (N : Nat) (key : List Int) (nonce : List Int) (a : List Int) (b : List Int) (k : List DV → Option R) : call (E67 N) S67 39 B67 R67 [.v (.one (.ints .u8 32 key)), .v (.one (.ints .u8 12 nonce)), .lst (.one .u8) 1 a, .lst (.one .u8) 1 b] k = f67_raw N key nonce a b k := by kernel_rfl
end Go.Proofs.Ytiaddnmloonhgaa

/- The tag of what is open and what is sealed. -/
namespace Go.Proofs.Ytiaddnmloonhgaa
open Go Go.Eng
set_option maxRecDepth 100000

def lim4 : Nat := 274877906944

theorem bytesGo_length (n : Int) : ∀ (m i : Nat), (bytesGo n m i).length = m
  | 0, _ => rfl
  | m + 1, i => by simp [bytesGo, bytesGo_length n m (i + 1)]

theorem bytesL_length (n : Int) (m : Nat) : (bytesL n m).length = m := bytesGo_length n m 0

theorem padL_length (a : List Int) : (padL a).length = a.length + padN a.length := by simp [padL]

theorem padN_lt (n : Nat) : padN n < 16 := Nat.mod_lt _ (by omega)

def wholeText (a b : List Int) : List Int := padL a ++ padL b ++ bytesL (a.length : Int) 8 ++ bytesL (b.length : Int) 8

def tagL (key nonce a b : List Int) : List Int := macL ((blockL key 0 nonce).take 32) (wholeText a b)

def I67 : (R : Type) → List DV → (List DV → Option R) → Option R := fun _ ds k => match ds with
  | [.v (.one (.ints .u8 32 key)), .v (.one (.ints .u8 12 nonce)), .lst (.one .u8) 1 a, .lst (.one .u8) 1 b] =>
    cond (Nat.ble a.length lim4 && Nat.ble b.length lim4) (k [.v (.one (.ints .u8 16 (tagL key nonce a b)))]) none
  | _ => none

theorem c67 : Contract Try.prog 67 { sig := S67, impl := I67 } := by
  refine Contract.refine fun R ds k r h => ⟨_, f67_contract 0 G67_ok, ?_⟩
  unfold I67 at h
  split at h
  · rename_i key nonce a b
    rw [f67_raw_eq]
    cases hb : (Nat.ble a.length lim4 && Nat.ble b.length lim4) with
    | false => rw [hb] at h; cases h
    | true =>
      rw [hb] at h
      simp only [Bool.and_eq_true] at hb
      have ha : a.length ≤ 274877906944 := Nat.le_of_ble_eq_true hb.1
      have hb : b.length ≤ 274877906944 := Nat.le_of_ble_eq_true hb.2
      have pa := padL_length a
      have pb := padL_length b
      have qa := padN_lt a.length
      have qb := padN_lt b.length
      unfold f67_raw
      have e1 : IntKind.u64.wrap (nI (rowLen 1 a)) = (a.length : Int) := wrapU64 (n := a.length) (by omega)
      have e2 : IntKind.u64.wrap (nI (rowLen 1 b)) = (b.length : Int) := wrapU64 (n := b.length) (by omega)
      simp only [e1, e2]
      rw [show a.length.ble lim = true by simp [lim]; omega, show b.length.ble lim = true by simp [lim]; omega]
      rw [show (((2 * (rowLen 1 (padL a) + rowLen 1 (padL b)) + 192) * 1).ble big48 && (rowLen 1 (padL a) + rowLen 1 (padL b)).ble big48) = true by
        simp [rowLen_one, big48, pa, pb]; omega]
      rw [show (((2 * (rowLen 1 (padL a ++ padL b) + rowLen 1 (bytesL (a.length : Int) (Int.toNat 8))) + 192) * 1).ble big48 && (rowLen 1 (padL a ++ padL b) + rowLen 1 (bytesL (a.length : Int) (Int.toNat 8))).ble big48) = true by
        simp [rowLen_one, big48, pa, pb, bytesL_length]; omega]
      rw [show (((2 * (rowLen 1 (padL a ++ padL b ++ bytesL (a.length : Int) (Int.toNat 8)) + rowLen 1 (bytesL (b.length : Int) (Int.toNat 8))) + 192) * 1).ble big48 && (rowLen 1 (padL a ++ padL b ++ bytesL (a.length : Int) (Int.toNat 8)) + rowLen 1 (bytesL (b.length : Int) (Int.toNat 8))).ble big48) = true by
        simp [rowLen_one, big48, pa, pb, bytesL_length]; omega]
      rw [show (padL a ++ padL b ++ bytesL (a.length : Int) (Int.toNat 8) ++ bytesL (b.length : Int) (Int.toNat 8)).length.ble lim = true by
        simp [lim, pa, pb, bytesL_length]; omega]
      exact h
  · cases h

def G28 : Ctx := [(16, { sig := S16, impl := I16 }), (67, { sig := S67, impl := I67 })]
theorem G28_ok : CtxOk Try.prog G28 := ctxOk_cons ok16 rfl c16 (ctxOk_cons ok67 rfl c67 ctxOk_nil)

end Go.Proofs.Ytiaddnmloonhgaa

/- What rime/seal.Seal comes to. MADE BY PROGRAM (wip/tools/mkfn.py, EngGen.lean). -/
namespace Go.Proofs.Ytiaddnmloonhgaa
open Go Go.Eng
set_option maxRecDepth 100000
set_option linter.unusedVariables false

def f28_raw {R : Type} (N : Nat) (key : List Int) (nonce : List Int) (a : List Int) (b : List Int) (k : List DV → Option R) : Option R :=
 bif Decidable.decide (0 ≤ 1) && (Decidable.decide (1 < 4294967296) && b.length.ble Go.Proofs.Ytiaddnmloonhgaa.lim) then
 bif Go.Proofs.Ytiaddnmloonhgaa.tooFar (Int.toNat 1) b.length then
 bif a.length.ble Go.Proofs.Ytiaddnmloonhgaa.lim4 && ([] : List Int).length.ble Go.Proofs.Ytiaddnmloonhgaa.lim4 then
 let v0 : List Int := Go.Eng.sub (Go.Proofs.Ytiaddnmloonhgaa.tagL key nonce a []) (Go.Eng.plusO Go.Eng.Off.z 1 Option.none) (Go.Eng.mulE (Go.Eng.subN (Go.Eng.hiNat Option.none 16) Option.none) 1);
 let v1 : List Int := [] ++ v0;
 k [Go.Eng.DV.lst (.one Go.IntKind.u8) 1 v1]
 else Option.none
 else
 bif a.length.ble Go.Proofs.Ytiaddnmloonhgaa.lim4 && (Go.Proofs.Ytiaddnmloonhgaa.streamL key (Int.toNat 1) nonce b).length.ble Go.Proofs.Ytiaddnmloonhgaa.lim4 then
 let v2 : List Int := Go.Eng.sub (Go.Proofs.Ytiaddnmloonhgaa.tagL key nonce a (Go.Proofs.Ytiaddnmloonhgaa.streamL key (Int.toNat 1) nonce b)) (Go.Eng.plusO Go.Eng.Off.z 1 Option.none) (Go.Eng.mulE (Go.Eng.subN (Go.Eng.hiNat Option.none 16) Option.none) 1);
 bif ((2 * (Go.Eng.rowLen 1 (Go.Proofs.Ytiaddnmloonhgaa.streamL key (Int.toNat 1) nonce b) + Go.Eng.rowLen 1 v2) + 192) * 1).ble Go.Eng.big48 && (Go.Eng.rowLen 1 (Go.Proofs.Ytiaddnmloonhgaa.streamL key (Int.toNat 1) nonce b) + Go.Eng.rowLen 1 v2).ble Go.Eng.big48 then
 let v3 : List Int := Go.Proofs.Ytiaddnmloonhgaa.streamL key (Int.toNat 1) nonce b ++ v2;
 k [Go.Eng.DV.lst (.one Go.IntKind.u8) 1 v3]
 else Option.none
 else Option.none
else Option.none


noncomputable def E28 (N : Nat) : Env := { Θ := Th, Γ := G28, K := K28, ν := N28, fuel := 0, lp := [] }


theorem f28_contract (N : Nat) (hΓ : CtxOk Try.prog G28) : Contract Try.prog 28 { sig := S28, impl := fun _ ds k => call (E28 N) S28 27 B28 R28 ds k } :=
  call_contract (E := E28 N) thOk hΓ mixed ok28.look ok28.body ok28.n ok28.rv ok28.name rfl (by decide) (loopsOk_of (l := []) (by kernel_rfl) trivial)
theorem f28_raw_eq {R : Type} (N : Nat) (key : List Int) (nonce : List Int) (a : List Int) (b : List Int) (k : List DV → Option R) : call (E28 N) S28 27 B28 R28 [.v (.one (.ints .u8 32 key)), .v (.one (.ints .u8 12 nonce)), .lst (.one .u8) 1 a, .lst (.one .u8) 1 b] k = f28_raw N key nonce a b k := by kernel_rfl
end Go.Proofs.Ytiaddnmloonhgaa

/- What rime/seal.Open comes to. MADE BY PROGRAM (wip/tools/mkfn.py, EngGen.lean). -/
namespace Go.Proofs.Ytiaddnmloonhgaa
open Go Go.Eng
set_option maxRecDepth 100000
set_option linter.unusedVariables false

def f26_raw {R : Type} (N : Nat) (key : List Int) (nonce : List Int) (a : List Int) (b : List Int) (k : List DV → Option R) : Option R :=
 let v0 : Int := Go.IntKind.i64.wrap (Go.Eng.nI (Go.Eng.rowLen 1 b) - 16);
bif Decidable.decide (v0 < 0) then k [Go.Eng.DV.lst (.one Go.IntKind.u8) 1 [], Go.Eng.DV.v (Go.Eng.SV.one (Go.Eng.At.int Go.IntKind.i64 3))]
else
 bif Go.Eng.hiOk (Option.some v0) (Go.Eng.rowLen 1 b) then
 let v1 : List Int := Go.Eng.sub b (Go.Eng.plusO Go.Eng.Off.z 1 Option.none) (Go.Eng.mulE (Go.Eng.subN (Go.Eng.hiNat (Option.some v0) (Go.Eng.rowLen 1 b)) Option.none) 1);
 bif a.length.ble Go.Proofs.Ytiaddnmloonhgaa.lim4 && v1.length.ble Go.Proofs.Ytiaddnmloonhgaa.lim4 then bif Go.Eng.loOk (Option.some v0) (Go.Eng.hiInt Option.none (Go.Eng.rowLen 1 b)) then bif Nat.ble 1 16 && Nat.ble 16 (Go.Eng.subN (Go.Eng.hiNat Option.none (Go.Eng.rowLen 1 b)) (Option.some v0)) then bif !Decidable.decide (Go.Proofs.Ytiaddnmloonhgaa.tagL key nonce a v1 = List.take 16 (List.drop (Go.Eng.mulE v0.toNat 1) b)) then k [Go.Eng.DV.lst (.one Go.IntKind.u8) 1 [], Go.Eng.DV.v (Go.Eng.SV.one (Go.Eng.At.int Go.IntKind.i64 121))] else bif Go.Eng.hiOk (Option.some v0) (Go.Eng.rowLen 1 b) then bif Decidable.decide (0 ≤ 1) && (Decidable.decide (1 < 4294967296) && v1.length.ble Go.Proofs.Ytiaddnmloonhgaa.lim) then bif Go.Proofs.Ytiaddnmloonhgaa.tooFar (Int.toNat 1) v1.length then k [Go.Eng.DV.lst (.one Go.IntKind.u8) 1 [], Go.Eng.DV.v (Go.Eng.SV.one (Go.Eng.At.int Go.IntKind.i64 122))] else k [Go.Eng.DV.lst (.one Go.IntKind.u8) 1 (Go.Proofs.Ytiaddnmloonhgaa.streamL key (Int.toNat 1) nonce v1), Go.Eng.DV.v (Go.Eng.SV.one (Go.Eng.At.int Go.IntKind.i64 0))] else Option.none else Option.none else Option.none else Option.none else Option.none
 else Option.none


noncomputable def E26 (N : Nat) : Env := { Θ := Th, Γ := G28, K := K26, ν := N26, fuel := 0, lp := [] }


theorem f26_contract (N : Nat) (hΓ : CtxOk Try.prog G28) : Contract Try.prog 26 { sig := S26, impl := fun _ ds k => call (E26 N) S26 37 B26 R26 ds k } :=
  call_contract (E := E26 N) thOk hΓ mixed ok26.look ok26.body ok26.n ok26.rv ok26.name rfl (by decide) (loopsOk_of (l := []) (by kernel_rfl) trivial)
theorem f26_raw_eq {R : Type} (N : Nat) (key : List Int) (nonce : List Int) (a : List Int) (b : List Int) (k : List DV → Option R) : call (E26 N) S26 37 B26 R26 [.v (.one (.ints .u8 32 key)), .v (.one (.ints .u8 12 nonce)), .lst (.one .u8) 1 a, .lst (.one .u8) 1 b] k = f26_raw N key nonce a b k := by kernel_rfl
end Go.Proofs.Ytiaddnmloonhgaa

/- What is sealed; what is opened. -/
namespace Go.Proofs.Ytiaddnmloonhgaa
open Go Go.Eng
set_option maxRecDepth 100000

def lim5 : Nat := 68719476736

theorem maskL_length (f : Nat → Int) (b : List Int) : (maskL f b).length = b.length := by simp [maskL]
theorem streamL_length (key : List Int) (c : Nat) (nonce b : List Int) : (streamL key c nonce b).length = b.length := maskL_length _ _

theorem near {n : Nat} (h : n ≤ 68719476736) : tooFar 1 n = false := by
  simp [tooFar]; omega

theorem wrapNeg : ∀ n : Fin 16, IntKind.i64.wrap ((n.val : Int) - 16) = (n.val : Int) - 16 := by decide +kernel

def sealL (key nonce a b : List Int) : List Int := streamL key 1 nonce b ++ (tagL key nonce a (streamL key 1 nonce b)).take 16

def I28 : (R : Type) → List DV → (List DV → Option R) → Option R := fun _ ds k => match ds with
  | [.v (.one (.ints .u8 32 key)), .v (.one (.ints .u8 12 nonce)), .lst (.one .u8) 1 a, .lst (.one .u8) 1 b] =>
    cond (Nat.ble a.length lim5 && Nat.ble b.length lim5) (k [.lst (.one .u8) 1 (sealL key nonce a b)]) none
  | _ => none

theorem c28 : Contract Try.prog 28 { sig := S28, impl := I28 } := by
  refine Contract.refine fun R ds k r h => ⟨_, f28_contract 0 G28_ok, ?_⟩
  unfold I28 at h
  split at h
  · rename_i key nonce a b
    rw [f28_raw_eq]
    cases hb : (Nat.ble a.length lim5 && Nat.ble b.length lim5) with
    | false => rw [hb] at h; cases h
    | true =>
      rw [hb] at h
      simp only [Bool.and_eq_true] at hb
      have ha : a.length ≤ 68719476736 := Nat.le_of_ble_eq_true hb.1
      have hb : b.length ≤ 68719476736 := Nat.le_of_ble_eq_true hb.2
      unfold f28_raw
      rw [show (decide ((0 : Nat) ≤ 1) && (decide ((1 : Nat) < 4294967296) && b.length.ble lim)) = true by simp [lim]; omega]
      rw [show tooFar (Int.toNat 1) b.length = false from near hb]
      rw [show (a.length.ble lim4 && (streamL key (Int.toNat 1) nonce b).length.ble lim4) = true by simp [lim4, streamL_length]; omega]
      have ht : (Go.Eng.sub (tagL key nonce a (streamL key (Int.toNat 1) nonce b)) (plusO .z 1 none) (mulE (subN (hiNat none 16) none) 1)).length ≤ 16 := List.length_take_le _ _
      simp only [cond_true, cond_false]
      rw [show (((2 * (rowLen 1 (streamL key (Int.toNat 1) nonce b) + rowLen 1 (Go.Eng.sub (tagL key nonce a (streamL key (Int.toNat 1) nonce b)) (plusO .z 1 none) (mulE (subN (hiNat none 16) none) 1))) + 192) * 1).ble big48 &&
          (rowLen 1 (streamL key (Int.toNat 1) nonce b) + rowLen 1 (Go.Eng.sub (tagL key nonce a (streamL key (Int.toNat 1) nonce b)) (plusO .z 1 none) (mulE (subN (hiNat none 16) none) 1))).ble big48) = true by
        simp only [rowLen_one, big48, streamL_length, Bool.and_eq_true, Nat.ble_eq]; omega]
      exact h
  · cases h

/-- what opening answers: bytes and how it went -/
def openL (key nonce a b : List Int) : List Int × Int :=
  if b.length < 16 then ([], 3) else
  if tagL key nonce a (b.take (b.length - 16)) = (b.drop (b.length - 16)).take 16 then (streamL key 1 nonce (b.take (b.length - 16)), 0) else ([], 121)

def I26 : (R : Type) → List DV → (List DV → Option R) → Option R := fun _ ds k => match ds with
  | [.v (.one (.ints .u8 32 key)), .v (.one (.ints .u8 12 nonce)), .lst (.one .u8) 1 a, .lst (.one .u8) 1 b] =>
    cond (Nat.ble a.length lim5 && Nat.ble b.length lim5) (k [.lst (.one .u8) 1 (openL key nonce a b).1, .v (.one (.int .i64 (openL key nonce a b).2))]) none
  | _ => none

theorem c26 : Contract Try.prog 26 { sig := S26, impl := I26 } := by
  refine Contract.refine fun R ds k r h => ⟨_, f26_contract 0 G28_ok, ?_⟩
  unfold I26 at h
  split at h
  · rename_i key nonce a b
    rw [f26_raw_eq]
    cases hb : (Nat.ble a.length lim5 && Nat.ble b.length lim5) with
    | false => rw [hb] at h; cases h
    | true =>
      rw [hb] at h
      simp only [Bool.and_eq_true] at hb
      have ha : a.length ≤ 68719476736 := Nat.le_of_ble_eq_true hb.1
      have hb : b.length ≤ 68719476736 := Nat.le_of_ble_eq_true hb.2
      unfold f26_raw
      unfold openL at h
      by_cases hl : b.length < 16
      · have e0 : decide (IntKind.i64.wrap (nI (rowLen 1 b) - 16) < 0) = true := by
          have : IntKind.i64.wrap (nI (rowLen 1 b) - 16) = nI (rowLen 1 b) - 16 := by
            exact wrapNeg ⟨b.length, hl⟩
          rw [this]
          exact decide_eq_true (by show (b.length : Int) - 16 < 0; omega)
        simp only
        rw [e0]
        rw [if_pos hl] at h
        exact h
      · have e0 : IntKind.i64.wrap (nI (rowLen 1 b) - 16) = ((b.length - 16 : Nat) : Int) := wrapI (by show (b.length : Int) - 16 = _; omega) (by omega)
        rw [if_neg hl] at h
        rw [e0]
        have e1 : decide (((b.length - 16 : Nat) : Int) < 0) = false := by simp
        have e2 : hiOk (some ((b.length - 16 : Nat) : Int)) (rowLen 1 b) = true := hiOk_nat (by rw [rowLen_one]; omega)
        have e3 : Go.Eng.sub b (plusO .z 1 none) (mulE (subN (hiNat (some ((b.length - 16 : Nat) : Int)) (rowLen 1 b)) none) 1) = b.take (b.length - 16) := by
          simp [Go.Eng.sub, plusO, mulE, subN, hiNat]
        have e4 : loOk (some ((b.length - 16 : Nat) : Int)) (hiInt none (rowLen 1 b)) = true := loOk_nat (by simp [hiInt, rowLen_one])
        have e5 : (Nat.ble 1 16 && Nat.ble 16 (subN (hiNat none (rowLen 1 b)) (some ((b.length - 16 : Nat) : Int)))) = true := by
          simp [subN, hiNat, rowLen_one]; omega
        have l1 : (b.take (b.length - 16)).length ≤ 68719476736 := by rw [List.length_take]; omega
        have e6 : (a.length.ble lim4 && (b.take (b.length - 16)).length.ble lim4) = true := by simp only [lim4, Bool.and_eq_true, Nat.ble_eq]; omega
        have e7 : (decide ((0 : Nat) ≤ 1) && (decide ((1 : Nat) < 4294967296) && (b.take (b.length - 16)).length.ble lim)) = true := by
          simp only [lim, Bool.and_eq_true, Nat.ble_eq, decide_eq_true_eq]; omega
        have e8 : tooFar (Int.toNat 1) (b.take (b.length - 16)).length = false := near l1
        have e9 : (b.drop (mulE ((b.length - 16 : Nat) : Int).toNat 1)) = b.drop (b.length - 16) := by rw [mulE_one, Int.toNat_natCast]
        simp only
        rw [e1, e2, e3, e4, e5, e6, e7, e8, e9]
        by_cases ht : tagL key nonce a (b.take (b.length - 16)) = (b.drop (b.length - 16)).take 16
        · rw [if_pos ht] at h
          rw [show decide (tagL key nonce a (b.take (b.length - 16)) = (b.drop (b.length - 16)).take 16) = true from decide_eq_true ht]
          exact h
        · rw [if_neg ht] at h
          rw [show decide (tagL key nonce a (b.take (b.length - 16)) = (b.drop (b.length - 16)).take 16) = false from decide_eq_false ht]
          exact h
  · cases h

def G23 : Ctx := [(21, { sig := S21, impl := I21 }), (26, { sig := S26, impl := I26 }), (28, { sig := S28, impl := I28 })]
theorem G23_ok : CtxOk Try.prog G23 := ctxOk_cons ok21 rfl c21 (ctxOk_cons ok26 rfl c26 (ctxOk_cons ok28 rfl c28 ctxOk_nil))

end Go.Proofs.Ytiaddnmloonhgaa

/- What the laws read. -/
namespace Go.Proofs.Ytiaddnmloonhgaa
open Go Go.Eng

def I23 : (R : Type) → List DV → (List DV → Option R) → Option R := fun _ ds k => match ds with
  | [] => k [.v (.one (.bool true))]
  | _ => none

def G6 : Ctx := [(16, { sig := S16, impl := I16 }), (20, { sig := S20, impl := I20 }), (23, { sig := S23, impl := I23 }), (24, { sig := S24, impl := I24 }), (26, { sig := S26, impl := I26 }), (28, { sig := S28, impl := I28 }), (18, { sig := S18, impl := I18 }), (30, { sig := S30, impl := I30 })]

/-- the start of a law over a case -/
def caseS (n : Nat) (key nonce op text other : List Int) (at_ by_ : Int) : AS :=
  { n := n, lo := 0, tmps := [(0, .s (.agg [.ints .u8 32 key, .ints .u8 12 nonce, .own 1000001, .own 1000002, .own 1000003, .int .i64 at_, .int .u8 by_]))],
    items := [(1000001, .view (.one .u8) 1 op), (1000002, .view (.one .u8) 1 text), (1000003, .view (.one .u8) 1 other)] }

end Go.Proofs.Ytiaddnmloonhgaa

/- There and back. -/
namespace Go.Proofs.Ytiaddnmloonhgaa
open Go Go.Eng
set_option maxRecDepth 100000

def Bytes (l : List Int) : Prop := ∀ x ∈ l, 0 ≤ x ∧ x < 256

theorem wrapU8 {n : Int} (h0 : 0 ≤ n) (h : n < 256) : IntKind.u8.wrap n = n := by
  unfold IntKind.wrap
  simp only [IntKind.bits, IntKind.signed]
  have e : n % 2 ^ 8 = n := Int.emod_eq_of_lt h0 (by omega)
  simp only [e]
  simp

theorem xor8_eq (x y : Int) : xorI .u8 x y = ((BitVec.ofInt 8 x ^^^ BitVec.ofInt 8 y).toNat : Int) := by
  have h := (BitVec.ofInt 8 x ^^^ BitVec.ofInt 8 y).isLt
  exact wrapU8 (n := ((BitVec.ofInt 8 x ^^^ BitVec.ofInt 8 y).toNat : Int)) (by omega) (by omega)

theorem xor8_byte (x y : Int) : 0 ≤ xorI .u8 x y ∧ xorI .u8 x y < 256 := by
  rw [xor8_eq]
  have h := (BitVec.ofInt 8 x ^^^ BitVec.ofInt 8 y).isLt
  omega

theorem xor8_twice {x : Int} (h0 : 0 ≤ x) (h : x < 256) (y : Int) : xorI .u8 (xorI .u8 x y) y = x := by
  rw [xor8_eq (xorI .u8 x y) y, xor8_eq x y]
  rw [BitVec.ofInt_natCast, BitVec.ofNat_toNat]
  simp only [BitVec.setWidth_eq]
  rw [BitVec.xor_assoc, BitVec.xor_self, BitVec.xor_zero, BitVec.toNat_ofInt]
  omega

theorem stream_bytes (key : List Int) (c : Nat) (nonce b : List Int) : Bytes (streamL key c nonce b) := by
  intro x hx
  unfold streamL maskL at hx
  rw [List.mem_mapIdx] at hx
  obtain ⟨i, hi, rfl⟩ := hx
  exact xor8_byte _ _

theorem stream_twice (key : List Int) (c : Nat) (nonce : List Int) {b : List Int} (hb : Bytes b) : streamL key c nonce (streamL key c nonce b) = b := by
  apply List.ext_getElem?
  intro i
  unfold streamL maskL
  rw [List.getElem?_mapIdx, List.getElem?_mapIdx]
  cases h : b[i]? with
  | none => rfl
  | some x =>
    obtain ⟨h0, h1⟩ := hb x (List.mem_of_getElem? h)
    simp only [Option.map_some]
    rw [xor8_twice h0 h1]

theorem digL_length (key b' w : List Int) : (digL key b' w).length = 16 := by kernel_rfl

theorem macL_length (key b : List Int) : (macL key b).length = 16 := digL_length _ _ _

theorem tagL_length (key nonce a b : List Int) : (tagL key nonce a b).length = 16 := macL_length _ _

theorem sealL_eq (key nonce a b : List Int) : sealL key nonce a b = streamL key 1 nonce b ++ tagL key nonce a (streamL key 1 nonce b) := by
  unfold sealL
  rw [List.take_of_length_le (by rw [tagL_length]; omega)]

theorem sealL_length (key nonce a b : List Int) : (sealL key nonce a b).length = b.length + 16 := by
  rw [sealL_eq, List.length_append, streamL_length, tagL_length]

theorem open_seal (key nonce a : List Int) {b : List Int} (hb : Bytes b) : openL key nonce a (sealL key nonce a b) = (b, 0) := by
  unfold openL
  rw [sealL_length, if_neg (by omega)]
  have e1 : (sealL key nonce a b).take (b.length + 16 - 16) = streamL key 1 nonce b := by
    rw [sealL_eq, Nat.add_sub_cancel, List.take_append_of_le_length (by rw [streamL_length]; omega), List.take_of_length_le (by rw [streamL_length]; omega)]
  have e2 : ((sealL key nonce a b).drop (b.length + 16 - 16)).take 16 = tagL key nonce a (streamL key 1 nonce b) := by
    rw [sealL_eq, Nat.add_sub_cancel, List.drop_append_of_le_length (by rw [streamL_length]; omega), List.drop_of_length_le (by rw [streamL_length]; omega), List.nil_append, List.take_of_length_le (by rw [tagL_length]; omega)]
  rw [e1, e2, if_pos rfl, stream_twice key 1 nonce hb]

theorem seal_open (key nonce a : List Int) {b : List Int} (hb : Bytes b) (h : (openL key nonce a b).2 = 0) : sealL key nonce a (openL key nonce a b).1 = b := by
  unfold openL at h ⊢
  by_cases hl : b.length < 16
  · rw [if_pos hl] at h; cases h
  · rw [if_neg hl] at h ⊢
    by_cases ht : tagL key nonce a (b.take (b.length - 16)) = (b.drop (b.length - 16)).take 16
    · rw [if_pos ht]
      simp only
      rw [sealL_eq, stream_twice key 1 nonce (fun x hx => hb x (List.mem_of_mem_take hx)), ht]
      rw [show (b.drop (b.length - 16)).take 16 = b.drop (b.length - 16) from List.take_of_length_le (by rw [List.length_drop]; omega), List.take_append_drop]
    · rw [if_neg ht] at h; cases h

theorem open_cases (key nonce a b : List Int) : (openL key nonce a b).2 = 0 ∨ ((openL key nonce a b).1 = [] ∧ (((openL key nonce a b).2 = 3 ∧ b.length < 16) ∨ ((openL key nonce a b).2 = 121 ∧ ¬ b.length < 16))) := by
  unfold openL
  by_cases hl : b.length < 16
  · rw [if_pos hl]; exact .inr ⟨rfl, .inl ⟨rfl, hl⟩⟩
  · rw [if_neg hl]
    by_cases ht : tagL key nonce a (b.take (b.length - 16)) = (b.drop (b.length - 16)).take 16
    · rw [if_pos ht]; exact .inl rfl
    · rw [if_neg ht]; exact .inr ⟨rfl, .inr ⟨rfl, hl⟩⟩

theorem open_length (key nonce a b : List Int) : (openL key nonce a b).1.length ≤ b.length := by
  unfold openL
  by_cases hl : b.length < 16
  · rw [if_pos hl]; simp
  · rw [if_neg hl]
    by_cases ht : tagL key nonce a (b.take (b.length - 16)) = (b.drop (b.length - 16)).take 16
    · rw [if_pos ht]; simp only; rw [streamL_length, List.length_take]; omega
    · rw [if_neg ht]; simp

end Go.Proofs.Ytiaddnmloonhgaa

/- A case of sealing, opened. -/
namespace Go.Proofs.Ytiaddnmloonhgaa
open Go Go.Eng Go.ChangeShapes Go.WideShapes Go.RowKit
set_option maxRecDepth 100000

theorem own0 : ownKnob Try.prog.godebug = none := by kernel_rfl
theorem laidOut : laidOutB Try.prog = true := by kernel_rfl

theorem bulk_one {H : Type} (d : DataW H) : 1 ≤ Rows.uptoBulk d := by
  cases d with
  | lit l => cases l <;> simp [Rows.uptoBulk]
  | nil => simp [Rows.uptoBulk]
  | ptr d => simp [Rows.uptoBulk]
  | slice elems spare => simp [Rows.uptoBulk]
  | agg parts => simp [Rows.uptoBulk]
  | iface t d => simp [Rows.uptoBulk]
  | map entries => simp [Rows.uptoBulk]
  | held h => simp [Rows.uptoBulk]

theorem bulk_length {H : Type} (l : List (DataW H)) : l.length ≤ Rows.uptoBulkAll l := by
  induction l with
  | nil => simp [Rows.uptoBulkAll]
  | cons x r ih => have := bulk_one x; simp only [Rows.uptoBulkAll, List.length_cons]; omega

theorem bulk_slice {H : Type} {d : DataW H} {len : Nat} (h : (d = .nil ∧ len = 0) ∨ ∃ elems spare, d = .slice elems spare ∧ elems.length = len) : len ≤ Rows.uptoBulk d := by
  rcases h with ⟨rfl, rfl⟩ | ⟨elems, spare, rfl, rfl⟩
  · exact Nat.zero_le _
  · have := bulk_length elems
    simp only [Rows.uptoBulk]; omega

theorem bulk_bound {H : Type} {l : List (DataW H)} (hk : Rows.uptoSmall H l = true) : Rows.uptoBulkAll l ≤ 1048576 := of_decide_eq_true hk

theorem wf_u8 {y : Int} (h : (Lit.int .u8 y).wf = true) : 0 ≤ y ∧ y < 256 := by
  have := bounds_u8 h; omega

section
variable {H : Type} {enc : TypeId × Value → H}

theorem elB (H : Type) (enc : TypeId × Value → H) : IntEl H enc Try.prog 5 .u8 1 := intEl_int Try.underlying5 (by kernel_rfl)

theorem case_open {W : World} {base b0 : Nat} {sp : Nat → Bool} {hd : Bool} {r : Reach} {v : Value} {d : DataW H} {ps : List MemPlace} (hval : Value.okWide Try.prog W r b0 66 v) (h : DataW.Trod enc Try.prog W base sp hd 66 v d ps) (hk : Rows.uptoBulk d ≤ 1048576) :
    ∃ (key nonce op text other : List Int) (at_ by_ : Int) (ρ : Rho), ∀ n, key.length = 32 ∧ nonce.length = 12 ∧ op.length ≤ 1048576 ∧ text.length ≤ 1048576 ∧ other.length ≤ 1048576 ∧ Bytes key ∧ Bytes nonce ∧ Bytes op ∧ Bytes text ∧ Bytes other ∧
      (-9223372036854775808 ≤ at_ ∧ at_ ≤ 9223372036854775807) ∧ (0 ≤ by_ ∧ by_ < 256) ∧
      (1 ≤ n → Sim W { blk := fun _ => False, loc := ρ.loc, tot := ρ.tot, sh := (caseS n key nonce op text other at_ by_).S, out := ρ.out } ρ (caseS n key nonce op text other at_ by_) { tmps := #[v] ++ Array.replicate (n - 1) undef, defers := [] } W) := by
  obtain ⟨cs, rfl, hcs⟩ := okWide_struct Try.underlying66 hval
  have hcs' : cs.size = 49 := by rw [hcs]; kernel_rfl
  obtain ⟨fuel, h⟩ := h
  obtain ⟨xs, m, rfl, hx, hl, hlen, hf⟩ := DataW.trod_struct Try.underlying66 h
  match xs, hlen with
  | [y0, y1, y2, y3, y4, y5, y6], _ =>
  have g0 : DataW.trod enc Try.prog W base sp hd m 23 ((cs.toList.drop 0).take (Try.prog.cellsOf 23)) = some y0 := hf 0 _ rfl
  have g1 : DataW.trod enc Try.prog W base sp hd m 26 ((cs.toList.drop 32).take (Try.prog.cellsOf 26)) = some y1 := hf 1 _ rfl
  have g2 : DataW.trod enc Try.prog W base sp hd m 27 ((cs.toList.drop 44).take (Try.prog.cellsOf 27)) = some y2 := hf 2 _ rfl
  have g3 : DataW.trod enc Try.prog W base sp hd m 27 ((cs.toList.drop 45).take (Try.prog.cellsOf 27)) = some y3 := hf 3 _ rfl
  have g4 : DataW.trod enc Try.prog W base sp hd m 27 ((cs.toList.drop 46).take (Try.prog.cellsOf 27)) = some y4 := hf 4 _ rfl
  have g5 : DataW.trod enc Try.prog W base sp hd m 3 ((cs.toList.drop 47).take (Try.prog.cellsOf 3)) = some y5 := hf 5 _ rfl
  have g6 : DataW.trod enc Try.prog W base sp hd m 5 ((cs.toList.drop 48).take (Try.prog.cellsOf 5)) = some y6 := hf 6 _ rfl
  rw [show Try.prog.cellsOf 23 = 32 by kernel_rfl] at g0
  rw [show Try.prog.cellsOf 26 = 12 by kernel_rfl] at g1
  rw [show Try.prog.cellsOf 27 = 1 by kernel_rfl] at g2 g3 g4
  rw [show Try.prog.cellsOf 3 = 1 by kernel_rfl] at g5
  rw [show Try.prog.cellsOf 5 = 1 by kernel_rfl] at g6
  obtain ⟨key, k1, k2, k3⟩ := (intEl_array (H := H) (enc := enc) Try.underlying23 (es := 1) (by kernel_rfl) (by omega) (elB H enc)).2 _ _ _ _ _ _ _ g0
  obtain ⟨nonce, n1, n2, n3⟩ := (intEl_array (H := H) (enc := enc) Try.underlying26 (es := 1) (by kernel_rfl) (by omega) (elB H enc)).2 _ _ _ _ _ _ _ g1
  obtain ⟨op, ol, oc, oA, oloc, o1, o2, o3, o4, o5, o6, o7, o8⟩ := open_view Try.underlying27 (by omega) (elB H enc) g2
  obtain ⟨tx, tl, tc, tA, tloc, t1, t2, t3, t4, t5, t6, t7, t8⟩ := open_view Try.underlying27 (by omega) (elB H enc) g3
  obtain ⟨oth, el, ec, eA, eloc, e1, e2, e3, e4, e5, e6, e7, e8⟩ := open_view Try.underlying27 (by omega) (elB H enc) g4
  obtain ⟨at_, a1, _, a2⟩ := DataW.trod_int Try.underlying3 g5
  obtain ⟨by_, b1, _, b2⟩ := DataW.trod_int Try.underlying5 g6
  have hd : d = .agg [y0.1, y1.1, y2.1, y3.1, y4.1, y5.1, y6.1] := by injection hx
  rw [hd] at hk
  simp only [Rows.uptoBulk, Rows.uptoBulkAll] at hk
  have q2 := bulk_slice o8
  have q3 := bulk_slice t8
  have q4 := bulk_slice e8
  have hby : ∀ {l : List Int}, (∀ y ∈ l, (Lit.int .u8 y).wf = true) → Bytes l := fun h x hx => wf_u8 (h x hx)
  refine ⟨key, nonce, op, tx, oth, at_, by_, { loc := locOf [(1000001, oloc), (1000002, tloc), (1000003, eloc)], tot := fun _ => 0 }, fun n => ⟨by simpa using k2, by simpa using n2, by omega, by omega, by omega, hby k3, hby n3, hby o7, hby t7, hby e7, bounds_i64 a2, wf_u8 b2, fun hn => ?_⟩⟩
  refine sim_start (avs := [.s (.agg [.ints .u8 32 key, .ints .u8 12 nonce, .own 1000001, .own 1000002, .own 1000003, .int .i64 at_, .int .u8 by_])]) rfl hn rfl ?_ ?_ ?_ ⟨?_, trivial⟩
  · simp [caseS, Nodup', putNames]
  · intro j it hi
    simp only [caseS, AS.I, findI_cons] at hi
    split at hi
    · rename_i hj; subst hj; injection hi with hi; subst hi
      exact ⟨_, _, _, rfl, ⟨by omega, trivial⟩, ⟨ol, o3⟩, o4⟩
    · split at hi
      · rename_i hj; subst hj; injection hi with hi; subst hi
        exact ⟨_, _, _, rfl, ⟨by omega, trivial⟩, ⟨tl, t3⟩, t4⟩
      · split at hi
        · rename_i hj; subst hj; injection hi with hi; subst hi
          exact ⟨_, _, _, rfl, ⟨by omega, trivial⟩, ⟨el, e3⟩, e4⟩
        · simp [findI] at hi
  · intro j p hp
    simp only [locOf] at hp
    split at hp
    · exact o6 p hp
    · split at hp
      · exact t6 p hp
      · split at hp
        · exact e6 p hp
        · cases hp
  · refine ⟨cs.toList, by simp, ?_⟩
    have := relL_of (ρ := { loc := locOf [(1000001, oloc), (1000002, tloc), (1000003, eloc)], tot := fun _ => 0 }) (S := (caseS n key nonce op tx oth at_ by_).S) (off := 0) (cs := cs.toList)
      (l := [(.ints .u8 32 key, 32), (.ints .u8 12 nonce, 12), (.own 1000001, 1), (.own 1000002, 1), (.own 1000003, 1), (.int .i64 at_, 1), (.int .u8 by_, 1)])
      ⟨by simp [hcs'], ⟨k1, by simpa using k2⟩, by simp [hcs'], ⟨n1, by simpa using n2⟩, by simp [hcs'], rel_own rfl o1 o2 o3 o5 (by omega), by simp [hcs'], rel_own rfl t1 t2 t3 t5 (by omega), by simp [hcs'], rel_own rfl e1 e2 e3 e5 (by omega), by simp [hcs'], a1, by simp [hcs'], b1, (show cs.toList.length = 49 by simpa using hcs')⟩
    exact this
end
end Go.Proofs.Ytiaddnmloonhgaa

/- What rime/rimeref12.low comes to. MADE BY PROGRAM (wip/tools/mkfn.py, EngGen.lean). -/
namespace Go.Proofs.Ytiaddnmloonhgaa
open Go Go.Eng
set_option maxRecDepth 100000
set_option linter.unusedVariables false

noncomputable def f45_raw {R : Type} (N : Nat) (b : List Int) (k : List DV → Option R) : Option R :=
 bif Decidable.decide (0 ≤ 0) && Decidable.decide (0 < nI (rowLen 1 b)) then
 bif Decidable.decide (0 ≤ 1) && Decidable.decide (1 < nI (rowLen 1 b)) then
 bif Decidable.decide (0 ≤ 2) && Decidable.decide (2 < nI (rowLen 1 b)) then
 bif Decidable.decide (0 ≤ 3) && Decidable.decide (3 < nI (rowLen 1 b)) then
 let v0 : Int := IntKind.u32.wrap (b.getD (mulE (Int.toNat 0) 1) 0);
 let v1 : Int := IntKind.u32.wrap (b.getD (mulE (Int.toNat 1) 1) 0);
 let v2 : Int := shlI IntKind.u32 v1 8;
 let v3 : Int := orI IntKind.u32 v0 v2;
 let v4 : Int := IntKind.u32.wrap (b.getD (mulE (Int.toNat 2) 1) 0);
 let v5 : Int := shlI IntKind.u32 v4 16;
 let v6 : Int := orI IntKind.u32 v3 v5;
 let v7 : Int := IntKind.u32.wrap (b.getD (mulE (Int.toNat 3) 1) 0);
 let v8 : Int := shlI IntKind.u32 v7 24;
 let v9 : Int := orI IntKind.u32 v6 v8;
 k [DV.v (SV.one (At.int IntKind.u32 v9))]
 else Option.none
 else Option.none
 else Option.none
else Option.none


noncomputable def E45 (N : Nat) : Env := { Θ := Th, Γ := [], K := K45, ν := N45, fuel := 60, lp := [] }


theorem f45_contract (N : Nat) (hΓ : CtxOk Try.prog []) : Contract Try.prog 45 { sig := S45, impl := fun _ ds k => call (E45 N) S45 25 B45 R45 ds k } :=
  call_contract (E := E45 N) thOk hΓ mixed ok45.look ok45.body ok45.n ok45.rv ok45.name rfl (by decide) (loopsOk_of (l := []) (by kernel_rfl) trivial)
theorem f45_raw_eq {R : Type} (N : Nat) (b : List Int) (k : List DV → Option R) : call (E45 N) S45 25 B45 R45 [.lst (.one .u8) 1 b] k = f45_raw N b k := by kernel_rfl
end Go.Proofs.Ytiaddnmloonhgaa

/- What rime/rimeref12.turned comes to. MADE BY PROGRAM (wip/tools/mkfn.py, EngGen.lean). -/
namespace Go.Proofs.Ytiaddnmloonhgaa
open Go Go.Eng
set_option maxRecDepth 100000
set_option linter.unusedVariables false

noncomputable def f93_raw {R : Type} (N : Nat) (x : Int) (n : Int) (k : List DV → Option R) : Option R :=
 bif Decidable.decide (0 ≤ n) then
 let v0 : Int := IntKind.u64.wrap (32 - n);
 bif Decidable.decide (0 ≤ v0) then
 let v1 : Int := shlI IntKind.u32 x n;
 let v2 : Int := shrI IntKind.u32 x v0;
 let v3 : Int := orI IntKind.u32 v1 v2;
 k [DV.v (SV.one (At.int IntKind.u32 v3))]
 else Option.none
else Option.none


noncomputable def E93 (N : Nat) : Env := { Θ := Th, Γ := [], K := K93, ν := N93, fuel := 60, lp := [] }


theorem f93_contract (N : Nat) (hΓ : CtxOk Try.prog []) : Contract Try.prog 93 { sig := S93, impl := fun _ ds k => call (E93 N) S93 13 B93 R93 ds k } :=
  call_contract (E := E93 N) thOk hΓ mixed ok93.look ok93.body ok93.n ok93.rv ok93.name rfl (by decide) (loopsOk_of (l := []) (by kernel_rfl) trivial)
theorem f93_raw_eq {R : Type} (N : Nat) (x : Int) (n : Int) (k : List DV → Option R) : call (E93 N) S93 13 B93 R93 [.v (.one (.int .u32 x)), .v (.one (.int .u64 n))] k = f93_raw N x n k := by kernel_rfl
end Go.Proofs.Ytiaddnmloonhgaa

/- What rime/rimelaw12.works comes to. MADE BY PROGRAM (wip/tools/mkfn.py, EngGen.lean). -/
namespace Go.Proofs.Ytiaddnmloonhgaa
open Go Go.Eng
set_option maxRecDepth 100000
set_option linter.unusedVariables false

def f23_raw {R : Type} (N : Nat)  (k : List DV → Option R) : Option R :=
 let v0 : List Int := (Go.Eng.zerosOf (1 * 1)).set 0 97;
let v1 : List Int := (Go.Eng.zerosOf (4 * 1)).set 0 116;
let v2 : List Int := v1.set 1 101;
let v3 : List Int := v2.set 2 120;
let v4 : List Int := v3.set 3 116;
let v5 : Bool := bif Go.Eng.nI (Go.Eng.rowLen 1 (Go.Proofs.Ytiaddnmloonhgaa.sealL (List.replicate 32 0) (List.replicate 12 0) v0 v4)) == 20 then (Go.Proofs.Ytiaddnmloonhgaa.openL (List.replicate 32 0) (List.replicate 12 0) v0 (Go.Proofs.Ytiaddnmloonhgaa.sealL (List.replicate 32 0) (List.replicate 12 0) v0 v4)).snd == 0 else Bool.false;
let v6 : Bool := bif v5 then (Go.Eng.mkBytes (Go.Proofs.Ytiaddnmloonhgaa.openL (List.replicate 32 0) (List.replicate 12 0) v0 (Go.Proofs.Ytiaddnmloonhgaa.sealL (List.replicate 32 0) (List.replicate 12 0) v0 v4)).fst).toList == (ByteArray.mk #[116, 101, 120, 116]).toList else Bool.false;
let v7 : List Int := (Go.Eng.zerosOf (1 * 1)).set 0 98;
let v8 : Bool := bif v6 then (Go.Proofs.Ytiaddnmloonhgaa.openL (List.replicate 32 0) (List.replicate 12 0) v7 (Go.Proofs.Ytiaddnmloonhgaa.sealL (List.replicate 32 0) (List.replicate 12 0) v0 v4)).snd == 121 else Bool.false;
k [Go.Eng.DV.v (Go.Eng.SV.one (Go.Eng.At.bool v8))]


noncomputable def E23 (N : Nat) : Env := { Θ := Th, Γ := G23, K := K23, ν := N23, fuel := 0, lp := [] }


theorem f23_contract (N : Nat) (hΓ : CtxOk Try.prog G23) : Contract Try.prog 23 { sig := S23, impl := fun _ ds k => call (E23 N) S23 51 B23 R23 ds k } :=
  call_contract (E := E23 N) thOk hΓ mixed ok23.look ok23.body ok23.n ok23.rv ok23.name rfl (by decide) (loopsOk_of (l := []) (by kernel_rfl) trivial)
theorem f23_raw_eq {R : Type} (N : Nat)  (k : List DV → Option R) : call (E23 N) S23 51 B23 R23 [] k = f23_raw N  k := by kernel_rfl
end Go.Proofs.Ytiaddnmloonhgaa

/- A text sealed is opened; with a bit turned it is not. -/
namespace Go.Proofs.Ytiaddnmloonhgaa
open Go Go.Eng
set_option maxRecDepth 100000

def z32 : List Int := List.replicate 32 0
def z12 : List Int := List.replicate 12 0
def textB : List Int := [116, 101, 120, 116]

theorem tag_unlike : (tagL z32 z12 [98] (streamL z32 1 z12 textB) == tagL z32 z12 [97] (streamL z32 1 z12 textB)) = false := by decide +kernel

theorem textB_bytes : Bytes textB := by
  intro x hx
  simp only [textB, List.mem_cons, List.not_mem_nil, or_false] at hx
  omega

theorem open_other : openL z32 z12 [98] (sealL z32 z12 [97] textB) = ([], 121) := by
  have hl : (streamL z32 1 z12 textB).length = 4 := streamL_length _ _ _ _
  unfold openL
  rw [sealL_length]
  rw [if_neg (show ¬ textB.length + 16 < 16 by decide)]
  rw [sealL_eq]
  rw [show textB.length + 16 - 16 = 4 from rfl, List.take_left' hl, List.drop_left' hl, List.take_of_length_le (by rw [tagL_length]; omega), if_neg]
  intro h
  have := tag_unlike
  rw [h] at this
  simp at this

theorem works_true {R : Type} (k : List DV → Option R) : f23_raw 0 k = k [.v (.one (.bool true))] := by
  have e1 := open_seal z32 z12 [97] textB_bytes
  have e2 := open_other
  have e3 := sealL_length z32 z12 [97] textB
  unfold f23_raw
  simp only []
  rw [show (zerosOf (1 * 1)).set 0 97 = [97] from rfl, show (zerosOf (1 * 1)).set 0 98 = [98] from rfl, show ((((zerosOf (4 * 1)).set 0 116).set 1 101).set 2 120).set 3 116 = textB from rfl]
  rw [show (List.replicate 32 0 : List Int) = z32 from rfl, show (List.replicate 12 0 : List Int) = z12 from rfl]
  rw [e1, e2, rowLen_one, e3]
  rw [show mkBytes (textB, (0 : Int)).fst = ByteArray.mk #[116, 101, 120, 116] from rfl]
  rw [show ((ByteArray.mk #[116, 101, 120, 116]).toList == (ByteArray.mk #[116, 101, 120, 116]).toList) = true from beq_self_eq_true _]
  rfl

theorem c23 : Contract Try.prog 23 { sig := S23, impl := I23 } := by
  refine Contract.refine fun R ds k r h => ⟨_, f23_contract 0 G23_ok, ?_⟩
  unfold I23 at h
  split at h
  · rw [f23_raw_eq, works_true]; exact h
  · cases h

theorem G6_ok : CtxOk Try.prog G6 := ctxOk_cons ok16 rfl c16 (ctxOk_cons ok20 rfl c20 (ctxOk_cons ok23 rfl c23 (ctxOk_cons ok24 rfl c24 (ctxOk_cons ok26 rfl c26 (ctxOk_cons ok28 rfl c28 (ctxOk_cons ok18 rfl c18 (ctxOk_cons ok30 rfl c30 ctxOk_nil)))))))
end Go.Proofs.Ytiaddnmloonhgaa

