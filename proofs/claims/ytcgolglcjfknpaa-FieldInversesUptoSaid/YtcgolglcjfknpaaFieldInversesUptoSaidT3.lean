/- A part of the proof: FieldInverses: for any list of field elements whose data stay within 1,048,576: InvertAll answers as the document, and the list that was handed in stands as it stood. -/
import Derived.Test.YtcgolglcjfknpaaFieldInversesUptoSaidT2
import Derived.Test.YtcgolglcjfknpaaRows
import Derived.JoinedCond
set_option linter.unusedVariables false
set_option linter.unusedSimpArgs false

/- What (rime/field.el).fe comes to. MADE BY PROGRAM (wip/tools/mkfn.py, EngGen.lean). -/
namespace Go.Proofs.Ytcgolglcjfknpaa
open Go Go.Eng
set_option maxRecDepth 100000
set_option linter.unusedVariables false

def f70_raw {R : Type} (N : Nat) (x : List Int) (k : List DV → Option R) : Option R :=
 let v0 : Int := shlI IntKind.u64 ((leastL x).getD (mulE (Int.toNat 1) 1) 0) 51;
let v1 : Int := orI IntKind.u64 ((leastL x).getD (mulE (Int.toNat 0) 1) 0) v0;
let v2 : List Int := (List.replicate 4 0).set 0 v1;
let v3 : Int := shrI IntKind.u64 ((leastL x).getD (mulE (Int.toNat 1) 1) 0) 13;
let v4 : Int := shlI IntKind.u64 ((leastL x).getD (mulE (Int.toNat 2) 1) 0) 38;
let v5 : Int := orI IntKind.u64 v3 v4;
let v6 : List Int := v2.set 1 v5;
let v7 : Int := shrI IntKind.u64 ((leastL x).getD (mulE (Int.toNat 2) 1) 0) 26;
let v8 : Int := shlI IntKind.u64 ((leastL x).getD (mulE (Int.toNat 3) 1) 0) 25;
let v9 : Int := orI IntKind.u64 v7 v8;
let v10 : List Int := v6.set 2 v9;
let v11 : Int := shrI IntKind.u64 ((leastL x).getD (mulE (Int.toNat 3) 1) 0) 39;
let v12 : Int := shlI IntKind.u64 ((leastL x).getD (mulE (Int.toNat 4) 1) 0) 12;
let v13 : Int := orI IntKind.u64 v11 v12;
let v14 : List Int := v10.set 3 v13;
let v15 : Int := IntKind.i64.wrap (Int.tdiv 0 8);
let v16 : Int := IntKind.i64.wrap (8 * Int.tmod 0 8);
let v17 : Int := shrI IntKind.u64 (v14.getD (mulE v15.toNat 1) 0) v16;
let v18 : Int := IntKind.u8.wrap v17;
let v19 : List Int := (List.replicate 32 0).set (mulE (Int.toNat 0) 1) v18;
let v20 : Int := IntKind.i64.wrap (0 + 1);
let v21 : Int := IntKind.i64.wrap (v20.tdiv 8);
let v22 : Int := IntKind.i64.wrap (8 * v20.tmod 8);
let v23 : Int := shrI IntKind.u64 (v14.getD (mulE v21.toNat 1) 0) v22;
let v24 : Int := IntKind.u8.wrap v23;
let v25 : List Int := v19.set (mulE v20.toNat 1) v24;
let v26 : Int := IntKind.i64.wrap (v20 + 1);
let v27 : Int := IntKind.i64.wrap (v26.tdiv 8);
let v28 : Int := IntKind.i64.wrap (8 * v26.tmod 8);
let v29 : Int := shrI IntKind.u64 (v14.getD (mulE v27.toNat 1) 0) v28;
let v30 : Int := IntKind.u8.wrap v29;
let v31 : List Int := v25.set (mulE v26.toNat 1) v30;
let v32 : Int := IntKind.i64.wrap (v26 + 1);
let v33 : Int := IntKind.i64.wrap (v32.tdiv 8);
let v34 : Int := IntKind.i64.wrap (8 * v32.tmod 8);
let v35 : Int := shrI IntKind.u64 (v14.getD (mulE v33.toNat 1) 0) v34;
let v36 : Int := IntKind.u8.wrap v35;
let v37 : List Int := v31.set (mulE v32.toNat 1) v36;
let v38 : Int := IntKind.i64.wrap (v32 + 1);
let v39 : Int := IntKind.i64.wrap (v38.tdiv 8);
let v40 : Int := IntKind.i64.wrap (8 * v38.tmod 8);
let v41 : Int := shrI IntKind.u64 (v14.getD (mulE v39.toNat 1) 0) v40;
let v42 : Int := IntKind.u8.wrap v41;
let v43 : List Int := v37.set (mulE v38.toNat 1) v42;
let v44 : Int := IntKind.i64.wrap (v38 + 1);
let v45 : Int := IntKind.i64.wrap (v44.tdiv 8);
let v46 : Int := IntKind.i64.wrap (8 * v44.tmod 8);
let v47 : Int := shrI IntKind.u64 (v14.getD (mulE v45.toNat 1) 0) v46;
let v48 : Int := IntKind.u8.wrap v47;
let v49 : List Int := v43.set (mulE v44.toNat 1) v48;
let v50 : Int := IntKind.i64.wrap (v44 + 1);
let v51 : Int := IntKind.i64.wrap (v50.tdiv 8);
let v52 : Int := IntKind.i64.wrap (8 * v50.tmod 8);
let v53 : Int := shrI IntKind.u64 (v14.getD (mulE v51.toNat 1) 0) v52;
let v54 : Int := IntKind.u8.wrap v53;
let v55 : List Int := v49.set (mulE v50.toNat 1) v54;
let v56 : Int := IntKind.i64.wrap (v50 + 1);
let v57 : Int := IntKind.i64.wrap (v56.tdiv 8);
let v58 : Int := IntKind.i64.wrap (8 * v56.tmod 8);
let v59 : Int := shrI IntKind.u64 (v14.getD (mulE v57.toNat 1) 0) v58;
let v60 : Int := IntKind.u8.wrap v59;
let v61 : List Int := v55.set (mulE v56.toNat 1) v60;
let v62 : Int := IntKind.i64.wrap (v56 + 1);
let v63 : Int := IntKind.i64.wrap (v62.tdiv 8);
let v64 : Int := IntKind.i64.wrap (8 * v62.tmod 8);
let v65 : Int := shrI IntKind.u64 (v14.getD (mulE v63.toNat 1) 0) v64;
let v66 : Int := IntKind.u8.wrap v65;
let v67 : List Int := v61.set (mulE v62.toNat 1) v66;
let v68 : Int := IntKind.i64.wrap (v62 + 1);
let v69 : Int := IntKind.i64.wrap (v68.tdiv 8);
let v70 : Int := IntKind.i64.wrap (8 * v68.tmod 8);
let v71 : Int := shrI IntKind.u64 (v14.getD (mulE v69.toNat 1) 0) v70;
let v72 : Int := IntKind.u8.wrap v71;
let v73 : List Int := v67.set (mulE v68.toNat 1) v72;
let v74 : Int := IntKind.i64.wrap (v68 + 1);
let v75 : Int := IntKind.i64.wrap (v74.tdiv 8);
let v76 : Int := IntKind.i64.wrap (8 * v74.tmod 8);
let v77 : Int := shrI IntKind.u64 (v14.getD (mulE v75.toNat 1) 0) v76;
let v78 : Int := IntKind.u8.wrap v77;
let v79 : List Int := v73.set (mulE v74.toNat 1) v78;
let v80 : Int := IntKind.i64.wrap (v74 + 1);
let v81 : Int := IntKind.i64.wrap (v80.tdiv 8);
let v82 : Int := IntKind.i64.wrap (8 * v80.tmod 8);
let v83 : Int := shrI IntKind.u64 (v14.getD (mulE v81.toNat 1) 0) v82;
let v84 : Int := IntKind.u8.wrap v83;
let v85 : List Int := v79.set (mulE v80.toNat 1) v84;
let v86 : Int := IntKind.i64.wrap (v80 + 1);
let v87 : Int := IntKind.i64.wrap (v86.tdiv 8);
let v88 : Int := IntKind.i64.wrap (8 * v86.tmod 8);
let v89 : Int := shrI IntKind.u64 (v14.getD (mulE v87.toNat 1) 0) v88;
let v90 : Int := IntKind.u8.wrap v89;
let v91 : List Int := v85.set (mulE v86.toNat 1) v90;
let v92 : Int := IntKind.i64.wrap (v86 + 1);
let v93 : Int := IntKind.i64.wrap (v92.tdiv 8);
let v94 : Int := IntKind.i64.wrap (8 * v92.tmod 8);
let v95 : Int := shrI IntKind.u64 (v14.getD (mulE v93.toNat 1) 0) v94;
let v96 : Int := IntKind.u8.wrap v95;
let v97 : List Int := v91.set (mulE v92.toNat 1) v96;
let v98 : Int := IntKind.i64.wrap (v92 + 1);
let v99 : Int := IntKind.i64.wrap (v98.tdiv 8);
let v100 : Int := IntKind.i64.wrap (8 * v98.tmod 8);
let v101 : Int := shrI IntKind.u64 (v14.getD (mulE v99.toNat 1) 0) v100;
let v102 : Int := IntKind.u8.wrap v101;
let v103 : List Int := v97.set (mulE v98.toNat 1) v102;
let v104 : Int := IntKind.i64.wrap (v98 + 1);
let v105 : Int := IntKind.i64.wrap (v104.tdiv 8);
let v106 : Int := IntKind.i64.wrap (8 * v104.tmod 8);
let v107 : Int := shrI IntKind.u64 (v14.getD (mulE v105.toNat 1) 0) v106;
let v108 : Int := IntKind.u8.wrap v107;
let v109 : List Int := v103.set (mulE v104.toNat 1) v108;
let v110 : Int := IntKind.i64.wrap (v104 + 1);
let v111 : Int := IntKind.i64.wrap (v110.tdiv 8);
let v112 : Int := IntKind.i64.wrap (8 * v110.tmod 8);
let v113 : Int := shrI IntKind.u64 (v14.getD (mulE v111.toNat 1) 0) v112;
let v114 : Int := IntKind.u8.wrap v113;
let v115 : List Int := v109.set (mulE v110.toNat 1) v114;
let v116 : Int := IntKind.i64.wrap (v110 + 1);
let v117 : Int := IntKind.i64.wrap (v116.tdiv 8);
let v118 : Int := IntKind.i64.wrap (8 * v116.tmod 8);
let v119 : Int := shrI IntKind.u64 (v14.getD (mulE v117.toNat 1) 0) v118;
let v120 : Int := IntKind.u8.wrap v119;
let v121 : List Int := v115.set (mulE v116.toNat 1) v120;
let v122 : Int := IntKind.i64.wrap (v116 + 1);
let v123 : Int := IntKind.i64.wrap (v122.tdiv 8);
let v124 : Int := IntKind.i64.wrap (8 * v122.tmod 8);
let v125 : Int := shrI IntKind.u64 (v14.getD (mulE v123.toNat 1) 0) v124;
let v126 : Int := IntKind.u8.wrap v125;
let v127 : List Int := v121.set (mulE v122.toNat 1) v126;
let v128 : Int := IntKind.i64.wrap (v122 + 1);
let v129 : Int := IntKind.i64.wrap (v128.tdiv 8);
let v130 : Int := IntKind.i64.wrap (8 * v128.tmod 8);
let v131 : Int := shrI IntKind.u64 (v14.getD (mulE v129.toNat 1) 0) v130;
let v132 : Int := IntKind.u8.wrap v131;
let v133 : List Int := v127.set (mulE v128.toNat 1) v132;
let v134 : Int := IntKind.i64.wrap (v128 + 1);
let v135 : Int := IntKind.i64.wrap (v134.tdiv 8);
let v136 : Int := IntKind.i64.wrap (8 * v134.tmod 8);
let v137 : Int := shrI IntKind.u64 (v14.getD (mulE v135.toNat 1) 0) v136;
let v138 : Int := IntKind.u8.wrap v137;
let v139 : List Int := v133.set (mulE v134.toNat 1) v138;
let v140 : Int := IntKind.i64.wrap (v134 + 1);
let v141 : Int := IntKind.i64.wrap (v140.tdiv 8);
let v142 : Int := IntKind.i64.wrap (8 * v140.tmod 8);
let v143 : Int := shrI IntKind.u64 (v14.getD (mulE v141.toNat 1) 0) v142;
let v144 : Int := IntKind.u8.wrap v143;
let v145 : List Int := v139.set (mulE v140.toNat 1) v144;
let v146 : Int := IntKind.i64.wrap (v140 + 1);
let v147 : Int := IntKind.i64.wrap (v146.tdiv 8);
let v148 : Int := IntKind.i64.wrap (8 * v146.tmod 8);
let v149 : Int := shrI IntKind.u64 (v14.getD (mulE v147.toNat 1) 0) v148;
let v150 : Int := IntKind.u8.wrap v149;
let v151 : List Int := v145.set (mulE v146.toNat 1) v150;
let v152 : Int := IntKind.i64.wrap (v146 + 1);
let v153 : Int := IntKind.i64.wrap (v152.tdiv 8);
let v154 : Int := IntKind.i64.wrap (8 * v152.tmod 8);
let v155 : Int := shrI IntKind.u64 (v14.getD (mulE v153.toNat 1) 0) v154;
let v156 : Int := IntKind.u8.wrap v155;
let v157 : List Int := v151.set (mulE v152.toNat 1) v156;
let v158 : Int := IntKind.i64.wrap (v152 + 1);
let v159 : Int := IntKind.i64.wrap (v158.tdiv 8);
let v160 : Int := IntKind.i64.wrap (8 * v158.tmod 8);
let v161 : Int := shrI IntKind.u64 (v14.getD (mulE v159.toNat 1) 0) v160;
let v162 : Int := IntKind.u8.wrap v161;
let v163 : List Int := v157.set (mulE v158.toNat 1) v162;
let v164 : Int := IntKind.i64.wrap (v158 + 1);
let v165 : Int := IntKind.i64.wrap (v164.tdiv 8);
let v166 : Int := IntKind.i64.wrap (8 * v164.tmod 8);
let v167 : Int := shrI IntKind.u64 (v14.getD (mulE v165.toNat 1) 0) v166;
let v168 : Int := IntKind.u8.wrap v167;
let v169 : List Int := v163.set (mulE v164.toNat 1) v168;
let v170 : Int := IntKind.i64.wrap (v164 + 1);
let v171 : Int := IntKind.i64.wrap (v170.tdiv 8);
let v172 : Int := IntKind.i64.wrap (8 * v170.tmod 8);
let v173 : Int := shrI IntKind.u64 (v14.getD (mulE v171.toNat 1) 0) v172;
let v174 : Int := IntKind.u8.wrap v173;
let v175 : List Int := v169.set (mulE v170.toNat 1) v174;
let v176 : Int := IntKind.i64.wrap (v170 + 1);
let v177 : Int := IntKind.i64.wrap (v176.tdiv 8);
let v178 : Int := IntKind.i64.wrap (8 * v176.tmod 8);
let v179 : Int := shrI IntKind.u64 (v14.getD (mulE v177.toNat 1) 0) v178;
let v180 : Int := IntKind.u8.wrap v179;
let v181 : List Int := v175.set (mulE v176.toNat 1) v180;
let v182 : Int := IntKind.i64.wrap (v176 + 1);
let v183 : Int := IntKind.i64.wrap (v182.tdiv 8);
let v184 : Int := IntKind.i64.wrap (8 * v182.tmod 8);
let v185 : Int := shrI IntKind.u64 (v14.getD (mulE v183.toNat 1) 0) v184;
let v186 : Int := IntKind.u8.wrap v185;
let v187 : List Int := v181.set (mulE v182.toNat 1) v186;
let v188 : Int := IntKind.i64.wrap (v182 + 1);
let v189 : Int := IntKind.i64.wrap (v188.tdiv 8);
let v190 : Int := IntKind.i64.wrap (8 * v188.tmod 8);
let v191 : Int := shrI IntKind.u64 (v14.getD (mulE v189.toNat 1) 0) v190;
let v192 : Int := IntKind.u8.wrap v191;
let v193 : List Int := v187.set (mulE v188.toNat 1) v192;
let v194 : Int := IntKind.i64.wrap (v188 + 1);
let v195 : Int := IntKind.i64.wrap (v194.tdiv 8);
let v196 : Int := IntKind.i64.wrap (8 * v194.tmod 8);
let v197 : Int := shrI IntKind.u64 (v14.getD (mulE v195.toNat 1) 0) v196;
let v198 : Int := IntKind.u8.wrap v197;
let v199 : List Int := v193.set (mulE v194.toNat 1) v198;
let v200 : Int := IntKind.i64.wrap (v194 + 1);
let v201 : Int := IntKind.i64.wrap (v200.tdiv 8);
let v202 : Int := IntKind.i64.wrap (8 * v200.tmod 8);
let v203 : Int := shrI IntKind.u64 (v14.getD (mulE v201.toNat 1) 0) v202;
let v204 : Int := IntKind.u8.wrap v203;
let v205 : List Int := v199.set (mulE v200.toNat 1) v204;
k [DV.v (SV.one (At.ints IntKind.u8 32 v205))]


noncomputable def E70 (N : Nat) : Env := { Θ := Th, Γ := GB, K := K70, ν := N70, fuel := 60, lp := [] }


theorem f70_contract (N : Nat) (hΓ : CtxOk Try.prog GB) : Contract Try.prog 70 { sig := S70, impl := fun _ ds k => call (E70 N) S70 52 B70 R70 ds k } :=
  call_contract (E := E70 N) thOk hΓ mixed ok70.look ok70.body ok70.n ok70.rv ok70.name rfl (by decide) (loopsOk_of (l := [(0, B70_0)]) (by kernel_rfl) (allOk_skip rfl trivial))
theorem f70_raw_eq {R : Type} (N : Nat) (x : List Int) (k : List DV → Option R) : call (E70 N) S70 52 B70 R70 [.v (.one (.ints .u64 5 x))] k = f70_raw N x k := by kernel_rfl
end Go.Proofs.Ytcgolglcjfknpaa

/- Contracts of field's inner functions, go on. -/
namespace Go.Proofs.Ytcgolglcjfknpaa
open Go Go.Eng
set_option maxRecDepth 100000

def feR (x : List Int) : List Int := ansL (f70_raw 0 x some) 0
theorem f70_spec {R : Type} (x : List Int) (k : List DV → Option R) : f70_raw 0 x k = k [.v (.one (.ints .u8 32 (feR x)))] := by kernel_rfl
def I70r : (R : Type) → List DV → (List DV → Option R) → Option R := fun _ ds k => match ds with
  | [.v (.one (.ints .u64 5 x))] => k [.v (.one (.ints .u8 32 (feR x)))]
  | _ => none
theorem c70r : Contract Try.prog 70 { sig := S70, impl := I70r } := by
  refine Contract.refine fun R ds k r h => ⟨_, f70_contract 0 GB_ok, ?_⟩
  unfold I70r at h
  split at h
  · rw [f70_raw_eq, f70_spec]; exact h
  · cases h

/-- the same bytes, as something that no reckoning looks into -/
noncomputable def feS : { f : List Int → List Int // ∀ x, f x = feR x } := Classical.choice ⟨⟨feR, fun _ => rfl⟩⟩
noncomputable def feL (x : List Int) : List Int := feS.1 x
theorem feL_eq (x : List Int) : feL x = feR x := feS.2 x
noncomputable def I70 : (R : Type) → List DV → (List DV → Option R) → Option R := fun _ ds k => match ds with
  | [.v (.one (.ints .u64 5 x))] => k [.v (.one (.ints .u8 32 (feL x)))]
  | _ => none
theorem c70 : Contract Try.prog 70 { sig := S70, impl := I70 } := by
  refine Contract.refine fun R ds k r h => ⟨_, c70r, ?_⟩
  unfold I70 at h
  unfold I70r
  split at h
  · rw [feL_eq] at h; exact h
  · cases h
end Go.Proofs.Ytcgolglcjfknpaa

/- Primes: Fermat, Pocklington, powers reckoned fast. Plain numbers, no program. -/
namespace Go.Eng

def Prm (n : Nat) : Prop := 2 ≤ n ∧ ∀ d, d ∣ n → d = 1 ∨ d = n

theorem Prm.coprime {p a : Nat} (hp : Prm p) (h : ¬ p ∣ a) : Nat.Coprime p a := by
  rcases hp.2 _ (Nat.gcd_dvd_left p a) with h1 | h1
  · exact h1
  · exact absurd (h1 ▸ Nat.gcd_dvd_right p a) h

theorem Prm.dvd_mul {p a b : Nat} (hp : Prm p) (h : p ∣ a * b) : p ∣ a ∨ p ∣ b := by
  by_cases h1 : p ∣ a
  · exact .inl h1
  · exact .inr ((hp.coprime h1).dvd_of_dvd_mul_left h)

theorem exists_prm : ∀ n, 2 ≤ n → ∃ r, Prm r ∧ r ∣ n := by
  intro n
  induction n using Nat.strongRecOn with
  | ind n ih =>
    intro hn
    by_cases h : ∀ d, d ∣ n → d = 1 ∨ d = n
    · exact ⟨n, ⟨hn, h⟩, Nat.dvd_refl n⟩
    · have ⟨d, hd⟩ := Classical.not_forall.1 h
      have ⟨hd, hne⟩ : d ∣ n ∧ ¬(d = 1 ∨ d = n) := by
        by_cases e : d ∣ n
        · exact ⟨e, fun h' => hd fun _ => h'⟩
        · exact absurd (fun h' => absurd h' e) hd
      have hle := Nat.le_of_dvd (by omega) hd
      have h0 : d ≠ 0 := by
        rintro rfl
        have := Nat.eq_zero_of_zero_dvd hd
        omega
      obtain ⟨r, h1, h2⟩ := ih d (by omega) (by omega)
      exact ⟨r, h1, Nat.dvd_trans h2 hd⟩

theorem dvd_of_mods {n a b : Nat} (h : a % n = b % n) : n ∣ b - a := Nat.dvd_of_mod_eq_zero (Nat.sub_mod_eq_zero_of_mod_eq h.symm)

theorem mods_of_dvd {n a b : Nat} (hle : a ≤ b) (h : n ∣ b - a) : a % n = b % n := by
  obtain ⟨k, hk⟩ := h
  rw [show b = a + n * k by omega, Nat.add_mul_mod_self_left]

/-! ### Fermat -/

def prodL : List Nat → Nat
  | [] => 1
  | x :: l => x * prodL l

theorem prodL_perm {l m : List Nat} (h : l.Perm m) : prodL l = prodL m := by
  induction h with
  | nil => rfl
  | cons x _ ih => simp [prodL, ih]
  | swap x y l => simp [prodL, Nat.mul_left_comm]
  | trans _ _ ih1 ih2 => exact ih1.trans ih2

theorem perm_of_subset : ∀ {l m : List Nat}, l.Nodup → (∀ x ∈ l, x ∈ m) → m.length ≤ l.length → l.Perm m
  | [], m, _, _, h => by
    have : m = [] := List.eq_nil_of_length_eq_zero (by simpa using h)
    rw [this]
  | x :: l, m, hn, hs, h => by
    have hx := hs x (.head _)
    have hp := List.perm_cons_erase hx
    rw [List.nodup_cons] at hn
    have hl : (m.erase x).length ≤ l.length := by
      rw [List.length_erase_of_mem hx]
      simp only [List.length_cons] at h; omega
    have ih := perm_of_subset (l := l) (m := m.erase x) hn.2 (fun y hy => (List.mem_erase_of_ne (fun e : y = x => hn.1 (by rw [← e]; exact hy))).2 (hs y (.tail _ hy))) hl
    exact (ih.cons x).trans hp.symm

theorem prod_map_mod (a p : Nat) : ∀ l : List Nat, prodL (l.map fun k => a * k % p) % p = a ^ l.length * prodL l % p
  | [] => by simp [prodL]
  | x :: l => by
    simp only [List.map_cons, prodL, List.length_cons, Nat.pow_succ]
    rw [Nat.mul_mod, prod_map_mod a p l, Nat.mod_mod, ← Nat.mul_mod]
    congr 1
    simp only [Nat.mul_comm, Nat.mul_left_comm, Nat.mul_assoc]

theorem not_dvd_prod {p : Nat} (hp : Prm p) : ∀ {l : List Nat}, (∀ x ∈ l, ¬ p ∣ x) → ¬ p ∣ prodL l
  | [], _, h => by
    have := Nat.le_of_dvd (by decide) h
    have := hp.1
    simp [prodL] at *; omega
  | x :: l, h, hd => by
    rcases hp.dvd_mul hd with h1 | h1
    · exact h x (.head _) h1
    · exact not_dvd_prod hp (fun y hy => h y (.tail _ hy)) h1

theorem fermat {p a : Nat} (hp : Prm p) (ha : ¬ p ∣ a) : a ^ (p - 1) % p = 1 := by
  have h2 := hp.1
  let L := List.range' 1 (p - 1)
  have hmem : ∀ x, x ∈ L ↔ 1 ≤ x ∧ x < p := by
    intro x
    simp only [L, List.mem_range'_1]; omega
  have hnd : (L.map fun k => a * k % p).Nodup := by
    unfold List.Nodup
    rw [List.pairwise_map]
    refine List.Pairwise.imp_of_mem (R := (· < ·)) ?_ (List.pairwise_lt_range' (s := 1) (n := p - 1))
    intro i j hi hj hlt e
    have hi := (hmem i).1 hi
    have hj := (hmem j).1 hj
    have hd : p ∣ a * j - a * i := dvd_of_mods e
    rw [← Nat.mul_sub] at hd
    rcases hp.dvd_mul hd with h | h
    · exact ha h
    · have := Nat.le_of_dvd (by omega) h; omega
  have hsub : ∀ x ∈ L.map (fun k => a * k % p), x ∈ L := by
    intro x hx
    obtain ⟨k, hk, rfl⟩ := List.mem_map.1 hx
    have hk := (hmem k).1 hk
    refine (hmem _).2 ⟨?_, Nat.mod_lt _ (by omega)⟩
    have : a * k % p ≠ 0 := by
      intro e
      rcases hp.dvd_mul (Nat.dvd_of_mod_eq_zero e) with h | h
      · exact ha h
      · have := Nat.le_of_dvd (by omega) h; omega
    omega
  have hperm := perm_of_subset hnd hsub (by simp)
  have e := prod_map_mod a p L
  rw [prodL_perm hperm] at e
  have hl : L.length = p - 1 := by simp [L]
  rw [hl] at e
  have hP : ¬ p ∣ prodL L := not_dvd_prod hp fun x hx h => by
    have hx := (hmem x).1 hx
    have := Nat.le_of_dvd (by omega) h; omega
  have hpos : 0 < a ^ (p - 1) := Nat.pow_pos (by
    rcases Nat.eq_zero_or_pos a with e | e
    · subst e; exact absurd (Nat.dvd_zero p) ha
    · exact e)
  have hd : p ∣ a ^ (p - 1) * prodL L - prodL L := dvd_of_mods e
  rw [show a ^ (p - 1) * prodL L - prodL L = (a ^ (p - 1) - 1) * prodL L by rw [Nat.sub_mul, Nat.one_mul]] at hd
  rcases hp.dvd_mul hd with h | h
  · have := mods_of_dvd (n := p) (show 1 ≤ a ^ (p - 1) from hpos) h
    have e1 : 1 % p = 1 := Nat.mod_eq_of_lt (by omega)
    rw [← this, e1]
  · exact absurd h hP

/-! ### powers reckoned -/

def pm (n : Nat) : Nat → Nat → Nat → Nat
  | 0, _, _ => 1 % n
  | f + 1, b, e => cond (Nat.beq e 0) (1 % n) (cond (Nat.beq (e % 2) 0) (pm n f (b * b % n) (e / 2)) (b * pm n f (b * b % n) (e / 2) % n))

theorem pow_mod_two (b e n : Nat) : (b * b % n) ^ (e / 2) % n = b ^ (2 * (e / 2)) % n := by
  rw [← Nat.pow_mod, Nat.pow_mul, Nat.pow_two]

theorem pm_eq (n : Nat) : ∀ (f b e : Nat), e < 2 ^ f → pm n f b e = b ^ e % n
  | 0, b, e, h => by
    have : e = 0 := by simpa using h
    subst this; rfl
  | f + 1, b, e, h => by
    have hlt : e / 2 < 2 ^ f := by rw [Nat.pow_succ] at h; omega
    rw [pm, pm_eq n f _ _ hlt, pow_mod_two]
    by_cases h0 : e = 0
    · subst h0; rfl
    · have b0 : Nat.beq e 0 = false := by cases e; exact absurd rfl h0; rfl
      rw [b0, cond_false]
      by_cases h2 : e % 2 = 0
      · rw [h2, show Nat.beq 0 0 = true from rfl, cond_true, show 2 * (e / 2) = e by omega]
      · have h1 : e % 2 = 1 := by omega
        rw [h1, show Nat.beq 1 0 = false from rfl, cond_false]
        rw [Nat.mul_mod, Nat.mod_mod, ← Nat.mul_mod]
        congr 1
        rw [← Nat.pow_succ', show (2 * (e / 2)).succ = e by omega]

/-! ### orders -/

theorem pow_gcd {x r : Nat} (hr : 2 ≤ r) : ∀ (a b : Nat), x ^ a % r = 1 → x ^ b % r = 1 → x ^ (Nat.gcd a b) % r = 1 := by
  intro a b
  induction a, b using Nat.gcd.induction with
  | H0 b => intro _ h; rw [Nat.gcd_zero_left]; exact h
  | H1 a b ha ih =>
    intro h1 h2
    rw [Nat.gcd_rec]
    refine ih ?_ h1
    have e : x ^ b = (x ^ a) ^ (b / a) * x ^ (b % a) := by rw [← Nat.pow_mul, ← Nat.pow_add, Nat.div_add_mod]
    rw [e, Nat.mul_mod, Nat.pow_mod, h1, Nat.one_pow, Nat.mod_eq_of_lt (show 1 < r by omega), Nat.one_mul, Nat.mod_mod] at h2
    exact h2

theorem pock {n q a : Nat} (hn : 2 ≤ n) (hq : Prm q) (hd : q ∣ n - 1) (h1 : a ^ (n - 1) % n = 1) (h2 : Nat.gcd (a ^ ((n - 1) / q) % n + (n - 1)) n = 1) {r : Nat} (hr : Prm r) (hrn : r ∣ n) : q ∣ r - 1 := by
  have hr2 := hr.1
  generalize hy : a ^ ((n - 1) / q) = y at h2
  have hyq : y ^ q % n = 1 := by rw [← hy, ← Nat.pow_mul, Nat.div_mul_cancel hd]; exact h1
  have hyr : y ^ q % r = 1 := by
    have := Nat.mod_mod_of_dvd (y ^ q) hrn
    rw [hyq] at this
    rw [← this]; exact Nat.mod_eq_of_lt (by omega)
  have hy1 : y % r ≠ 1 := by
    intro e
    have h3 : y % n % r = 1 := by rw [Nat.mod_mod_of_dvd _ hrn]; exact e
    obtain ⟨k, hk⟩ := hrn
    have hkpos : 0 < k := by
      rcases Nat.eq_zero_or_pos k with e | e
      · subst e; omega
      · exact e
    have h4 : r ∣ y % n + (n - 1) := by
      have h5 : (y % n + (n - 1)) % r = 0 := by
        have e1 : y % n + (n - 1) = (y % n - 1) + n := by
          have : 1 ≤ y % n := by
            rcases Nat.eq_zero_or_pos (y % n) with e | e
            · rw [e] at h3; simp at h3
            · exact e
          omega
        have e2 : (y % n - 1) % r = 0 := by
          have := Nat.div_add_mod (y % n) r
          rw [h3] at this
          rw [← this, Nat.add_sub_cancel, Nat.mul_mod_right]
        rw [e1, Nat.add_mod, e2, hk, Nat.mul_mod_right]; rfl
      exact Nat.dvd_of_mod_eq_zero h5
    have h6 : r ∣ 1 := h2 ▸ Nat.dvd_gcd h4 ⟨k, hk⟩
    have := Nat.le_of_dvd (by decide) h6
    omega
  have hny : ¬ r ∣ y := by
    intro h
    have : y ^ q % r = 0 := by
      have h3 : r ∣ y ^ q := Nat.dvd_trans h (by
        have := hq.1
        obtain ⟨m, rfl⟩ : ∃ m, q = m + 1 := ⟨q - 1, by omega⟩
        rw [Nat.pow_succ]; exact Nat.dvd_mul_left y (y ^ m))
      exact Nat.mod_eq_zero_of_dvd h3
    rw [this] at hyr; cases hyr
  by_cases hc : q ∣ r - 1
  · exact hc
  · have hg : Nat.gcd q (r - 1) = 1 := hq.coprime hc
    have := pow_gcd hr2 q (r - 1) hyr (fermat hr hny)
    rw [hg, Nat.pow_one] at this
    exact absurd this hy1

theorem prm_of_factors {n : Nat} (hn : 2 ≤ n) (h : ∀ r, Prm r → r ∣ n → n < r * r) : Prm n := by
  refine ⟨hn, fun d hd => ?_⟩
  by_cases h1 : d = 1
  · exact .inl h1
  · by_cases h2 : d = n
    · exact .inr h2
    · exfalso
      obtain ⟨e, he⟩ := hd
      have hd0 : 2 ≤ d := by
        rcases Nat.eq_zero_or_pos d with h | h
        · subst h; omega
        · omega
      have he0 : 2 ≤ e := by
        rcases Nat.lt_or_ge e 2 with h | h
        · have : e = 0 ∨ e = 1 := by omega
          rcases this with rfl | rfl
          · omega
          · omega
        · exact h
      rcases Nat.le_total d e with hle | hle
      · obtain ⟨r, hr, hrd⟩ := exists_prm d hd0
        have := h r hr (Nat.dvd_trans hrd ⟨e, he⟩)
        have hrle := Nat.le_of_dvd (by omega) hrd
        have h3 : r * r ≤ d * e := Nat.mul_le_mul hrle (Nat.le_trans hrle hle)
        omega
      · obtain ⟨r, hr, hrd⟩ := exists_prm e he0
        have := h r hr (Nat.dvd_trans hrd ⟨d, by rw [he, Nat.mul_comm]⟩)
        have hrle := Nat.le_of_dvd (by omega) hrd
        have h3 : r * r ≤ d * e := Nat.mul_le_mul (Nat.le_trans hrle hle) hrle
        omega

theorem prm_pock2 {n p q a b : Nat} (hn : 2 ≤ n) (hp : Prm p) (hq : Prm q) (hne : p ≠ q) (dp : p ∣ n - 1) (dq : q ∣ n - 1) (a1 : a ^ (n - 1) % n = 1) (a2 : Nat.gcd (a ^ ((n - 1) / p) % n + (n - 1)) n = 1)
    (b1 : b ^ (n - 1) % n = 1) (b2 : Nat.gcd (b ^ ((n - 1) / q) % n + (n - 1)) n = 1) (hs : n ≤ (p * q) * (p * q)) : Prm n := by
  refine prm_of_factors hn fun r hr hrn => ?_
  have h1 := pock hn hp dp a1 a2 hr hrn
  have h2 := pock hn hq dq b1 b2 hr hrn
  have hc : Nat.Coprime p q := hp.coprime fun h => by
    rcases hq.2 _ h with e | e
    · have := hp.1; omega
    · exact hne e
  have hd : p * q ∣ r - 1 := hc.mul_dvd_of_dvd_of_dvd h1 h2
  have hle := Nat.le_of_dvd (by have := hr.1; omega) hd
  have hr2 := hr.1
  have h3 : (p * q + 1) * (p * q + 1) ≤ r * r := Nat.mul_le_mul (by omega) (by omega)
  have h4 : (p * q) * (p * q) < (p * q + 1) * (p * q + 1) := Nat.mul_self_lt_mul_self (Nat.lt_succ_self _)
  omega

/-- the same, the powers reckoned -/
theorem prm_by {n p q f : Nat} (a b : Nat) (hn : 2 ≤ n) (hp : Prm p) (hq : Prm q) (hne : p ≠ q) (dp : (n - 1) % p = 0) (dq : (n - 1) % q = 0) (hf : n < 2 ^ f) (a1 : pm n f a (n - 1) = 1) (a2 : Nat.gcd (pm n f a ((n - 1) / p) + (n - 1)) n = 1)
    (b1 : pm n f b (n - 1) = 1) (b2 : Nat.gcd (pm n f b ((n - 1) / q) + (n - 1)) n = 1) (hs : n ≤ (p * q) * (p * q)) : Prm n := by
  have h1 : n - 1 < 2 ^ f := by omega
  have h2 : ∀ k, (n - 1) / k < 2 ^ f := fun k => Nat.lt_of_le_of_lt (Nat.div_le_self _ _) h1
  rw [pm_eq n f _ _ h1] at a1 b1
  rw [pm_eq n f _ _ (h2 _)] at a2 b2
  exact prm_pock2 hn hp hq hne (Nat.dvd_of_mod_eq_zero dp) (Nat.dvd_of_mod_eq_zero dq) a1 a2 b1 b2 hs

/-! ### by trial -/

def noDiv (n : Nat) : Nat → Bool
  | 0 => true
  | k + 1 => cond (Nat.beq (n % (k + 2)) 0) false (noDiv n k)

theorem noDiv_spec {n : Nat} : ∀ {k : Nat}, noDiv n k = true → ∀ d, 2 ≤ d → d ≤ k + 1 → ¬ d ∣ n
  | 0, _, d, h1, h2 => by omega
  | k + 1, h, d, h1, h2 => by
    rw [noDiv] at h
    cases hb : Nat.beq (n % (k + 2)) 0 with
    | true => rw [hb] at h; cases h
    | false =>
      rw [hb] at h
      rcases Nat.lt_or_ge d (k + 2) with hlt | hge
      · exact noDiv_spec h d h1 (by omega)
      · have : d = k + 2 := by omega
        subst this
        intro hd
        rw [Nat.mod_eq_zero_of_dvd hd] at hb
        cases hb

theorem prm_trial {n k : Nat} (hn : 2 ≤ n) (h : noDiv n k = true) (hs : n < (k + 2) * (k + 2)) : Prm n := by
  refine prm_of_factors hn fun r hr hrn => ?_
  rcases Nat.lt_or_ge r (k + 2) with hlt | hge
  · exact absurd hrn (noDiv_spec h r hr.1 (by omega))
  · exact Nat.lt_of_lt_of_le hs (Nat.mul_le_mul hge hge)

end Go.Eng

/- 2^255 - 19 is prime. -/
namespace Go.Eng

def p25519 : Nat := 57896044618658097711785492504343953926634992332820282019728792003956564819949

theorem prm_2 : Prm 2 := prm_trial (k := 0) (by decide) rfl (by decide)
theorem prm_127 : Prm 127 := prm_trial (k := 10) (by decide) (by decide +kernel) (by decide)
theorem prm_75707 : Prm 75707 := prm_trial (k := 274) (by decide) (by decide +kernel) (by decide)
theorem prm_1923133 : Prm 1923133 := prm_trial (k := 1386) (by decide) (by decide +kernel) (by decide)
theorem prm_8574133 : Prm 8574133 := prm_trial (k := 2928) (by decide) (by decide +kernel) (by decide)

theorem prm_n3 : Prm 1919519569386763 :=
  prm_by (p := 8574133) (q := 127) (f := 60) 2 2 (by decide) prm_8574133 prm_127 (by decide) (by decide +kernel) (by decide +kernel) (by decide +kernel) (by decide +kernel) (by decide +kernel) (by decide +kernel) (by decide +kernel) (by decide +kernel)
theorem prm_q2 : Prm 75445702479781427272750846543864801 :=
  prm_by (p := 1919519569386763) (q := 75707) (f := 120) 2 2 (by decide) prm_n3 prm_75707 (by decide) (by decide +kernel) (by decide +kernel) (by decide +kernel) (by decide +kernel) (by decide +kernel) (by decide +kernel) (by decide +kernel) (by decide +kernel)
theorem prm_q1 : Prm 74058212732561358302231226437062788676166966415465897661863160754340907 :=
  prm_by (p := 75445702479781427272750846543864801) (q := 1923133) (f := 240) 2 2 (by decide) prm_q2 prm_1923133 (by decide) (by decide +kernel) (by decide +kernel) (by decide +kernel) (by decide +kernel) (by decide +kernel) (by decide +kernel) (by decide +kernel) (by decide +kernel)
theorem prm_p : Prm p25519 :=
  prm_by (p := 74058212732561358302231226437062788676166966415465897661863160754340907) (q := 2) (f := 255) 2 2 (by decide) prm_q1 prm_2 (by decide) (by decide +kernel) (by decide +kernel) (by decide +kernel) (by decide +kernel) (by decide +kernel) (by decide +kernel) (by decide +kernel) (by decide +kernel)
end Go.Eng

/- Elements in limbs of 51 bits, as natural numbers. -/
namespace Go.Proofs.Ytcgolglcjfknpaa
open Go Go.Eng
set_option maxRecDepth 100000

/-- the number of five limbs -/
def val5 (a0 a1 a2 a3 a4 : Nat) : Nat := a0 + 2251799813685248 * (a1 + 2251799813685248 * (a2 + 2251799813685248 * (a3 + 2251799813685248 * a4)))
theorem val5_eq (a0 a1 a2 a3 a4 : Nat) : valB 2251799813685248 [a0, a1, a2, a3, a4] = val5 a0 a1 a2 a3 a4 := by simp [valB, val5]

theorem shr51 (n : Nat) : shrI .u64 (n : Int) 51 = ((n / 2251799813685248 : Nat) : Int) := shrN (k := .u64) (m := 51) (by decide) n
theorem and51 {n : Nat} (h : n < 18446744073709551616) : andI .u64 (n : Int) 2251799813685247 = ((n % 2251799813685248 : Nat) : Int) := maskN (k := .u64) (j := 51) rfl h (by decide)

/-! ### carrying -/

def carI (a0 a1 a2 a3 a4 : Int) : List Int :=
  let s0 := IntKind.u64.wrap (a0 + 0)
  let s1 := IntKind.u64.wrap (a1 + shrI .u64 s0 51)
  let s2 := IntKind.u64.wrap (a2 + shrI .u64 s1 51)
  let s3 := IntKind.u64.wrap (a3 + shrI .u64 s2 51)
  let s4 := IntKind.u64.wrap (a4 + shrI .u64 s3 51)
  [IntKind.u64.wrap (andI .u64 s0 2251799813685247 + IntKind.u64.wrap (19 * shrI .u64 s4 51)), andI .u64 s1 2251799813685247, andI .u64 s2 2251799813685247, andI .u64 s3 2251799813685247, andI .u64 s4 2251799813685247]

theorem carried_eq (a0 a1 a2 a3 a4 : Int) : carriedL [a0, a1, a2, a3, a4] = carI a0 a1 a2 a3 a4 := by kernel_rfl

/-- once carried: nearly small; as many times p less -/
theorem car_nat {a0 a1 a2 a3 a4 : Nat} (h0 : a0 < 18446744073709551616) (h1 : a1 < 18446744073709543424) (h2 : a2 < 18446744073709543424) (h3 : a3 < 18446744073709543424) (h4 : a4 < 18446744073709543424) :
    ∃ u0 u1 u2 u3 u4 c s : Nat, carriedL (nats [a0, a1, a2, a3, a4]) = nats [u0 + 19 * c, u1, u2, u3, u4] ∧ u0 < 2251799813685248 ∧ u1 < 2251799813685248 ∧ u2 < 2251799813685248 ∧ u3 < 2251799813685248 ∧ u4 < 2251799813685248 ∧
      a4 + s = u4 + 2251799813685248 * c ∧ s < 8193 ∧ val5 (u0 + 19 * c) u1 u2 u3 u4 + c * p25519 = val5 a0 a1 a2 a3 a4 := by
  have ee : carriedL (nats [a0, a1, a2, a3, a4]) = carI a0 a1 a2 a3 a4 := carried_eq _ _ _ _ _
  rw [ee]
  unfold carI
  have e0 : IntKind.u64.wrap ((a0 : Int) + 0) = (a0 : Int) := by rw [Int.add_zero]; exact w64 (by omega)
  dsimp only
  simp only [e0, shr51]
  have d0 := Nat.div_add_mod a0 2251799813685248
  have m0 := Nat.mod_lt a0 (show 2251799813685248 > 0 by decide)
  have q0 : a0 / 2251799813685248 < 8193 := by omega
  rw [and51 h0]
  generalize a0 / 2251799813685248 = c0 at *
  generalize a0 % 2251799813685248 = u0 at *
  rw [show IntKind.u64.wrap ((a1 : Int) + (c0 : Int)) = ((a1 + c0 : Nat) : Int) from w64 (n := a1 + c0) (by omega), shr51, and51 (by omega)]
  have d1 := Nat.div_add_mod (a1 + c0) 2251799813685248
  have m1 := Nat.mod_lt (a1 + c0) (show 2251799813685248 > 0 by decide)
  have q1 : (a1 + c0) / 2251799813685248 < 8193 := by omega
  generalize (a1 + c0) / 2251799813685248 = c1 at *
  generalize (a1 + c0) % 2251799813685248 = u1 at *
  rw [show IntKind.u64.wrap ((a2 : Int) + (c1 : Int)) = ((a2 + c1 : Nat) : Int) from w64 (n := a2 + c1) (by omega), shr51, and51 (by omega)]
  have d2 := Nat.div_add_mod (a2 + c1) 2251799813685248
  have m2 := Nat.mod_lt (a2 + c1) (show 2251799813685248 > 0 by decide)
  have q2 : (a2 + c1) / 2251799813685248 < 8193 := by omega
  generalize (a2 + c1) / 2251799813685248 = c2 at *
  generalize (a2 + c1) % 2251799813685248 = u2 at *
  rw [show IntKind.u64.wrap ((a3 : Int) + (c2 : Int)) = ((a3 + c2 : Nat) : Int) from w64 (n := a3 + c2) (by omega), shr51, and51 (by omega)]
  have d3 := Nat.div_add_mod (a3 + c2) 2251799813685248
  have m3 := Nat.mod_lt (a3 + c2) (show 2251799813685248 > 0 by decide)
  have q3 : (a3 + c2) / 2251799813685248 < 8193 := by omega
  generalize (a3 + c2) / 2251799813685248 = c3 at *
  generalize (a3 + c2) % 2251799813685248 = u3 at *
  rw [show IntKind.u64.wrap ((a4 : Int) + (c3 : Int)) = ((a4 + c3 : Nat) : Int) from w64 (n := a4 + c3) (by omega), shr51, and51 (by omega)]
  have d4 := Nat.div_add_mod (a4 + c3) 2251799813685248
  have m4 := Nat.mod_lt (a4 + c3) (show 2251799813685248 > 0 by decide)
  have q4 : (a4 + c3) / 2251799813685248 < 8193 := by omega
  generalize (a4 + c3) / 2251799813685248 = c4 at *
  generalize (a4 + c3) % 2251799813685248 = u4 at *
  rw [show IntKind.u64.wrap (19 * (c4 : Int)) = ((19 * c4 : Nat) : Int) from w64 (n := 19 * c4) (by omega)]
  rw [show IntKind.u64.wrap ((u0 : Int) + ((19 * c4 : Nat) : Int)) = ((u0 + 19 * c4 : Nat) : Int) from w64 (n := u0 + 19 * c4) (by omega)]
  refine ⟨u0, u1, u2, u3, u4, c4, c3, rfl, m0, m1, m2, m3, m4, by omega, q3, ?_⟩
  unfold val5 p25519
  omega

/-- reduced enough to go on -/
def Red (a0 a1 a2 a3 a4 : Nat) : Prop := a0 < 2251799813686248 ∧ a1 < 2251799813685248 ∧ a2 < 2251799813685248 ∧ a3 < 2251799813685248 ∧ a4 < 2251799813685248

theorem mod_of {a b q p : Nat} (h : a + q * p = b) : a % p = b % p := by rw [← h, Nat.add_mul_mod_self_right]

/-- limbs a few bits too wide, carried -/
theorem car_red {a0 a1 a2 a3 a4 : Nat} (h0 : a0 < 18446744073709551616) (h1 : a1 < 90071992547409920) (h2 : a2 < 90071992547409920) (h3 : a3 < 90071992547409920) (h4 : a4 < 90071992547409920) :
    ∃ u0 u1 u2 u3 u4 : Nat, carriedL (nats [a0, a1, a2, a3, a4]) = nats [u0, u1, u2, u3, u4] ∧ Red u0 u1 u2 u3 u4 ∧ val5 u0 u1 u2 u3 u4 % p25519 = val5 a0 a1 a2 a3 a4 % p25519 := by
  obtain ⟨u0, u1, u2, u3, u4, c, s, e, g0, g1, g2, g3, g4, hc, hs, hv⟩ := car_nat (a0 := a0) (a1 := a1) (a2 := a2) (a3 := a3) (a4 := a4) h0 (by omega) (by omega) (by omega) (by omega)
  exact ⟨_, u1, u2, u3, u4, e, ⟨by omega, g1, g2, g3, g4⟩, mod_of hv⟩

/-! ### the product -/

/-- limbs that may be multiplied -/
def Lim (a0 a1 a2 a3 a4 : Nat) : Prop := a0 ≤ 9007199254740992 ∧ a1 ≤ 9007199254740992 ∧ a2 ≤ 9007199254740992 ∧ a3 ≤ 9007199254740992 ∧ a4 ≤ 9007199254740992
theorem Red.lim {a0 a1 a2 a3 a4 : Nat} (h : Red a0 a1 a2 a3 a4) : Lim a0 a1 a2 a3 a4 := by
  obtain ⟨h0, h1, h2, h3, h4⟩ := h
  exact ⟨by omega, by omega, by omega, by omega, by omega⟩

def wN (W : Nat) : Int × Int := (((W / 18446744073709551616 : Nat) : Int), ((W % 18446744073709551616 : Nat) : Int))
theorem wAdd_nat {W x y : Nat} (hx : x < 18446744073709551616) (hy : y < 18446744073709551616) (h : W + x * y < 340282366920938463463374607431768211456) : wAdd (wN W) (x : Int) (y : Int) = wN (W + x * y) := by
  obtain ⟨h1, h2⟩ := wide_nat hx hy h
  unfold wAdd wN
  rw [h1, h2]
theorem m19_nat {x : Nat} (h : x ≤ 9007199254740992) : m19 (x : Int) = ((19 * x : Nat) : Int) := w64 (n := 19 * x) (by omega)

theorem outStep_nat {W c : Nat} (h : W + c < 20769187434139310514121985316880384) (hc : c < 18446744073709551616) : outStep (wN W) (c : Int) = ((((W + c) % 2251799813685248 : Nat) : Int), (((W + c) / 2251799813685248 : Nat) : Int)) := by
  unfold outStep wN
  dsimp only
  rw [show (0 : Int) = ((0 : Nat) : Int) from rfl, addLo_nat, addHi_nat]
  rw [show W % 18446744073709551616 + c + 0 = W % 18446744073709551616 + c from rfl]
  have e1 : (W % 18446744073709551616 + c) % 18446744073709551616 = (W + c) % 18446744073709551616 := by omega
  have e2 : W / 18446744073709551616 + (W % 18446744073709551616 + c) / 18446744073709551616 = (W + c) / 18446744073709551616 := by omega
  rw [show IntKind.u64.wrap (((W / 18446744073709551616 : Nat) : Int) + (((W % 18446744073709551616 + c) / 18446744073709551616 : Nat) : Int)) = (((W + c) / 18446744073709551616 : Nat) : Int) by
    rw [← e2]; exact w64 (n := W / 18446744073709551616 + (W % 18446744073709551616 + c) / 18446744073709551616) (by omega)]
  rw [e1]
  generalize W + c = T at *
  rw [and51 (Nat.mod_lt _ (by decide)), shr51]
  rw [show shlI .u64 ((T / 18446744073709551616 : Nat) : Int) 13 = ((T / 18446744073709551616 * 8192 % 18446744073709551616 : Nat) : Int) from shlN (k := .u64) rfl (m := 13) (by decide) _]
  rw [Nat.mod_eq_of_lt (show T / 18446744073709551616 * 8192 < 18446744073709551616 by omega)]
  rw [orN (k := .u64) rfl (show T / 18446744073709551616 * 8192 < 18446744073709551616 by omega) (show T % 18446744073709551616 / 2251799813685248 < 18446744073709551616 by omega)]
  rw [show (T / 18446744073709551616 * 8192) ||| (T % 18446744073709551616 / 2251799813685248) = T / 18446744073709551616 * 8192 + T % 18446744073709551616 / 2251799813685248 from or_addN (j := 13) (show T % 18446744073709551616 / 2251799813685248 < 8192 by omega)]
  rw [show T % 18446744073709551616 % 2251799813685248 = T % 2251799813685248 by omega, show T / 18446744073709551616 * 8192 + T % 18446744073709551616 / 2251799813685248 = T / 2251799813685248 by omega]

theorem prod_le {x y : Nat} (hx : x ≤ 9007199254740992) (hy : y ≤ 9007199254740992) : x * y ≤ 81129638414606681695789005144064 := by
  have : x * y ≤ 9007199254740992 * 9007199254740992 := Nat.mul_le_mul hx hy
  omega
def tm0 (a0 a1 a2 a3 a4 b0 b1 b2 b3 b4 : Nat) : Nat := a0 * b0 + 19 * (a1 * b4) + 19 * (a2 * b3) + 19 * (a3 * b2) + 19 * (a4 * b1)
def tm1 (a0 a1 a2 a3 a4 b0 b1 b2 b3 b4 : Nat) : Nat := a0 * b1 + a1 * b0 + 19 * (a2 * b4) + 19 * (a3 * b3) + 19 * (a4 * b2)
def tm2 (a0 a1 a2 a3 a4 b0 b1 b2 b3 b4 : Nat) : Nat := a0 * b2 + a1 * b1 + a2 * b0 + 19 * (a3 * b4) + 19 * (a4 * b3)
def tm3 (a0 a1 a2 a3 a4 b0 b1 b2 b3 b4 : Nat) : Nat := a0 * b3 + a1 * b2 + a2 * b1 + a3 * b0 + 19 * (a4 * b4)
def tm4 (a0 a1 a2 a3 a4 b0 b1 b2 b3 b4 : Nat) : Nat := a0 * b4 + a1 * b3 + a2 * b2 + a3 * b1 + a4 * b0
theorem w0_nat {a0 a1 a2 a3 a4 b0 b1 b2 b3 b4 : Nat} (ha : Lim a0 a1 a2 a3 a4) (hb : Lim b0 b1 b2 b3 b4) : (wAdd (wAdd (wAdd (wAdd (wAdd (0, 0) (a0 : Int) (b0 : Int)) (m19 (a1 : Int)) (b4 : Int)) (m19 (a2 : Int)) (b3 : Int)) (m19 (a3 : Int)) (b2 : Int)) (m19 (a4 : Int)) (b1 : Int)) = wN (tm0 a0 a1 a2 a3 a4 b0 b1 b2 b3 b4) ∧ tm0 a0 a1 a2 a3 a4 b0 b1 b2 b3 b4 < 10384593717069655257060992658440192 := by
  obtain ⟨h0, h1, h2, h3, h4⟩ := ha
  obtain ⟨k0, k1, k2, k3, k4⟩ := hb
  have p00 := prod_le h0 k0
  have p14 := prod_le h1 k4
  have p23 := prod_le h2 k3
  have p32 := prod_le h3 k2
  have p41 := prod_le h4 k1
  rw [m19_nat h1, m19_nat h2, m19_nat h3, m19_nat h4]
  rw [show ((0 : Int), (0 : Int)) = wN 0 from rfl]
  rw [wAdd_nat (W := 0) (x := a0) (y := b0) (by omega) (by omega) (by omega)]
  rw [wAdd_nat (W := 0 + a0 * b0) (x := 19 * a1) (y := b4) (by omega) (by omega) (by rw [Nat.mul_assoc]; omega), Nat.mul_assoc 19]
  rw [wAdd_nat (W := 0 + a0 * b0 + 19 * (a1 * b4)) (x := 19 * a2) (y := b3) (by omega) (by omega) (by rw [Nat.mul_assoc]; omega), Nat.mul_assoc 19]
  rw [wAdd_nat (W := 0 + a0 * b0 + 19 * (a1 * b4) + 19 * (a2 * b3)) (x := 19 * a3) (y := b2) (by omega) (by omega) (by rw [Nat.mul_assoc]; omega), Nat.mul_assoc 19]
  rw [wAdd_nat (W := 0 + a0 * b0 + 19 * (a1 * b4) + 19 * (a2 * b3) + 19 * (a3 * b2)) (x := 19 * a4) (y := b1) (by omega) (by omega) (by rw [Nat.mul_assoc]; omega), Nat.mul_assoc 19]
  unfold tm0
  refine ⟨congrArg wN ?_, ?_⟩ <;> omega
theorem w1_nat {a0 a1 a2 a3 a4 b0 b1 b2 b3 b4 : Nat} (ha : Lim a0 a1 a2 a3 a4) (hb : Lim b0 b1 b2 b3 b4) : (wAdd (wAdd (wAdd (wAdd (wAdd (0, 0) (a0 : Int) (b1 : Int)) (a1 : Int) (b0 : Int)) (m19 (a2 : Int)) (b4 : Int)) (m19 (a3 : Int)) (b3 : Int)) (m19 (a4 : Int)) (b2 : Int)) = wN (tm1 a0 a1 a2 a3 a4 b0 b1 b2 b3 b4) ∧ tm1 a0 a1 a2 a3 a4 b0 b1 b2 b3 b4 < 10384593717069655257060992658440192 := by
  obtain ⟨h0, h1, h2, h3, h4⟩ := ha
  obtain ⟨k0, k1, k2, k3, k4⟩ := hb
  have p01 := prod_le h0 k1
  have p10 := prod_le h1 k0
  have p24 := prod_le h2 k4
  have p33 := prod_le h3 k3
  have p42 := prod_le h4 k2
  rw [m19_nat h2, m19_nat h3, m19_nat h4]
  rw [show ((0 : Int), (0 : Int)) = wN 0 from rfl]
  rw [wAdd_nat (W := 0) (x := a0) (y := b1) (by omega) (by omega) (by omega)]
  rw [wAdd_nat (W := 0 + a0 * b1) (x := a1) (y := b0) (by omega) (by omega) (by omega)]
  rw [wAdd_nat (W := 0 + a0 * b1 + a1 * b0) (x := 19 * a2) (y := b4) (by omega) (by omega) (by rw [Nat.mul_assoc]; omega), Nat.mul_assoc 19]
  rw [wAdd_nat (W := 0 + a0 * b1 + a1 * b0 + 19 * (a2 * b4)) (x := 19 * a3) (y := b3) (by omega) (by omega) (by rw [Nat.mul_assoc]; omega), Nat.mul_assoc 19]
  rw [wAdd_nat (W := 0 + a0 * b1 + a1 * b0 + 19 * (a2 * b4) + 19 * (a3 * b3)) (x := 19 * a4) (y := b2) (by omega) (by omega) (by rw [Nat.mul_assoc]; omega), Nat.mul_assoc 19]
  unfold tm1
  refine ⟨congrArg wN ?_, ?_⟩ <;> omega
theorem w2_nat {a0 a1 a2 a3 a4 b0 b1 b2 b3 b4 : Nat} (ha : Lim a0 a1 a2 a3 a4) (hb : Lim b0 b1 b2 b3 b4) : (wAdd (wAdd (wAdd (wAdd (wAdd (0, 0) (a0 : Int) (b2 : Int)) (a1 : Int) (b1 : Int)) (a2 : Int) (b0 : Int)) (m19 (a3 : Int)) (b4 : Int)) (m19 (a4 : Int)) (b3 : Int)) = wN (tm2 a0 a1 a2 a3 a4 b0 b1 b2 b3 b4) ∧ tm2 a0 a1 a2 a3 a4 b0 b1 b2 b3 b4 < 10384593717069655257060992658440192 := by
  obtain ⟨h0, h1, h2, h3, h4⟩ := ha
  obtain ⟨k0, k1, k2, k3, k4⟩ := hb
  have p02 := prod_le h0 k2
  have p11 := prod_le h1 k1
  have p20 := prod_le h2 k0
  have p34 := prod_le h3 k4
  have p43 := prod_le h4 k3
  rw [m19_nat h3, m19_nat h4]
  rw [show ((0 : Int), (0 : Int)) = wN 0 from rfl]
  rw [wAdd_nat (W := 0) (x := a0) (y := b2) (by omega) (by omega) (by omega)]
  rw [wAdd_nat (W := 0 + a0 * b2) (x := a1) (y := b1) (by omega) (by omega) (by omega)]
  rw [wAdd_nat (W := 0 + a0 * b2 + a1 * b1) (x := a2) (y := b0) (by omega) (by omega) (by omega)]
  rw [wAdd_nat (W := 0 + a0 * b2 + a1 * b1 + a2 * b0) (x := 19 * a3) (y := b4) (by omega) (by omega) (by rw [Nat.mul_assoc]; omega), Nat.mul_assoc 19]
  rw [wAdd_nat (W := 0 + a0 * b2 + a1 * b1 + a2 * b0 + 19 * (a3 * b4)) (x := 19 * a4) (y := b3) (by omega) (by omega) (by rw [Nat.mul_assoc]; omega), Nat.mul_assoc 19]
  unfold tm2
  refine ⟨congrArg wN ?_, ?_⟩ <;> omega
theorem w3_nat {a0 a1 a2 a3 a4 b0 b1 b2 b3 b4 : Nat} (ha : Lim a0 a1 a2 a3 a4) (hb : Lim b0 b1 b2 b3 b4) : (wAdd (wAdd (wAdd (wAdd (wAdd (0, 0) (a0 : Int) (b3 : Int)) (a1 : Int) (b2 : Int)) (a2 : Int) (b1 : Int)) (a3 : Int) (b0 : Int)) (m19 (a4 : Int)) (b4 : Int)) = wN (tm3 a0 a1 a2 a3 a4 b0 b1 b2 b3 b4) ∧ tm3 a0 a1 a2 a3 a4 b0 b1 b2 b3 b4 < 10384593717069655257060992658440192 := by
  obtain ⟨h0, h1, h2, h3, h4⟩ := ha
  obtain ⟨k0, k1, k2, k3, k4⟩ := hb
  have p03 := prod_le h0 k3
  have p12 := prod_le h1 k2
  have p21 := prod_le h2 k1
  have p30 := prod_le h3 k0
  have p44 := prod_le h4 k4
  rw [m19_nat h4]
  rw [show ((0 : Int), (0 : Int)) = wN 0 from rfl]
  rw [wAdd_nat (W := 0) (x := a0) (y := b3) (by omega) (by omega) (by omega)]
  rw [wAdd_nat (W := 0 + a0 * b3) (x := a1) (y := b2) (by omega) (by omega) (by omega)]
  rw [wAdd_nat (W := 0 + a0 * b3 + a1 * b2) (x := a2) (y := b1) (by omega) (by omega) (by omega)]
  rw [wAdd_nat (W := 0 + a0 * b3 + a1 * b2 + a2 * b1) (x := a3) (y := b0) (by omega) (by omega) (by omega)]
  rw [wAdd_nat (W := 0 + a0 * b3 + a1 * b2 + a2 * b1 + a3 * b0) (x := 19 * a4) (y := b4) (by omega) (by omega) (by rw [Nat.mul_assoc]; omega), Nat.mul_assoc 19]
  unfold tm3
  refine ⟨congrArg wN ?_, ?_⟩ <;> omega
theorem w4_nat {a0 a1 a2 a3 a4 b0 b1 b2 b3 b4 : Nat} (ha : Lim a0 a1 a2 a3 a4) (hb : Lim b0 b1 b2 b3 b4) : (wAdd (wAdd (wAdd (wAdd (wAdd (0, 0) (a0 : Int) (b4 : Int)) (a1 : Int) (b3 : Int)) (a2 : Int) (b2 : Int)) (a3 : Int) (b1 : Int)) (a4 : Int) (b0 : Int)) = wN (tm4 a0 a1 a2 a3 a4 b0 b1 b2 b3 b4) ∧ tm4 a0 a1 a2 a3 a4 b0 b1 b2 b3 b4 < 10384593717069655257060992658440192 := by
  obtain ⟨h0, h1, h2, h3, h4⟩ := ha
  obtain ⟨k0, k1, k2, k3, k4⟩ := hb
  have p04 := prod_le h0 k4
  have p13 := prod_le h1 k3
  have p22 := prod_le h2 k2
  have p31 := prod_le h3 k1
  have p40 := prod_le h4 k0
  rw [show ((0 : Int), (0 : Int)) = wN 0 from rfl]
  rw [wAdd_nat (W := 0) (x := a0) (y := b4) (by omega) (by omega) (by omega)]
  rw [wAdd_nat (W := 0 + a0 * b4) (x := a1) (y := b3) (by omega) (by omega) (by omega)]
  rw [wAdd_nat (W := 0 + a0 * b4 + a1 * b3) (x := a2) (y := b2) (by omega) (by omega) (by omega)]
  rw [wAdd_nat (W := 0 + a0 * b4 + a1 * b3 + a2 * b2) (x := a3) (y := b1) (by omega) (by omega) (by omega)]
  rw [wAdd_nat (W := 0 + a0 * b4 + a1 * b3 + a2 * b2 + a3 * b1) (x := a4) (y := b0) (by omega) (by omega) (by omega)]
  unfold tm4
  refine ⟨congrArg wN ?_, ?_⟩ <;> omega

theorem mul_val5 (x b0 b1 b2 b3 b4 : Nat) : x * val5 b0 b1 b2 b3 b4 = val5 (x * b0) (x * b1) (x * b2) (x * b3) (x * b4) := by
  unfold val5; simp only [Nat.mul_add, Nat.mul_left_comm x]
theorem val5_mul (a0 a1 a2 a3 a4 y : Nat) : val5 a0 a1 a2 a3 a4 * y = val5 (a0 * y) (a1 * y) (a2 * y) (a3 * y) (a4 * y) := by
  unfold val5; simp only [Nat.add_mul, Nat.mul_assoc]

theorem tm_val (a0 a1 a2 a3 a4 b0 b1 b2 b3 b4 : Nat) : ∃ q, val5 (tm0 a0 a1 a2 a3 a4 b0 b1 b2 b3 b4) (tm1 a0 a1 a2 a3 a4 b0 b1 b2 b3 b4) (tm2 a0 a1 a2 a3 a4 b0 b1 b2 b3 b4) (tm3 a0 a1 a2 a3 a4 b0 b1 b2 b3 b4) (tm4 a0 a1 a2 a3 a4 b0 b1 b2 b3 b4) + q * p25519 = val5 a0 a1 a2 a3 a4 * val5 b0 b1 b2 b3 b4 := by
  refine ⟨val5 (a1 * b4 + a2 * b3 + a3 * b2 + a4 * b1) (a2 * b4 + a3 * b3 + a4 * b2) (a3 * b4 + a4 * b3) (a4 * b4) 0, ?_⟩
  rw [mul_val5, val5_mul a0 a1 a2 a3 a4 b0, val5_mul a0 a1 a2 a3 a4 b1, val5_mul a0 a1 a2 a3 a4 b2, val5_mul a0 a1 a2 a3 a4 b3, val5_mul a0 a1 a2 a3 a4 b4]
  unfold tm0 tm1 tm2 tm3 tm4
  generalize a0 * b0 = P00
  generalize a0 * b1 = P01
  generalize a0 * b2 = P02
  generalize a0 * b3 = P03
  generalize a0 * b4 = P04
  generalize a1 * b0 = P10
  generalize a1 * b1 = P11
  generalize a1 * b2 = P12
  generalize a1 * b3 = P13
  generalize a1 * b4 = P14
  generalize a2 * b0 = P20
  generalize a2 * b1 = P21
  generalize a2 * b2 = P22
  generalize a2 * b3 = P23
  generalize a2 * b4 = P24
  generalize a3 * b0 = P30
  generalize a3 * b1 = P31
  generalize a3 * b2 = P32
  generalize a3 * b3 = P33
  generalize a3 * b4 = P34
  generalize a4 * b0 = P40
  generalize a4 * b1 = P41
  generalize a4 * b2 = P42
  generalize a4 * b3 = P43
  generalize a4 * b4 = P44
  unfold val5 p25519
  omega

theorem times_nat {a0 a1 a2 a3 a4 b0 b1 b2 b3 b4 : Nat} (ha : Lim a0 a1 a2 a3 a4) (hb : Lim b0 b1 b2 b3 b4) : ∃ u0 u1 u2 u3 u4 : Nat, timesL (nats [a0, a1, a2, a3, a4]) (nats [b0, b1, b2, b3, b4]) = nats [u0, u1, u2, u3, u4] ∧ Red u0 u1 u2 u3 u4 ∧ val5 u0 u1 u2 u3 u4 % p25519 = val5 a0 a1 a2 a3 a4 * val5 b0 b1 b2 b3 b4 % p25519 := by
  obtain ⟨e0, g0⟩ := w0_nat ha hb
  obtain ⟨e1, g1⟩ := w1_nat ha hb
  obtain ⟨e2, g2⟩ := w2_nat ha hb
  obtain ⟨e3, g3⟩ := w3_nat ha hb
  obtain ⟨e4, g4⟩ := w4_nat ha hb
  have g4' : tm4 a0 a1 a2 a3 a4 b0 b1 b2 b3 b4 < 405648192073033408478945025720320 + 1 := by
    obtain ⟨h0, h1, h2, h3, h4⟩ := ha
    obtain ⟨k0, k1, k2, k3, k4⟩ := hb
    have p04 := prod_le h0 k4
    have p13 := prod_le h1 k3
    have p22 := prod_le h2 k2
    have p31 := prod_le h3 k1
    have p40 := prod_le h4 k0
    unfold tm4; omega
  have et : timesL (nats [a0, a1, a2, a3, a4]) (nats [b0, b1, b2, b3, b4]) = _ := times_eq (a0 : Int) (a1 : Int) (a2 : Int) (a3 : Int) (a4 : Int) (b0 : Int) (b1 : Int) (b2 : Int) (b3 : Int) (b4 : Int)
  rw [e0, e1, e2, e3, e4] at et
  obtain ⟨q, hv⟩ := tm_val a0 a1 a2 a3 a4 b0 b1 b2 b3 b4
  clear e0 e1 e2 e3 e4 ha hb
  generalize tm0 a0 a1 a2 a3 a4 b0 b1 b2 b3 b4 = T0 at *
  generalize tm1 a0 a1 a2 a3 a4 b0 b1 b2 b3 b4 = T1 at *
  generalize tm2 a0 a1 a2 a3 a4 b0 b1 b2 b3 b4 = T2 at *
  generalize tm3 a0 a1 a2 a3 a4 b0 b1 b2 b3 b4 = T3 at *
  generalize tm4 a0 a1 a2 a3 a4 b0 b1 b2 b3 b4 = T4 at *
  unfold timesI at et
  rw [show (0 : Int) = ((0 : Nat) : Int) from rfl, outStep_nat (W := T0) (c := 0) (by omega) (by decide)] at et
  dsimp only at et
  have q0 : (T0 + 0) / 2251799813685248 < 9223372036854775808 := by omega
  have d0 := Nat.div_add_mod (T0 + 0) 2251799813685248
  have m0 := Nat.mod_lt (T0 + 0) (show 2251799813685248 > 0 by decide)
  generalize (T0 + 0) / 2251799813685248 = c0 at *
  generalize (T0 + 0) % 2251799813685248 = z0 at *
  rw [outStep_nat (W := T1) (c := c0) (by omega) (by omega)] at et
  dsimp only at et
  have q1 : (T1 + c0) / 2251799813685248 < 9223372036854775808 := by omega
  have d1 := Nat.div_add_mod (T1 + c0) 2251799813685248
  have m1 := Nat.mod_lt (T1 + c0) (show 2251799813685248 > 0 by decide)
  generalize (T1 + c0) / 2251799813685248 = c1 at *
  generalize (T1 + c0) % 2251799813685248 = z1 at *
  rw [outStep_nat (W := T2) (c := c1) (by omega) (by omega)] at et
  dsimp only at et
  have q2 : (T2 + c1) / 2251799813685248 < 9223372036854775808 := by omega
  have d2 := Nat.div_add_mod (T2 + c1) 2251799813685248
  have m2 := Nat.mod_lt (T2 + c1) (show 2251799813685248 > 0 by decide)
  generalize (T2 + c1) / 2251799813685248 = c2 at *
  generalize (T2 + c1) % 2251799813685248 = z2 at *
  rw [outStep_nat (W := T3) (c := c2) (by omega) (by omega)] at et
  dsimp only at et
  have q3 : (T3 + c2) / 2251799813685248 < 9223372036854775808 := by omega
  have d3 := Nat.div_add_mod (T3 + c2) 2251799813685248
  have m3 := Nat.mod_lt (T3 + c2) (show 2251799813685248 > 0 by decide)
  generalize (T3 + c2) / 2251799813685248 = c3 at *
  generalize (T3 + c2) % 2251799813685248 = z3 at *
  rw [outStep_nat (W := T4) (c := c3) (by omega) (by omega)] at et
  dsimp only at et
  have q4 : (T4 + c3) / 2251799813685248 < 288230376151711744 := by omega
  have d4 := Nat.div_add_mod (T4 + c3) 2251799813685248
  have m4 := Nat.mod_lt (T4 + c3) (show 2251799813685248 > 0 by decide)
  generalize (T4 + c3) / 2251799813685248 = c4 at *
  generalize (T4 + c3) % 2251799813685248 = z4 at *
  rw [show IntKind.u64.wrap (19 * (c4 : Int)) = ((19 * c4 : Nat) : Int) from w64 (n := 19 * c4) (by omega)] at et
  rw [show IntKind.u64.wrap ((z0 : Int) + ((19 * c4 : Nat) : Int)) = ((z0 + 19 * c4 : Nat) : Int) from w64 (n := z0 + 19 * c4) (by omega)] at et
  obtain ⟨u0, u1, u2, u3, u4, e, hr, hm⟩ := car_red (a0 := z0 + 19 * c4) (a1 := z1) (a2 := z2) (a3 := z3) (a4 := z4) (by omega) (by omega) (by omega) (by omega) (by omega)
  refine ⟨u0, u1, u2, u3, u4, et.trans e, hr, ?_⟩
  rw [hm, ← hv]
  refine (mod_of (q := c4) ?_).trans (Nat.add_mul_mod_self_right _ _ _).symm
  unfold val5 p25519
  omega

end Go.Proofs.Ytcgolglcjfknpaa

/- Sums and differences of elements, and the least form. -/
namespace Go.Proofs.Ytcgolglcjfknpaa
open Go Go.Eng
set_option maxRecDepth 100000

theorem plus_eq (a0 a1 a2 a3 a4 b0 b1 b2 b3 b4 : Int) : plusL [a0, a1, a2, a3, a4] [b0, b1, b2, b3, b4] = carriedL [IntKind.u64.wrap (a0 + b0), IntKind.u64.wrap (a1 + b1), IntKind.u64.wrap (a2 + b2), IntKind.u64.wrap (a3 + b3), IntKind.u64.wrap (a4 + b4)] := by kernel_rfl
theorem minus_eq (a0 a1 a2 a3 a4 b0 b1 b2 b3 b4 : Int) : minusL [a0, a1, a2, a3, a4] [b0, b1, b2, b3, b4] = carriedL [IntKind.u64.wrap (a0 + IntKind.u64.wrap (9007199254740916 - b0)), IntKind.u64.wrap (a1 + IntKind.u64.wrap (9007199254740988 - b1)), IntKind.u64.wrap (a2 + IntKind.u64.wrap (9007199254740988 - b2)), IntKind.u64.wrap (a3 + IntKind.u64.wrap (9007199254740988 - b3)), IntKind.u64.wrap (a4 + IntKind.u64.wrap (9007199254740988 - b4))] := by kernel_rfl

/-- limbs that stand for v -/
def Wid (a0 a1 a2 a3 a4 : Nat) : Prop := a0 < 4503599627370496 ∧ a1 < 4503599627370496 ∧ a2 < 4503599627370496 ∧ a3 < 4503599627370496 ∧ a4 < 4503599627370496
theorem Red.wid {a0 a1 a2 a3 a4 : Nat} (h : Red a0 a1 a2 a3 a4) : Wid a0 a1 a2 a3 a4 := by
  obtain ⟨h0, h1, h2, h3, h4⟩ := h
  exact ⟨by omega, by omega, by omega, by omega, by omega⟩
theorem Wid.lim {a0 a1 a2 a3 a4 : Nat} (h : Wid a0 a1 a2 a3 a4) : Lim a0 a1 a2 a3 a4 := by
  obtain ⟨h0, h1, h2, h3, h4⟩ := h
  exact ⟨by omega, by omega, by omega, by omega, by omega⟩
def El (l : List Int) (v : Nat) : Prop := ∃ u0 u1 u2 u3 u4 : Nat, l = nats [u0, u1, u2, u3, u4] ∧ Wid u0 u1 u2 u3 u4 ∧ val5 u0 u1 u2 u3 u4 % p25519 = v

theorem El.lt {l : List Int} {v : Nat} (h : El l v) : v < p25519 := by
  obtain ⟨u0, u1, u2, u3, u4, _, _, e⟩ := h
  rw [← e]; exact Nat.mod_lt _ (by decide)

theorem times_el {x y : List Int} {a b : Nat} (hx : El x a) (hy : El y b) : El (timesL x y) (a * b % p25519) := by
  obtain ⟨a0, a1, a2, a3, a4, rfl, ra, ea⟩ := hx
  obtain ⟨b0, b1, b2, b3, b4, rfl, rb, eb⟩ := hy
  obtain ⟨u0, u1, u2, u3, u4, e, r, h⟩ := times_nat ra.lim rb.lim
  refine ⟨u0, u1, u2, u3, u4, e, r.wid, ?_⟩
  rw [h, Nat.mul_mod, ea, eb]

theorem plus_el {x y : List Int} {a b : Nat} (hx : El x a) (hy : El y b) : El (plusL x y) ((a + b) % p25519) := by
  obtain ⟨a0, a1, a2, a3, a4, rfl, ra, ea⟩ := hx
  obtain ⟨b0, b1, b2, b3, b4, rfl, rb, eb⟩ := hy
  obtain ⟨h0, h1, h2, h3, h4⟩ := ra
  obtain ⟨k0, k1, k2, k3, k4⟩ := rb
  have e : plusL (nats [a0, a1, a2, a3, a4]) (nats [b0, b1, b2, b3, b4]) = carriedL (nats [a0 + b0, a1 + b1, a2 + b2, a3 + b3, a4 + b4]) := by
    refine (plus_eq (a0 : Int) (a1 : Int) (a2 : Int) (a3 : Int) (a4 : Int) (b0 : Int) (b1 : Int) (b2 : Int) (b3 : Int) (b4 : Int)).trans ?_
    rw [show IntKind.u64.wrap ((a0 : Int) + (b0 : Int)) = ((a0 + b0 : Nat) : Int) from w64 (n := a0 + b0) (by omega), show IntKind.u64.wrap ((a1 : Int) + (b1 : Int)) = ((a1 + b1 : Nat) : Int) from w64 (n := a1 + b1) (by omega), show IntKind.u64.wrap ((a2 : Int) + (b2 : Int)) = ((a2 + b2 : Nat) : Int) from w64 (n := a2 + b2) (by omega), show IntKind.u64.wrap ((a3 : Int) + (b3 : Int)) = ((a3 + b3 : Nat) : Int) from w64 (n := a3 + b3) (by omega), show IntKind.u64.wrap ((a4 : Int) + (b4 : Int)) = ((a4 + b4 : Nat) : Int) from w64 (n := a4 + b4) (by omega)]
    rfl
  rw [e]
  obtain ⟨u0, u1, u2, u3, u4, e, r, h⟩ := car_red (a0 := a0 + b0) (a1 := a1 + b1) (a2 := a2 + b2) (a3 := a3 + b3) (a4 := a4 + b4) (by omega) (by omega) (by omega) (by omega) (by omega)
  refine ⟨u0, u1, u2, u3, u4, e, r.wid, ?_⟩
  rw [h, ← ea, ← eb, ← Nat.add_mod]
  congr 1
  unfold val5; omega

theorem minus_el {x y : List Int} {a b : Nat} (hx : El x a) (hy : El y b) : El (minusL x y) ((a + (p25519 - b)) % p25519) := by
  have hb := hy.lt
  obtain ⟨a0, a1, a2, a3, a4, rfl, ra, ea⟩ := hx
  obtain ⟨b0, b1, b2, b3, b4, rfl, rb, eb⟩ := hy
  obtain ⟨h0, h1, h2, h3, h4⟩ := ra
  obtain ⟨k0, k1, k2, k3, k4⟩ := rb
  have e : minusL (nats [a0, a1, a2, a3, a4]) (nats [b0, b1, b2, b3, b4]) = carriedL (nats [a0 + (9007199254740916 - b0), a1 + (9007199254740988 - b1), a2 + (9007199254740988 - b2), a3 + (9007199254740988 - b3), a4 + (9007199254740988 - b4)]) := by
    refine (minus_eq (a0 : Int) (a1 : Int) (a2 : Int) (a3 : Int) (a4 : Int) (b0 : Int) (b1 : Int) (b2 : Int) (b3 : Int) (b4 : Int)).trans ?_
    rw [show IntKind.u64.wrap ((9007199254740916 : Int) - (b0 : Int)) = ((9007199254740916 - b0 : Nat) : Int) from (congrArg IntKind.u64.wrap (by omega)).trans (w64 (n := 9007199254740916 - b0) (by omega)), show IntKind.u64.wrap ((9007199254740988 : Int) - (b1 : Int)) = ((9007199254740988 - b1 : Nat) : Int) from (congrArg IntKind.u64.wrap (by omega)).trans (w64 (n := 9007199254740988 - b1) (by omega)), show IntKind.u64.wrap ((9007199254740988 : Int) - (b2 : Int)) = ((9007199254740988 - b2 : Nat) : Int) from (congrArg IntKind.u64.wrap (by omega)).trans (w64 (n := 9007199254740988 - b2) (by omega)), show IntKind.u64.wrap ((9007199254740988 : Int) - (b3 : Int)) = ((9007199254740988 - b3 : Nat) : Int) from (congrArg IntKind.u64.wrap (by omega)).trans (w64 (n := 9007199254740988 - b3) (by omega)), show IntKind.u64.wrap ((9007199254740988 : Int) - (b4 : Int)) = ((9007199254740988 - b4 : Nat) : Int) from (congrArg IntKind.u64.wrap (by omega)).trans (w64 (n := 9007199254740988 - b4) (by omega))]
    rw [show IntKind.u64.wrap ((a0 : Int) + ((9007199254740916 - b0 : Nat) : Int)) = ((a0 + (9007199254740916 - b0) : Nat) : Int) from w64 (n := a0 + (9007199254740916 - b0)) (by omega), show IntKind.u64.wrap ((a1 : Int) + ((9007199254740988 - b1 : Nat) : Int)) = ((a1 + (9007199254740988 - b1) : Nat) : Int) from w64 (n := a1 + (9007199254740988 - b1)) (by omega), show IntKind.u64.wrap ((a2 : Int) + ((9007199254740988 - b2 : Nat) : Int)) = ((a2 + (9007199254740988 - b2) : Nat) : Int) from w64 (n := a2 + (9007199254740988 - b2)) (by omega), show IntKind.u64.wrap ((a3 : Int) + ((9007199254740988 - b3 : Nat) : Int)) = ((a3 + (9007199254740988 - b3) : Nat) : Int) from w64 (n := a3 + (9007199254740988 - b3)) (by omega), show IntKind.u64.wrap ((a4 : Int) + ((9007199254740988 - b4 : Nat) : Int)) = ((a4 + (9007199254740988 - b4) : Nat) : Int) from w64 (n := a4 + (9007199254740988 - b4)) (by omega)]
    rfl
  rw [e]
  obtain ⟨u0, u1, u2, u3, u4, e, r, h⟩ := car_red (a0 := a0 + (9007199254740916 - b0)) (a1 := a1 + (9007199254740988 - b1)) (a2 := a2 + (9007199254740988 - b2)) (a3 := a3 + (9007199254740988 - b3)) (a4 := a4 + (9007199254740988 - b4)) (by omega) (by omega) (by omega) (by omega) (by omega)
  refine ⟨u0, u1, u2, u3, u4, e, r.wid, ?_⟩
  rw [h, ← ea, ← eb]
  have hv : val5 (a0 + (9007199254740916 - b0)) (a1 + (9007199254740988 - b1)) (a2 + (9007199254740988 - b2)) (a3 + (9007199254740988 - b3)) (a4 + (9007199254740988 - b4)) + val5 b0 b1 b2 b3 b4 = val5 a0 a1 a2 a3 a4 + 4 * p25519 := by
    unfold val5 p25519; omega
  generalize val5 (a0 + (9007199254740916 - b0)) (a1 + (9007199254740988 - b1)) (a2 + (9007199254740988 - b2)) (a3 + (9007199254740988 - b3)) (a4 + (9007199254740988 - b4)) = V at *
  generalize val5 a0 a1 a2 a3 a4 = A at *
  generalize val5 b0 b1 b2 b3 b4 = B at *
  unfold p25519 at *
  omega

/-! ### the least form -/

/-- the least form, of limbs that are carried -/
def lstI (c0 c1 c2 c3 c4 : Int) : List Int :=
  let s0 := IntKind.u64.wrap (c0 + 19)
  let s1 := IntKind.u64.wrap (c1 + shrI .u64 s0 51)
  let s2 := IntKind.u64.wrap (c2 + shrI .u64 s1 51)
  let s3 := IntKind.u64.wrap (c3 + shrI .u64 s2 51)
  let s4 := IntKind.u64.wrap (c4 + shrI .u64 s3 51)
  bif decide (shrI .u64 s4 51 > 0) then [andI .u64 s0 2251799813685247, andI .u64 s1 2251799813685247, andI .u64 s2 2251799813685247, andI .u64 s3 2251799813685247, andI .u64 s4 2251799813685247] else [c0, c1, c2, c3, c4]

def leastT' (cc : List Int) : Bool × List Int × List Int :=
 let v0 : Int := IntKind.u64.wrap (cc.getD (mulE (Int.toNat 0) 1) 0 + 19);
let v1 : List Int := cc.set (mulE (Int.toNat 0) 1) v0;
let v2 : Int := IntKind.i64.wrap (0 + 1);
let v3 : Int := shrI IntKind.u64 (v1.getD (mulE (Int.toNat 0) 1) 0) 51;
let v4 : Int := IntKind.u64.wrap (v1.getD (mulE v2.toNat 1) 0 + v3);
let v5 : List Int := v1.set (mulE v2.toNat 1) v4;
let v6 : Int := andI IntKind.u64 (v5.getD (mulE (Int.toNat 0) 1) 0) 2251799813685247;
let v7 : List Int := v5.set (mulE (Int.toNat 0) 1) v6;
let v8 : Int := IntKind.i64.wrap (v2 + 1);
let v9 : Int := shrI IntKind.u64 (v7.getD (mulE v2.toNat 1) 0) 51;
let v10 : Int := IntKind.u64.wrap (v7.getD (mulE v8.toNat 1) 0 + v9);
let v11 : List Int := v7.set (mulE v8.toNat 1) v10;
let v12 : Int := andI IntKind.u64 (v11.getD (mulE v2.toNat 1) 0) 2251799813685247;
let v13 : List Int := v11.set (mulE v2.toNat 1) v12;
let v14 : Int := IntKind.i64.wrap (v8 + 1);
let v15 : Int := shrI IntKind.u64 (v13.getD (mulE v8.toNat 1) 0) 51;
let v16 : Int := IntKind.u64.wrap (v13.getD (mulE v14.toNat 1) 0 + v15);
let v17 : List Int := v13.set (mulE v14.toNat 1) v16;
let v18 : Int := andI IntKind.u64 (v17.getD (mulE v8.toNat 1) 0) 2251799813685247;
let v19 : List Int := v17.set (mulE v8.toNat 1) v18;
let v20 : Int := IntKind.i64.wrap (v14 + 1);
let v21 : Int := shrI IntKind.u64 (v19.getD (mulE v14.toNat 1) 0) 51;
let v22 : Int := IntKind.u64.wrap (v19.getD (mulE v20.toNat 1) 0 + v21);
let v23 : List Int := v19.set (mulE v20.toNat 1) v22;
let v24 : Int := andI IntKind.u64 (v23.getD (mulE v14.toNat 1) 0) 2251799813685247;
let v25 : List Int := v23.set (mulE v14.toNat 1) v24;
let v26 : Int := shrI IntKind.u64 (v25.getD (mulE (Int.toNat 4) 1) 0) 51;
(Decidable.decide (v26 > 0),
 ( let v27 : Int := andI IntKind.u64 (v25.getD (mulE (Int.toNat 4) 1) 0) 2251799813685247;
 let v28 : List Int := v25.set (mulE (Int.toNat 4) 1) v27;
 v28),
 cc)
def leastV (cc : List Int) : List Int := bif (leastT' cc).1 then (leastT' cc).2.1 else (leastT' cc).2.2
theorem least_sel (x : List Int) : leastL x = bif (leastLT x).1 then (leastLT x).2.1 else (leastLT x).2.2 := by
  unfold leastL; rw [f67_form]; cases (leastLT x).1 <;> rfl
theorem least_sel' (x : List Int) : (bif (leastLT x).1 then (leastLT x).2.1 else (leastLT x).2.2) = leastV (carriedL (carriedL x)) := by kernel_rfl
theorem least_eq (x : List Int) : leastL x = leastV (carriedL (carriedL x)) := (least_sel x).trans (least_sel' x)
theorem leastV_eq (c0 c1 c2 c3 c4 : Int) : leastV [c0, c1, c2, c3, c4] = lstI c0 c1 c2 c3 c4 := by kernel_rfl

theorem least_el {x : List Int} {v : Nat} (hx : El x v) : ∃ u0 u1 u2 u3 u4 : Nat, leastL x = nats [u0, u1, u2, u3, u4] ∧ u0 < 2251799813685248 ∧ u1 < 2251799813685248 ∧ u2 < 2251799813685248 ∧ u3 < 2251799813685248 ∧ u4 < 2251799813685248 ∧ val5 u0 u1 u2 u3 u4 = v := by
  obtain ⟨a0, a1, a2, a3, a4, rfl, ra, ea⟩ := hx
  obtain ⟨h0, h1, h2, h3, h4⟩ := ra
  rw [least_eq]
  obtain ⟨v0, v1, v2, v3, v4, c, s, e, g0, g1, g2, g3, g4, hc, hs, hv⟩ := car_nat (a0 := a0) (a1 := a1) (a2 := a2) (a3 := a3) (a4 := a4) (by omega) (by omega) (by omega) (by omega) (by omega)
  have hc1 : c ≤ 3 := by unfold val5 p25519 at hv; omega
  have em := mod_of hv
  rw [e]; clear e hc hs hv
  obtain ⟨u0, u1, u2, u3, u4, c', s', e, k0, k1, k2, k3, k4, hc', hs', hv'⟩ := car_nat (a0 := v0 + 19 * c) (a1 := v1) (a2 := v2) (a3 := v3) (a4 := v4) (by omega) (by omega) (by omega) (by omega) (by omega)
  have k0' : u0 + 19 * c' < 2251799813685248 := by
    have : c' ≤ 1 := by unfold val5 p25519 at hv'; omega
    unfold val5 p25519 at hv'; omega
  have em' := mod_of hv'
  rw [em, ea] at em'
  rw [e]; clear e hc' hs' hv' em
  generalize u0 + 19 * c' = w0 at *
  clear c' k0 hc1 c
  rw [show leastV (nats [w0, u1, u2, u3, u4]) = _ from leastV_eq (w0 : Int) u1 u2 u3 u4]
  unfold lstI
  rw [show IntKind.u64.wrap ((w0 : Int) + 19) = ((w0 + 19 : Nat) : Int) from w64 (n := w0 + 19) (by omega)]
  dsimp only
  rw [shr51, and51 (by omega)]
  have d0 := Nat.div_add_mod (w0 + 19) 2251799813685248
  have m0 := Nat.mod_lt (w0 + 19) (show 2251799813685248 > 0 by decide)
  have q0 : (w0 + 19) / 2251799813685248 ≤ 1 := by omega
  generalize (w0 + 19) / 2251799813685248 = c0 at *
  generalize (w0 + 19) % 2251799813685248 = y0 at *
  rw [show IntKind.u64.wrap ((u1 : Int) + (c0 : Int)) = ((u1 + c0 : Nat) : Int) from w64 (n := u1 + c0) (by omega), shr51, and51 (by omega)]
  have d1 := Nat.div_add_mod (u1 + c0) 2251799813685248
  have m1 := Nat.mod_lt (u1 + c0) (show 2251799813685248 > 0 by decide)
  have q1 : (u1 + c0) / 2251799813685248 ≤ 1 := by omega
  generalize (u1 + c0) / 2251799813685248 = c1 at *
  generalize (u1 + c0) % 2251799813685248 = y1 at *
  rw [show IntKind.u64.wrap ((u2 : Int) + (c1 : Int)) = ((u2 + c1 : Nat) : Int) from w64 (n := u2 + c1) (by omega), shr51, and51 (by omega)]
  have d2 := Nat.div_add_mod (u2 + c1) 2251799813685248
  have m2 := Nat.mod_lt (u2 + c1) (show 2251799813685248 > 0 by decide)
  have q2 : (u2 + c1) / 2251799813685248 ≤ 1 := by omega
  generalize (u2 + c1) / 2251799813685248 = c2 at *
  generalize (u2 + c1) % 2251799813685248 = y2 at *
  rw [show IntKind.u64.wrap ((u3 : Int) + (c2 : Int)) = ((u3 + c2 : Nat) : Int) from w64 (n := u3 + c2) (by omega), shr51, and51 (by omega)]
  have d3 := Nat.div_add_mod (u3 + c2) 2251799813685248
  have m3 := Nat.mod_lt (u3 + c2) (show 2251799813685248 > 0 by decide)
  have q3 : (u3 + c2) / 2251799813685248 ≤ 1 := by omega
  generalize (u3 + c2) / 2251799813685248 = c3 at *
  generalize (u3 + c2) % 2251799813685248 = y3 at *
  rw [show IntKind.u64.wrap ((u4 : Int) + (c3 : Int)) = ((u4 + c3 : Nat) : Int) from w64 (n := u4 + c3) (by omega), shr51, and51 (by omega)]
  have d4 := Nat.div_add_mod (u4 + c3) 2251799813685248
  have m4 := Nat.mod_lt (u4 + c3) (show 2251799813685248 > 0 by decide)
  have q4 : (u4 + c3) / 2251799813685248 ≤ 1 := by omega
  generalize (u4 + c3) / 2251799813685248 = c4 at *
  generalize (u4 + c3) % 2251799813685248 = y4 at *
  by_cases hz : c4 = 0
  · rw [hz, show decide (((0 : Nat) : Int) > 0) = false from rfl, cond_false]
    refine ⟨w0, u1, u2, u3, u4, rfl, k0', k1, k2, k3, k4, ?_⟩
    rw [← em']
    symm
    apply Nat.mod_eq_of_lt
    unfold val5 p25519; omega
  · have h1 : c4 = 1 := by omega
    rw [h1, show decide (((1 : Nat) : Int) > 0) = true from rfl, cond_true]
    refine ⟨y0, y1, y2, y3, y4, rfl, m0, m1, m2, m3, m4, ?_⟩
    have hv : val5 w0 u1 u2 u3 u4 = val5 y0 y1 y2 y3 y4 + p25519 := by unfold val5 p25519; omega
    rw [← em', hv, Nat.add_mod_right]
    symm
    apply Nat.mod_eq_of_lt
    have : val5 y0 y1 y2 y3 y4 + p25519 < 2 * p25519 := by rw [← hv]; unfold val5 p25519; omega
    omega
end Go.Proofs.Ytcgolglcjfknpaa

/- Elements from bytes, and as bytes. -/
namespace Go.Proofs.Ytcgolglcjfknpaa
open Go Go.Eng
set_option maxRecDepth 100000

/-- the low part and a high part, put together -/
theorem orW {a b : Nat} (j : Nat) (hj : j ≤ 64) (ha : a < 2 ^ j) : orI .u64 (a : Int) (shlI .u64 (b : Int) (j : Int)) = ((a + b % 2 ^ (64 - j) * 2 ^ j : Nat) : Int) := by
  rw [show shlI .u64 (b : Int) (j : Int) = ((b * 2 ^ j % 2 ^ 64 : Nat) : Int) from shlN (k := .u64) rfl hj b]
  have e : b * 2 ^ j % 2 ^ 64 = b % 2 ^ (64 - j) * 2 ^ j := by
    rw [show (2 : Nat) ^ 64 = 2 ^ (64 - j) * 2 ^ j by rw [← Nat.pow_add]; congr 1; omega, Nat.mul_mod_mul_right]
  have h2 : (2 : Nat) ^ j ≤ 2 ^ 64 := Nat.pow_le_pow_right (by decide) hj
  refine (orN (k := .u64) rfl (Nat.lt_of_lt_of_le ha h2) (Nat.mod_lt _ (Nat.two_pow_pos 64))).trans ?_
  rw [show IntKind.u64.bits = 64 from rfl, e, or_addN' ha]

/-! ### as bytes -/
def feB (c : List Int) : List Int :=
 let v0 : Int := shlI IntKind.u64 (c.getD (mulE (Int.toNat 1) 1) 0) 51;
let v1 : Int := orI IntKind.u64 (c.getD (mulE (Int.toNat 0) 1) 0) v0;
let v2 : List Int := (List.replicate 4 0).set 0 v1;
let v3 : Int := shrI IntKind.u64 (c.getD (mulE (Int.toNat 1) 1) 0) 13;
let v4 : Int := shlI IntKind.u64 (c.getD (mulE (Int.toNat 2) 1) 0) 38;
let v5 : Int := orI IntKind.u64 v3 v4;
let v6 : List Int := v2.set 1 v5;
let v7 : Int := shrI IntKind.u64 (c.getD (mulE (Int.toNat 2) 1) 0) 26;
let v8 : Int := shlI IntKind.u64 (c.getD (mulE (Int.toNat 3) 1) 0) 25;
let v9 : Int := orI IntKind.u64 v7 v8;
let v10 : List Int := v6.set 2 v9;
let v11 : Int := shrI IntKind.u64 (c.getD (mulE (Int.toNat 3) 1) 0) 39;
let v12 : Int := shlI IntKind.u64 (c.getD (mulE (Int.toNat 4) 1) 0) 12;
let v13 : Int := orI IntKind.u64 v11 v12;
let v14 : List Int := v10.set 3 v13;
let v15 : Int := IntKind.i64.wrap (Int.tdiv 0 8);
let v16 : Int := IntKind.i64.wrap (8 * Int.tmod 0 8);
let v17 : Int := shrI IntKind.u64 (v14.getD (mulE v15.toNat 1) 0) v16;
let v18 : Int := IntKind.u8.wrap v17;
let v19 : List Int := (List.replicate 32 0).set (mulE (Int.toNat 0) 1) v18;
let v20 : Int := IntKind.i64.wrap (0 + 1);
let v21 : Int := IntKind.i64.wrap (v20.tdiv 8);
let v22 : Int := IntKind.i64.wrap (8 * v20.tmod 8);
let v23 : Int := shrI IntKind.u64 (v14.getD (mulE v21.toNat 1) 0) v22;
let v24 : Int := IntKind.u8.wrap v23;
let v25 : List Int := v19.set (mulE v20.toNat 1) v24;
let v26 : Int := IntKind.i64.wrap (v20 + 1);
let v27 : Int := IntKind.i64.wrap (v26.tdiv 8);
let v28 : Int := IntKind.i64.wrap (8 * v26.tmod 8);
let v29 : Int := shrI IntKind.u64 (v14.getD (mulE v27.toNat 1) 0) v28;
let v30 : Int := IntKind.u8.wrap v29;
let v31 : List Int := v25.set (mulE v26.toNat 1) v30;
let v32 : Int := IntKind.i64.wrap (v26 + 1);
let v33 : Int := IntKind.i64.wrap (v32.tdiv 8);
let v34 : Int := IntKind.i64.wrap (8 * v32.tmod 8);
let v35 : Int := shrI IntKind.u64 (v14.getD (mulE v33.toNat 1) 0) v34;
let v36 : Int := IntKind.u8.wrap v35;
let v37 : List Int := v31.set (mulE v32.toNat 1) v36;
let v38 : Int := IntKind.i64.wrap (v32 + 1);
let v39 : Int := IntKind.i64.wrap (v38.tdiv 8);
let v40 : Int := IntKind.i64.wrap (8 * v38.tmod 8);
let v41 : Int := shrI IntKind.u64 (v14.getD (mulE v39.toNat 1) 0) v40;
let v42 : Int := IntKind.u8.wrap v41;
let v43 : List Int := v37.set (mulE v38.toNat 1) v42;
let v44 : Int := IntKind.i64.wrap (v38 + 1);
let v45 : Int := IntKind.i64.wrap (v44.tdiv 8);
let v46 : Int := IntKind.i64.wrap (8 * v44.tmod 8);
let v47 : Int := shrI IntKind.u64 (v14.getD (mulE v45.toNat 1) 0) v46;
let v48 : Int := IntKind.u8.wrap v47;
let v49 : List Int := v43.set (mulE v44.toNat 1) v48;
let v50 : Int := IntKind.i64.wrap (v44 + 1);
let v51 : Int := IntKind.i64.wrap (v50.tdiv 8);
let v52 : Int := IntKind.i64.wrap (8 * v50.tmod 8);
let v53 : Int := shrI IntKind.u64 (v14.getD (mulE v51.toNat 1) 0) v52;
let v54 : Int := IntKind.u8.wrap v53;
let v55 : List Int := v49.set (mulE v50.toNat 1) v54;
let v56 : Int := IntKind.i64.wrap (v50 + 1);
let v57 : Int := IntKind.i64.wrap (v56.tdiv 8);
let v58 : Int := IntKind.i64.wrap (8 * v56.tmod 8);
let v59 : Int := shrI IntKind.u64 (v14.getD (mulE v57.toNat 1) 0) v58;
let v60 : Int := IntKind.u8.wrap v59;
let v61 : List Int := v55.set (mulE v56.toNat 1) v60;
let v62 : Int := IntKind.i64.wrap (v56 + 1);
let v63 : Int := IntKind.i64.wrap (v62.tdiv 8);
let v64 : Int := IntKind.i64.wrap (8 * v62.tmod 8);
let v65 : Int := shrI IntKind.u64 (v14.getD (mulE v63.toNat 1) 0) v64;
let v66 : Int := IntKind.u8.wrap v65;
let v67 : List Int := v61.set (mulE v62.toNat 1) v66;
let v68 : Int := IntKind.i64.wrap (v62 + 1);
let v69 : Int := IntKind.i64.wrap (v68.tdiv 8);
let v70 : Int := IntKind.i64.wrap (8 * v68.tmod 8);
let v71 : Int := shrI IntKind.u64 (v14.getD (mulE v69.toNat 1) 0) v70;
let v72 : Int := IntKind.u8.wrap v71;
let v73 : List Int := v67.set (mulE v68.toNat 1) v72;
let v74 : Int := IntKind.i64.wrap (v68 + 1);
let v75 : Int := IntKind.i64.wrap (v74.tdiv 8);
let v76 : Int := IntKind.i64.wrap (8 * v74.tmod 8);
let v77 : Int := shrI IntKind.u64 (v14.getD (mulE v75.toNat 1) 0) v76;
let v78 : Int := IntKind.u8.wrap v77;
let v79 : List Int := v73.set (mulE v74.toNat 1) v78;
let v80 : Int := IntKind.i64.wrap (v74 + 1);
let v81 : Int := IntKind.i64.wrap (v80.tdiv 8);
let v82 : Int := IntKind.i64.wrap (8 * v80.tmod 8);
let v83 : Int := shrI IntKind.u64 (v14.getD (mulE v81.toNat 1) 0) v82;
let v84 : Int := IntKind.u8.wrap v83;
let v85 : List Int := v79.set (mulE v80.toNat 1) v84;
let v86 : Int := IntKind.i64.wrap (v80 + 1);
let v87 : Int := IntKind.i64.wrap (v86.tdiv 8);
let v88 : Int := IntKind.i64.wrap (8 * v86.tmod 8);
let v89 : Int := shrI IntKind.u64 (v14.getD (mulE v87.toNat 1) 0) v88;
let v90 : Int := IntKind.u8.wrap v89;
let v91 : List Int := v85.set (mulE v86.toNat 1) v90;
let v92 : Int := IntKind.i64.wrap (v86 + 1);
let v93 : Int := IntKind.i64.wrap (v92.tdiv 8);
let v94 : Int := IntKind.i64.wrap (8 * v92.tmod 8);
let v95 : Int := shrI IntKind.u64 (v14.getD (mulE v93.toNat 1) 0) v94;
let v96 : Int := IntKind.u8.wrap v95;
let v97 : List Int := v91.set (mulE v92.toNat 1) v96;
let v98 : Int := IntKind.i64.wrap (v92 + 1);
let v99 : Int := IntKind.i64.wrap (v98.tdiv 8);
let v100 : Int := IntKind.i64.wrap (8 * v98.tmod 8);
let v101 : Int := shrI IntKind.u64 (v14.getD (mulE v99.toNat 1) 0) v100;
let v102 : Int := IntKind.u8.wrap v101;
let v103 : List Int := v97.set (mulE v98.toNat 1) v102;
let v104 : Int := IntKind.i64.wrap (v98 + 1);
let v105 : Int := IntKind.i64.wrap (v104.tdiv 8);
let v106 : Int := IntKind.i64.wrap (8 * v104.tmod 8);
let v107 : Int := shrI IntKind.u64 (v14.getD (mulE v105.toNat 1) 0) v106;
let v108 : Int := IntKind.u8.wrap v107;
let v109 : List Int := v103.set (mulE v104.toNat 1) v108;
let v110 : Int := IntKind.i64.wrap (v104 + 1);
let v111 : Int := IntKind.i64.wrap (v110.tdiv 8);
let v112 : Int := IntKind.i64.wrap (8 * v110.tmod 8);
let v113 : Int := shrI IntKind.u64 (v14.getD (mulE v111.toNat 1) 0) v112;
let v114 : Int := IntKind.u8.wrap v113;
let v115 : List Int := v109.set (mulE v110.toNat 1) v114;
let v116 : Int := IntKind.i64.wrap (v110 + 1);
let v117 : Int := IntKind.i64.wrap (v116.tdiv 8);
let v118 : Int := IntKind.i64.wrap (8 * v116.tmod 8);
let v119 : Int := shrI IntKind.u64 (v14.getD (mulE v117.toNat 1) 0) v118;
let v120 : Int := IntKind.u8.wrap v119;
let v121 : List Int := v115.set (mulE v116.toNat 1) v120;
let v122 : Int := IntKind.i64.wrap (v116 + 1);
let v123 : Int := IntKind.i64.wrap (v122.tdiv 8);
let v124 : Int := IntKind.i64.wrap (8 * v122.tmod 8);
let v125 : Int := shrI IntKind.u64 (v14.getD (mulE v123.toNat 1) 0) v124;
let v126 : Int := IntKind.u8.wrap v125;
let v127 : List Int := v121.set (mulE v122.toNat 1) v126;
let v128 : Int := IntKind.i64.wrap (v122 + 1);
let v129 : Int := IntKind.i64.wrap (v128.tdiv 8);
let v130 : Int := IntKind.i64.wrap (8 * v128.tmod 8);
let v131 : Int := shrI IntKind.u64 (v14.getD (mulE v129.toNat 1) 0) v130;
let v132 : Int := IntKind.u8.wrap v131;
let v133 : List Int := v127.set (mulE v128.toNat 1) v132;
let v134 : Int := IntKind.i64.wrap (v128 + 1);
let v135 : Int := IntKind.i64.wrap (v134.tdiv 8);
let v136 : Int := IntKind.i64.wrap (8 * v134.tmod 8);
let v137 : Int := shrI IntKind.u64 (v14.getD (mulE v135.toNat 1) 0) v136;
let v138 : Int := IntKind.u8.wrap v137;
let v139 : List Int := v133.set (mulE v134.toNat 1) v138;
let v140 : Int := IntKind.i64.wrap (v134 + 1);
let v141 : Int := IntKind.i64.wrap (v140.tdiv 8);
let v142 : Int := IntKind.i64.wrap (8 * v140.tmod 8);
let v143 : Int := shrI IntKind.u64 (v14.getD (mulE v141.toNat 1) 0) v142;
let v144 : Int := IntKind.u8.wrap v143;
let v145 : List Int := v139.set (mulE v140.toNat 1) v144;
let v146 : Int := IntKind.i64.wrap (v140 + 1);
let v147 : Int := IntKind.i64.wrap (v146.tdiv 8);
let v148 : Int := IntKind.i64.wrap (8 * v146.tmod 8);
let v149 : Int := shrI IntKind.u64 (v14.getD (mulE v147.toNat 1) 0) v148;
let v150 : Int := IntKind.u8.wrap v149;
let v151 : List Int := v145.set (mulE v146.toNat 1) v150;
let v152 : Int := IntKind.i64.wrap (v146 + 1);
let v153 : Int := IntKind.i64.wrap (v152.tdiv 8);
let v154 : Int := IntKind.i64.wrap (8 * v152.tmod 8);
let v155 : Int := shrI IntKind.u64 (v14.getD (mulE v153.toNat 1) 0) v154;
let v156 : Int := IntKind.u8.wrap v155;
let v157 : List Int := v151.set (mulE v152.toNat 1) v156;
let v158 : Int := IntKind.i64.wrap (v152 + 1);
let v159 : Int := IntKind.i64.wrap (v158.tdiv 8);
let v160 : Int := IntKind.i64.wrap (8 * v158.tmod 8);
let v161 : Int := shrI IntKind.u64 (v14.getD (mulE v159.toNat 1) 0) v160;
let v162 : Int := IntKind.u8.wrap v161;
let v163 : List Int := v157.set (mulE v158.toNat 1) v162;
let v164 : Int := IntKind.i64.wrap (v158 + 1);
let v165 : Int := IntKind.i64.wrap (v164.tdiv 8);
let v166 : Int := IntKind.i64.wrap (8 * v164.tmod 8);
let v167 : Int := shrI IntKind.u64 (v14.getD (mulE v165.toNat 1) 0) v166;
let v168 : Int := IntKind.u8.wrap v167;
let v169 : List Int := v163.set (mulE v164.toNat 1) v168;
let v170 : Int := IntKind.i64.wrap (v164 + 1);
let v171 : Int := IntKind.i64.wrap (v170.tdiv 8);
let v172 : Int := IntKind.i64.wrap (8 * v170.tmod 8);
let v173 : Int := shrI IntKind.u64 (v14.getD (mulE v171.toNat 1) 0) v172;
let v174 : Int := IntKind.u8.wrap v173;
let v175 : List Int := v169.set (mulE v170.toNat 1) v174;
let v176 : Int := IntKind.i64.wrap (v170 + 1);
let v177 : Int := IntKind.i64.wrap (v176.tdiv 8);
let v178 : Int := IntKind.i64.wrap (8 * v176.tmod 8);
let v179 : Int := shrI IntKind.u64 (v14.getD (mulE v177.toNat 1) 0) v178;
let v180 : Int := IntKind.u8.wrap v179;
let v181 : List Int := v175.set (mulE v176.toNat 1) v180;
let v182 : Int := IntKind.i64.wrap (v176 + 1);
let v183 : Int := IntKind.i64.wrap (v182.tdiv 8);
let v184 : Int := IntKind.i64.wrap (8 * v182.tmod 8);
let v185 : Int := shrI IntKind.u64 (v14.getD (mulE v183.toNat 1) 0) v184;
let v186 : Int := IntKind.u8.wrap v185;
let v187 : List Int := v181.set (mulE v182.toNat 1) v186;
let v188 : Int := IntKind.i64.wrap (v182 + 1);
let v189 : Int := IntKind.i64.wrap (v188.tdiv 8);
let v190 : Int := IntKind.i64.wrap (8 * v188.tmod 8);
let v191 : Int := shrI IntKind.u64 (v14.getD (mulE v189.toNat 1) 0) v190;
let v192 : Int := IntKind.u8.wrap v191;
let v193 : List Int := v187.set (mulE v188.toNat 1) v192;
let v194 : Int := IntKind.i64.wrap (v188 + 1);
let v195 : Int := IntKind.i64.wrap (v194.tdiv 8);
let v196 : Int := IntKind.i64.wrap (8 * v194.tmod 8);
let v197 : Int := shrI IntKind.u64 (v14.getD (mulE v195.toNat 1) 0) v196;
let v198 : Int := IntKind.u8.wrap v197;
let v199 : List Int := v193.set (mulE v194.toNat 1) v198;
let v200 : Int := IntKind.i64.wrap (v194 + 1);
let v201 : Int := IntKind.i64.wrap (v200.tdiv 8);
let v202 : Int := IntKind.i64.wrap (8 * v200.tmod 8);
let v203 : Int := shrI IntKind.u64 (v14.getD (mulE v201.toNat 1) 0) v202;
let v204 : Int := IntKind.u8.wrap v203;
let v205 : List Int := v199.set (mulE v200.toNat 1) v204;
v205
theorem feR_eq (x : List Int) : feR x = feB (leastL x) := by kernel_rfl
theorem fe_eq (x : List Int) : feL x = feB (leastL x) := (feL_eq x).trans (feR_eq x)
def bytesW (w0 w1 w2 w3 : Int) : List Int := [IntKind.u8.wrap (shrI .u64 w0 0), IntKind.u8.wrap (shrI .u64 w0 8), IntKind.u8.wrap (shrI .u64 w0 16), IntKind.u8.wrap (shrI .u64 w0 24), IntKind.u8.wrap (shrI .u64 w0 32), IntKind.u8.wrap (shrI .u64 w0 40), IntKind.u8.wrap (shrI .u64 w0 48), IntKind.u8.wrap (shrI .u64 w0 56), IntKind.u8.wrap (shrI .u64 w1 0), IntKind.u8.wrap (shrI .u64 w1 8), IntKind.u8.wrap (shrI .u64 w1 16), IntKind.u8.wrap (shrI .u64 w1 24), IntKind.u8.wrap (shrI .u64 w1 32), IntKind.u8.wrap (shrI .u64 w1 40), IntKind.u8.wrap (shrI .u64 w1 48), IntKind.u8.wrap (shrI .u64 w1 56), IntKind.u8.wrap (shrI .u64 w2 0), IntKind.u8.wrap (shrI .u64 w2 8), IntKind.u8.wrap (shrI .u64 w2 16), IntKind.u8.wrap (shrI .u64 w2 24), IntKind.u8.wrap (shrI .u64 w2 32), IntKind.u8.wrap (shrI .u64 w2 40), IntKind.u8.wrap (shrI .u64 w2 48), IntKind.u8.wrap (shrI .u64 w2 56), IntKind.u8.wrap (shrI .u64 w3 0), IntKind.u8.wrap (shrI .u64 w3 8), IntKind.u8.wrap (shrI .u64 w3 16), IntKind.u8.wrap (shrI .u64 w3 24), IntKind.u8.wrap (shrI .u64 w3 32), IntKind.u8.wrap (shrI .u64 w3 40), IntKind.u8.wrap (shrI .u64 w3 48), IntKind.u8.wrap (shrI .u64 w3 56)]
theorem feB_eq (c0 c1 c2 c3 c4 : Int) : feB [c0, c1, c2, c3, c4] = bytesW (orI .u64 c0 (shlI .u64 c1 51)) (orI .u64 (shrI .u64 c1 13) (shlI .u64 c2 38)) (orI .u64 (shrI .u64 c2 26) (shlI .u64 c3 25)) (orI .u64 (shrI .u64 c3 39) (shlI .u64 c4 12)) := by kernel_rfl
theorem byteW (w i : Nat) (hi : i ≤ 64) : IntKind.u8.wrap (shrI .u64 (w : Int) (i : Int)) = ((w / 2 ^ i % 256 : Nat) : Int) := by
  rw [shrN (k := .u64) hi, wm8]
theorem digs32 (v : Nat) : digs 256 32 v = [v / 1 % 256, v / 256 % 256, v / 65536 % 256, v / 16777216 % 256, v / 4294967296 % 256, v / 1099511627776 % 256, v / 281474976710656 % 256, v / 72057594037927936 % 256, v / 18446744073709551616 % 256, v / 4722366482869645213696 % 256, v / 1208925819614629174706176 % 256, v / 309485009821345068724781056 % 256, v / 79228162514264337593543950336 % 256, v / 20282409603651670423947251286016 % 256, v / 5192296858534827628530496329220096 % 256, v / 1329227995784915872903807060280344576 % 256, v / 340282366920938463463374607431768211456 % 256, v / 87112285931760246646623899502532662132736 % 256, v / 22300745198530623141535718272648361505980416 % 256, v / 5708990770823839524233143877797980545530986496 % 256, v / 1461501637330902918203684832716283019655932542976 % 256, v / 374144419156711147060143317175368453031918731001856 % 256, v / 95780971304118053647396689196894323976171195136475136 % 256, v / 24519928653854221733733552434404946937899825954937634816 % 256, v / 6277101735386680763835789423207666416102355444464034512896 % 256, v / 1606938044258990275541962092341162602522202993782792835301376 % 256, v / 411376139330301510538742295639337626245683966408394965837152256 % 256, v / 105312291668557186697918027683670432318895095400549111254310977536 % 256, v / 26959946667150639794667015087019630673637144422540572481103610249216 % 256, v / 6901746346790563787434755862277025452451108972170386555162524223799296 % 256, v / 1766847064778384329583297500742918515827483896875618958121606201292619776 % 256, v / 452312848583266388373324160190187140051835877600158453279131187530910662656 % 256] := by
  simp [digs, Nat.div_div_eq_div_mul]
theorem fe_el {x : List Int} {v : Nat} (hx : El x v) : feL x = nats (digs 256 32 v) := by
  obtain ⟨c0, c1, c2, c3, c4, e, h0, h1, h2, h3, h4, hv⟩ := least_el hx
  rw [fe_eq, e]
  refine (feB_eq c0 c1 c2 c3 c4).trans ?_
  rw [show orI .u64 (c0 : Int) (shlI .u64 (c1 : Int) 51) = ((c0 + c1 % 8192 * 2251799813685248 : Nat) : Int) from orW 51 (by decide) (by omega)]
  rw [show shrI .u64 (c1 : Int) 13 = ((c1 / 8192 : Nat) : Int) from shrN (k := .u64) (m := 13) (by decide) c1]
  rw [show shrI .u64 (c2 : Int) 26 = ((c2 / 67108864 : Nat) : Int) from shrN (k := .u64) (m := 26) (by decide) c2]
  rw [show shrI .u64 (c3 : Int) 39 = ((c3 / 549755813888 : Nat) : Int) from shrN (k := .u64) (m := 39) (by decide) c3]
  rw [show orI .u64 ((c1 / 8192 : Nat) : Int) (shlI .u64 (c2 : Int) 38) = ((c1 / 8192 + c2 % 67108864 * 274877906944 : Nat) : Int) from orW 38 (by decide) (by omega)]
  rw [show orI .u64 ((c2 / 67108864 : Nat) : Int) (shlI .u64 (c3 : Int) 25) = ((c2 / 67108864 + c3 % 549755813888 * 33554432 : Nat) : Int) from orW 25 (by decide) (by omega)]
  rw [show orI .u64 ((c3 / 549755813888 : Nat) : Int) (shlI .u64 (c4 : Int) 12) = ((c3 / 549755813888 + c4 % 4503599627370496 * 4096 : Nat) : Int) from orW 12 (by decide) (by omega)]
  have e0 : c0 + c1 % 8192 * 2251799813685248 = v % 18446744073709551616 := by rw [← hv]; unfold val5; omega
  have e1 : c1 / 8192 + c2 % 67108864 * 274877906944 = v / 18446744073709551616 % 18446744073709551616 := by rw [← hv]; unfold val5; omega
  have e2 : c2 / 67108864 + c3 % 549755813888 * 33554432 = v / 340282366920938463463374607431768211456 % 18446744073709551616 := by rw [← hv]; unfold val5; omega
  have e3 : c3 / 549755813888 + c4 % 4503599627370496 * 4096 = v / 6277101735386680763835789423207666416102355444464034512896 := by rw [← hv]; unfold val5; omega
  rw [e0, e1, e2, e3, digs32]
  clear e0 e1 e2 e3 hv h0 h1 h2 h3 h4 e hx
  unfold bytesW
  rw [show IntKind.u8.wrap (shrI .u64 ((v % 18446744073709551616 : Nat) : Int) 0) = ((v / 1 % 256 : Nat) : Int) from (byteW _ 0 (by decide)).trans (congrArg Int.ofNat (show (v % 18446744073709551616) / 1 % 256 = v / 1 % 256 by omega)),
    show IntKind.u8.wrap (shrI .u64 ((v % 18446744073709551616 : Nat) : Int) 8) = ((v / 256 % 256 : Nat) : Int) from (byteW _ 8 (by decide)).trans (congrArg Int.ofNat (show (v % 18446744073709551616) / 256 % 256 = v / 256 % 256 by omega)),
    show IntKind.u8.wrap (shrI .u64 ((v % 18446744073709551616 : Nat) : Int) 16) = ((v / 65536 % 256 : Nat) : Int) from (byteW _ 16 (by decide)).trans (congrArg Int.ofNat (show (v % 18446744073709551616) / 65536 % 256 = v / 65536 % 256 by omega)),
    show IntKind.u8.wrap (shrI .u64 ((v % 18446744073709551616 : Nat) : Int) 24) = ((v / 16777216 % 256 : Nat) : Int) from (byteW _ 24 (by decide)).trans (congrArg Int.ofNat (show (v % 18446744073709551616) / 16777216 % 256 = v / 16777216 % 256 by omega)),
    show IntKind.u8.wrap (shrI .u64 ((v % 18446744073709551616 : Nat) : Int) 32) = ((v / 4294967296 % 256 : Nat) : Int) from (byteW _ 32 (by decide)).trans (congrArg Int.ofNat (show (v % 18446744073709551616) / 4294967296 % 256 = v / 4294967296 % 256 by omega)),
    show IntKind.u8.wrap (shrI .u64 ((v % 18446744073709551616 : Nat) : Int) 40) = ((v / 1099511627776 % 256 : Nat) : Int) from (byteW _ 40 (by decide)).trans (congrArg Int.ofNat (show (v % 18446744073709551616) / 1099511627776 % 256 = v / 1099511627776 % 256 by omega)),
    show IntKind.u8.wrap (shrI .u64 ((v % 18446744073709551616 : Nat) : Int) 48) = ((v / 281474976710656 % 256 : Nat) : Int) from (byteW _ 48 (by decide)).trans (congrArg Int.ofNat (show (v % 18446744073709551616) / 281474976710656 % 256 = v / 281474976710656 % 256 by omega)),
    show IntKind.u8.wrap (shrI .u64 ((v % 18446744073709551616 : Nat) : Int) 56) = ((v / 72057594037927936 % 256 : Nat) : Int) from (byteW _ 56 (by decide)).trans (congrArg Int.ofNat (show (v % 18446744073709551616) / 72057594037927936 % 256 = v / 72057594037927936 % 256 by omega)),
    show IntKind.u8.wrap (shrI .u64 ((v / 18446744073709551616 % 18446744073709551616 : Nat) : Int) 0) = ((v / 18446744073709551616 % 256 : Nat) : Int) from (byteW _ 0 (by decide)).trans (congrArg Int.ofNat (show (v / 18446744073709551616 % 18446744073709551616) / 1 % 256 = v / 18446744073709551616 % 256 by omega)),
    show IntKind.u8.wrap (shrI .u64 ((v / 18446744073709551616 % 18446744073709551616 : Nat) : Int) 8) = ((v / 4722366482869645213696 % 256 : Nat) : Int) from (byteW _ 8 (by decide)).trans (congrArg Int.ofNat (show (v / 18446744073709551616 % 18446744073709551616) / 256 % 256 = v / 4722366482869645213696 % 256 by omega)),
    show IntKind.u8.wrap (shrI .u64 ((v / 18446744073709551616 % 18446744073709551616 : Nat) : Int) 16) = ((v / 1208925819614629174706176 % 256 : Nat) : Int) from (byteW _ 16 (by decide)).trans (congrArg Int.ofNat (show (v / 18446744073709551616 % 18446744073709551616) / 65536 % 256 = v / 1208925819614629174706176 % 256 by omega)),
    show IntKind.u8.wrap (shrI .u64 ((v / 18446744073709551616 % 18446744073709551616 : Nat) : Int) 24) = ((v / 309485009821345068724781056 % 256 : Nat) : Int) from (byteW _ 24 (by decide)).trans (congrArg Int.ofNat (show (v / 18446744073709551616 % 18446744073709551616) / 16777216 % 256 = v / 309485009821345068724781056 % 256 by omega)),
    show IntKind.u8.wrap (shrI .u64 ((v / 18446744073709551616 % 18446744073709551616 : Nat) : Int) 32) = ((v / 79228162514264337593543950336 % 256 : Nat) : Int) from (byteW _ 32 (by decide)).trans (congrArg Int.ofNat (show (v / 18446744073709551616 % 18446744073709551616) / 4294967296 % 256 = v / 79228162514264337593543950336 % 256 by omega)),
    show IntKind.u8.wrap (shrI .u64 ((v / 18446744073709551616 % 18446744073709551616 : Nat) : Int) 40) = ((v / 20282409603651670423947251286016 % 256 : Nat) : Int) from (byteW _ 40 (by decide)).trans (congrArg Int.ofNat (show (v / 18446744073709551616 % 18446744073709551616) / 1099511627776 % 256 = v / 20282409603651670423947251286016 % 256 by omega)),
    show IntKind.u8.wrap (shrI .u64 ((v / 18446744073709551616 % 18446744073709551616 : Nat) : Int) 48) = ((v / 5192296858534827628530496329220096 % 256 : Nat) : Int) from (byteW _ 48 (by decide)).trans (congrArg Int.ofNat (show (v / 18446744073709551616 % 18446744073709551616) / 281474976710656 % 256 = v / 5192296858534827628530496329220096 % 256 by omega)),
    show IntKind.u8.wrap (shrI .u64 ((v / 18446744073709551616 % 18446744073709551616 : Nat) : Int) 56) = ((v / 1329227995784915872903807060280344576 % 256 : Nat) : Int) from (byteW _ 56 (by decide)).trans (congrArg Int.ofNat (show (v / 18446744073709551616 % 18446744073709551616) / 72057594037927936 % 256 = v / 1329227995784915872903807060280344576 % 256 by omega)),
    show IntKind.u8.wrap (shrI .u64 ((v / 340282366920938463463374607431768211456 % 18446744073709551616 : Nat) : Int) 0) = ((v / 340282366920938463463374607431768211456 % 256 : Nat) : Int) from (byteW _ 0 (by decide)).trans (congrArg Int.ofNat (show (v / 340282366920938463463374607431768211456 % 18446744073709551616) / 1 % 256 = v / 340282366920938463463374607431768211456 % 256 by omega)),
    show IntKind.u8.wrap (shrI .u64 ((v / 340282366920938463463374607431768211456 % 18446744073709551616 : Nat) : Int) 8) = ((v / 87112285931760246646623899502532662132736 % 256 : Nat) : Int) from (byteW _ 8 (by decide)).trans (congrArg Int.ofNat (show (v / 340282366920938463463374607431768211456 % 18446744073709551616) / 256 % 256 = v / 87112285931760246646623899502532662132736 % 256 by omega)),
    show IntKind.u8.wrap (shrI .u64 ((v / 340282366920938463463374607431768211456 % 18446744073709551616 : Nat) : Int) 16) = ((v / 22300745198530623141535718272648361505980416 % 256 : Nat) : Int) from (byteW _ 16 (by decide)).trans (congrArg Int.ofNat (show (v / 340282366920938463463374607431768211456 % 18446744073709551616) / 65536 % 256 = v / 22300745198530623141535718272648361505980416 % 256 by omega)),
    show IntKind.u8.wrap (shrI .u64 ((v / 340282366920938463463374607431768211456 % 18446744073709551616 : Nat) : Int) 24) = ((v / 5708990770823839524233143877797980545530986496 % 256 : Nat) : Int) from (byteW _ 24 (by decide)).trans (congrArg Int.ofNat (show (v / 340282366920938463463374607431768211456 % 18446744073709551616) / 16777216 % 256 = v / 5708990770823839524233143877797980545530986496 % 256 by omega)),
    show IntKind.u8.wrap (shrI .u64 ((v / 340282366920938463463374607431768211456 % 18446744073709551616 : Nat) : Int) 32) = ((v / 1461501637330902918203684832716283019655932542976 % 256 : Nat) : Int) from (byteW _ 32 (by decide)).trans (congrArg Int.ofNat (show (v / 340282366920938463463374607431768211456 % 18446744073709551616) / 4294967296 % 256 = v / 1461501637330902918203684832716283019655932542976 % 256 by omega)),
    show IntKind.u8.wrap (shrI .u64 ((v / 340282366920938463463374607431768211456 % 18446744073709551616 : Nat) : Int) 40) = ((v / 374144419156711147060143317175368453031918731001856 % 256 : Nat) : Int) from (byteW _ 40 (by decide)).trans (congrArg Int.ofNat (show (v / 340282366920938463463374607431768211456 % 18446744073709551616) / 1099511627776 % 256 = v / 374144419156711147060143317175368453031918731001856 % 256 by omega)),
    show IntKind.u8.wrap (shrI .u64 ((v / 340282366920938463463374607431768211456 % 18446744073709551616 : Nat) : Int) 48) = ((v / 95780971304118053647396689196894323976171195136475136 % 256 : Nat) : Int) from (byteW _ 48 (by decide)).trans (congrArg Int.ofNat (show (v / 340282366920938463463374607431768211456 % 18446744073709551616) / 281474976710656 % 256 = v / 95780971304118053647396689196894323976171195136475136 % 256 by omega)),
    show IntKind.u8.wrap (shrI .u64 ((v / 340282366920938463463374607431768211456 % 18446744073709551616 : Nat) : Int) 56) = ((v / 24519928653854221733733552434404946937899825954937634816 % 256 : Nat) : Int) from (byteW _ 56 (by decide)).trans (congrArg Int.ofNat (show (v / 340282366920938463463374607431768211456 % 18446744073709551616) / 72057594037927936 % 256 = v / 24519928653854221733733552434404946937899825954937634816 % 256 by omega)),
    show IntKind.u8.wrap (shrI .u64 ((v / 6277101735386680763835789423207666416102355444464034512896 : Nat) : Int) 0) = ((v / 6277101735386680763835789423207666416102355444464034512896 % 256 : Nat) : Int) from (byteW _ 0 (by decide)).trans (congrArg Int.ofNat (show (v / 6277101735386680763835789423207666416102355444464034512896) / 1 % 256 = v / 6277101735386680763835789423207666416102355444464034512896 % 256 by omega)),
    show IntKind.u8.wrap (shrI .u64 ((v / 6277101735386680763835789423207666416102355444464034512896 : Nat) : Int) 8) = ((v / 1606938044258990275541962092341162602522202993782792835301376 % 256 : Nat) : Int) from (byteW _ 8 (by decide)).trans (congrArg Int.ofNat (show (v / 6277101735386680763835789423207666416102355444464034512896) / 256 % 256 = v / 1606938044258990275541962092341162602522202993782792835301376 % 256 by omega)),
    show IntKind.u8.wrap (shrI .u64 ((v / 6277101735386680763835789423207666416102355444464034512896 : Nat) : Int) 16) = ((v / 411376139330301510538742295639337626245683966408394965837152256 % 256 : Nat) : Int) from (byteW _ 16 (by decide)).trans (congrArg Int.ofNat (show (v / 6277101735386680763835789423207666416102355444464034512896) / 65536 % 256 = v / 411376139330301510538742295639337626245683966408394965837152256 % 256 by omega)),
    show IntKind.u8.wrap (shrI .u64 ((v / 6277101735386680763835789423207666416102355444464034512896 : Nat) : Int) 24) = ((v / 105312291668557186697918027683670432318895095400549111254310977536 % 256 : Nat) : Int) from (byteW _ 24 (by decide)).trans (congrArg Int.ofNat (show (v / 6277101735386680763835789423207666416102355444464034512896) / 16777216 % 256 = v / 105312291668557186697918027683670432318895095400549111254310977536 % 256 by omega)),
    show IntKind.u8.wrap (shrI .u64 ((v / 6277101735386680763835789423207666416102355444464034512896 : Nat) : Int) 32) = ((v / 26959946667150639794667015087019630673637144422540572481103610249216 % 256 : Nat) : Int) from (byteW _ 32 (by decide)).trans (congrArg Int.ofNat (show (v / 6277101735386680763835789423207666416102355444464034512896) / 4294967296 % 256 = v / 26959946667150639794667015087019630673637144422540572481103610249216 % 256 by omega)),
    show IntKind.u8.wrap (shrI .u64 ((v / 6277101735386680763835789423207666416102355444464034512896 : Nat) : Int) 40) = ((v / 6901746346790563787434755862277025452451108972170386555162524223799296 % 256 : Nat) : Int) from (byteW _ 40 (by decide)).trans (congrArg Int.ofNat (show (v / 6277101735386680763835789423207666416102355444464034512896) / 1099511627776 % 256 = v / 6901746346790563787434755862277025452451108972170386555162524223799296 % 256 by omega)),
    show IntKind.u8.wrap (shrI .u64 ((v / 6277101735386680763835789423207666416102355444464034512896 : Nat) : Int) 48) = ((v / 1766847064778384329583297500742918515827483896875618958121606201292619776 % 256 : Nat) : Int) from (byteW _ 48 (by decide)).trans (congrArg Int.ofNat (show (v / 6277101735386680763835789423207666416102355444464034512896) / 281474976710656 % 256 = v / 1766847064778384329583297500742918515827483896875618958121606201292619776 % 256 by omega)),
    show IntKind.u8.wrap (shrI .u64 ((v / 6277101735386680763835789423207666416102355444464034512896 : Nat) : Int) 56) = ((v / 452312848583266388373324160190187140051835877600158453279131187530910662656 % 256 : Nat) : Int) from (byteW _ 56 (by decide)).trans (congrArg Int.ofNat (show (v / 6277101735386680763835789423207666416102355444464034512896) / 72057594037927936 % 256 = v / 452312848583266388373324160190187140051835877600158453279131187530910662656 % 256 by omega))]
  rfl

/-! ### from bytes -/
def loadW (w0 w1 w2 w3 : Int) : List Int :=
  [IntKind.u64.wrap (andI .u64 w0 2251799813685247 + IntKind.u64.wrap (19 * shrI .u64 w3 63)), andI .u64 (orI .u64 (shrI .u64 w0 51) (shlI .u64 w1 13)) 2251799813685247, andI .u64 (orI .u64 (shrI .u64 w1 38) (shlI .u64 w2 26)) 2251799813685247, andI .u64 (orI .u64 (shrI .u64 w2 25) (shlI .u64 w3 39)) 2251799813685247, andI .u64 (shrI .u64 w3 12) 2251799813685247]
def word8 (x0 x1 x2 x3 x4 x5 x6 x7 : Int) : Int := (orI .u64 (orI .u64 (orI .u64 (orI .u64 (orI .u64 (orI .u64 (orI .u64 (orI .u64 0 (shlI .u64 (IntKind.u64.wrap x0) 0)) (shlI .u64 (IntKind.u64.wrap x1) 8)) (shlI .u64 (IntKind.u64.wrap x2) 16)) (shlI .u64 (IntKind.u64.wrap x3) 24)) (shlI .u64 (IntKind.u64.wrap x4) 32)) (shlI .u64 (IntKind.u64.wrap x5) 40)) (shlI .u64 (IntKind.u64.wrap x6) 48)) (shlI .u64 (IntKind.u64.wrap x7) 56))
theorem load_eq (x0 x1 x2 x3 x4 x5 x6 x7 x8 x9 x10 x11 x12 x13 x14 x15 x16 x17 x18 x19 x20 x21 x22 x23 x24 x25 x26 x27 x28 x29 x30 x31 : Int) : loadL [x0, x1, x2, x3, x4, x5, x6, x7, x8, x9, x10, x11, x12, x13, x14, x15, x16, x17, x18, x19, x20, x21, x22, x23, x24, x25, x26, x27, x28, x29, x30, x31] = loadW (word8 x0 x1 x2 x3 x4 x5 x6 x7) (word8 x8 x9 x10 x11 x12 x13 x14 x15) (word8 x16 x17 x18 x19 x20 x21 x22 x23) (word8 x24 x25 x26 x27 x28 x29 x30 x31) := by kernel_rfl
theorem word8_nat {x0 x1 x2 x3 x4 x5 x6 x7 : Nat} (h0 : x0 < 256) (h1 : x1 < 256) (h2 : x2 < 256) (h3 : x3 < 256) (h4 : x4 < 256) (h5 : x5 < 256) (h6 : x6 < 256) (h7 : x7 < 256) :
    word8 (x0 : Int) (x1 : Int) (x2 : Int) (x3 : Int) (x4 : Int) (x5 : Int) (x6 : Int) (x7 : Int) = ((x0 * 1 + x1 * 256 + x2 * 65536 + x3 * 16777216 + x4 * 4294967296 + x5 * 1099511627776 + x6 * 281474976710656 + x7 * 72057594037927936 : Nat) : Int) := by
  unfold word8
  rw [w64 (n := x0) (by omega), w64 (n := x1) (by omega), w64 (n := x2) (by omega), w64 (n := x3) (by omega), w64 (n := x4) (by omega), w64 (n := x5) (by omega), w64 (n := x6) (by omega), w64 (n := x7) (by omega)]
  rw [show (0 : Int) = ((0 : Nat) : Int) from rfl]
  rw [show orI .u64 ((0 : Nat) : Int) (shlI .u64 (x0 : Int) ((0 : Nat) : Int)) = ((0 + x0 * 1 : Nat) : Int) from (orW 0 (by decide) (by omega)).trans (congrArg Int.ofNat (show 0 + x0 % 18446744073709551616 * 1 = 0 + x0 * 1 by omega))]
  rw [show orI .u64 ((0 + x0 * 1 : Nat) : Int) (shlI .u64 (x1 : Int) 8) = ((0 + x0 * 1 + x1 * 256 : Nat) : Int) from (orW 8 (by decide) (by omega)).trans (congrArg Int.ofNat (show 0 + x0 * 1 + x1 % 72057594037927936 * 256 = 0 + x0 * 1 + x1 * 256 by omega))]
  rw [show orI .u64 ((0 + x0 * 1 + x1 * 256 : Nat) : Int) (shlI .u64 (x2 : Int) 16) = ((0 + x0 * 1 + x1 * 256 + x2 * 65536 : Nat) : Int) from (orW 16 (by decide) (by omega)).trans (congrArg Int.ofNat (show 0 + x0 * 1 + x1 * 256 + x2 % 281474976710656 * 65536 = 0 + x0 * 1 + x1 * 256 + x2 * 65536 by omega))]
  rw [show orI .u64 ((0 + x0 * 1 + x1 * 256 + x2 * 65536 : Nat) : Int) (shlI .u64 (x3 : Int) 24) = ((0 + x0 * 1 + x1 * 256 + x2 * 65536 + x3 * 16777216 : Nat) : Int) from (orW 24 (by decide) (by omega)).trans (congrArg Int.ofNat (show 0 + x0 * 1 + x1 * 256 + x2 * 65536 + x3 % 1099511627776 * 16777216 = 0 + x0 * 1 + x1 * 256 + x2 * 65536 + x3 * 16777216 by omega))]
  rw [show orI .u64 ((0 + x0 * 1 + x1 * 256 + x2 * 65536 + x3 * 16777216 : Nat) : Int) (shlI .u64 (x4 : Int) 32) = ((0 + x0 * 1 + x1 * 256 + x2 * 65536 + x3 * 16777216 + x4 * 4294967296 : Nat) : Int) from (orW 32 (by decide) (by omega)).trans (congrArg Int.ofNat (show 0 + x0 * 1 + x1 * 256 + x2 * 65536 + x3 * 16777216 + x4 % 4294967296 * 4294967296 = 0 + x0 * 1 + x1 * 256 + x2 * 65536 + x3 * 16777216 + x4 * 4294967296 by omega))]
  rw [show orI .u64 ((0 + x0 * 1 + x1 * 256 + x2 * 65536 + x3 * 16777216 + x4 * 4294967296 : Nat) : Int) (shlI .u64 (x5 : Int) 40) = ((0 + x0 * 1 + x1 * 256 + x2 * 65536 + x3 * 16777216 + x4 * 4294967296 + x5 * 1099511627776 : Nat) : Int) from (orW 40 (by decide) (by omega)).trans (congrArg Int.ofNat (show 0 + x0 * 1 + x1 * 256 + x2 * 65536 + x3 * 16777216 + x4 * 4294967296 + x5 % 16777216 * 1099511627776 = 0 + x0 * 1 + x1 * 256 + x2 * 65536 + x3 * 16777216 + x4 * 4294967296 + x5 * 1099511627776 by omega))]
  rw [show orI .u64 ((0 + x0 * 1 + x1 * 256 + x2 * 65536 + x3 * 16777216 + x4 * 4294967296 + x5 * 1099511627776 : Nat) : Int) (shlI .u64 (x6 : Int) 48) = ((0 + x0 * 1 + x1 * 256 + x2 * 65536 + x3 * 16777216 + x4 * 4294967296 + x5 * 1099511627776 + x6 * 281474976710656 : Nat) : Int) from (orW 48 (by decide) (by omega)).trans (congrArg Int.ofNat (show 0 + x0 * 1 + x1 * 256 + x2 * 65536 + x3 * 16777216 + x4 * 4294967296 + x5 * 1099511627776 + x6 % 65536 * 281474976710656 = 0 + x0 * 1 + x1 * 256 + x2 * 65536 + x3 * 16777216 + x4 * 4294967296 + x5 * 1099511627776 + x6 * 281474976710656 by omega))]
  rw [show orI .u64 ((0 + x0 * 1 + x1 * 256 + x2 * 65536 + x3 * 16777216 + x4 * 4294967296 + x5 * 1099511627776 + x6 * 281474976710656 : Nat) : Int) (shlI .u64 (x7 : Int) 56) = ((0 + x0 * 1 + x1 * 256 + x2 * 65536 + x3 * 16777216 + x4 * 4294967296 + x5 * 1099511627776 + x6 * 281474976710656 + x7 * 72057594037927936 : Nat) : Int) from (orW 56 (by decide) (by omega)).trans (congrArg Int.ofNat (show 0 + x0 * 1 + x1 * 256 + x2 * 65536 + x3 * 16777216 + x4 * 4294967296 + x5 * 1099511627776 + x6 * 281474976710656 + x7 % 256 * 72057594037927936 = 0 + x0 * 1 + x1 * 256 + x2 * 65536 + x3 * 16777216 + x4 * 4294967296 + x5 * 1099511627776 + x6 * 281474976710656 + x7 * 72057594037927936 by omega))]
  congr 1; omega

theorem loadW_el {w0 w1 w2 w3 : Nat} (h0 : w0 < 18446744073709551616) (h1 : w1 < 18446744073709551616) (h2 : w2 < 18446744073709551616) (h3 : w3 < 18446744073709551616) : El (loadW (w0 : Int) (w1 : Int) (w2 : Int) (w3 : Int)) ((w0 + 18446744073709551616 * w1 + 340282366920938463463374607431768211456 * w2 + 6277101735386680763835789423207666416102355444464034512896 * w3) % p25519) := by
  unfold loadW
  rw [and51 h0, shr51]
  rw [show shrI .u64 (w3 : Int) 63 = ((w3 / 9223372036854775808 : Nat) : Int) from shrN (k := .u64) (m := 63) (by decide) w3]
  rw [show shrI .u64 (w3 : Int) 12 = ((w3 / 4096 : Nat) : Int) from shrN (k := .u64) (m := 12) (by decide) w3]
  rw [show shrI .u64 (w1 : Int) 38 = ((w1 / 274877906944 : Nat) : Int) from shrN (k := .u64) (m := 38) (by decide) w1]
  rw [show shrI .u64 (w2 : Int) 25 = ((w2 / 33554432 : Nat) : Int) from shrN (k := .u64) (m := 25) (by decide) w2]
  rw [show orI .u64 ((w0 / 2251799813685248 : Nat) : Int) (shlI .u64 (w1 : Int) 13) = ((w0 / 2251799813685248 + w1 % 2251799813685248 * 8192 : Nat) : Int) from orW 13 (by decide) (by omega)]
  rw [show orI .u64 ((w1 / 274877906944 : Nat) : Int) (shlI .u64 (w2 : Int) 26) = ((w1 / 274877906944 + w2 % 274877906944 * 67108864 : Nat) : Int) from orW 26 (by decide) (by omega)]
  rw [show orI .u64 ((w2 / 33554432 : Nat) : Int) (shlI .u64 (w3 : Int) 39) = ((w2 / 33554432 + w3 % 33554432 * 549755813888 : Nat) : Int) from orW 39 (by decide) (by omega)]
  rw [and51 (by omega), and51 (by omega), and51 (by omega), and51 (by omega)]
  rw [show IntKind.u64.wrap (19 * ((w3 / 9223372036854775808 : Nat) : Int)) = ((19 * (w3 / 9223372036854775808) : Nat) : Int) from w64 (n := 19 * (w3 / 9223372036854775808)) (by omega)]
  rw [show IntKind.u64.wrap (((w0 % 2251799813685248 : Nat) : Int) + ((19 * (w3 / 9223372036854775808) : Nat) : Int)) = ((w0 % 2251799813685248 + 19 * (w3 / 9223372036854775808) : Nat) : Int) from w64 (n := w0 % 2251799813685248 + 19 * (w3 / 9223372036854775808)) (by omega)]
  refine ⟨_, _, _, _, _, rfl, ⟨by omega, by omega, by omega, by omega, by omega⟩, mod_of (q := w3 / 9223372036854775808) ?_⟩
  unfold val5 p25519
  omega
theorem load32 {x0 x1 x2 x3 x4 x5 x6 x7 x8 x9 x10 x11 x12 x13 x14 x15 x16 x17 x18 x19 x20 x21 x22 x23 x24 x25 x26 x27 x28 x29 x30 x31 : Nat} (h0 : x0 < 256) (h1 : x1 < 256) (h2 : x2 < 256) (h3 : x3 < 256) (h4 : x4 < 256) (h5 : x5 < 256) (h6 : x6 < 256) (h7 : x7 < 256) (h8 : x8 < 256) (h9 : x9 < 256) (h10 : x10 < 256) (h11 : x11 < 256) (h12 : x12 < 256) (h13 : x13 < 256) (h14 : x14 < 256) (h15 : x15 < 256) (h16 : x16 < 256) (h17 : x17 < 256) (h18 : x18 < 256) (h19 : x19 < 256) (h20 : x20 < 256) (h21 : x21 < 256) (h22 : x22 < 256) (h23 : x23 < 256) (h24 : x24 < 256) (h25 : x25 < 256) (h26 : x26 < 256) (h27 : x27 < 256) (h28 : x28 < 256) (h29 : x29 < 256) (h30 : x30 < 256) (h31 : x31 < 256) : El (loadL (nats [x0, x1, x2, x3, x4, x5, x6, x7, x8, x9, x10, x11, x12, x13, x14, x15, x16, x17, x18, x19, x20, x21, x22, x23, x24, x25, x26, x27, x28, x29, x30, x31])) (valB 256 [x0, x1, x2, x3, x4, x5, x6, x7, x8, x9, x10, x11, x12, x13, x14, x15, x16, x17, x18, x19, x20, x21, x22, x23, x24, x25, x26, x27, x28, x29, x30, x31] % p25519) := by
  rw [show loadL (nats [x0, x1, x2, x3, x4, x5, x6, x7, x8, x9, x10, x11, x12, x13, x14, x15, x16, x17, x18, x19, x20, x21, x22, x23, x24, x25, x26, x27, x28, x29, x30, x31]) = _ from load_eq (x0 : Int) (x1 : Int) (x2 : Int) (x3 : Int) (x4 : Int) (x5 : Int) (x6 : Int) (x7 : Int) (x8 : Int) (x9 : Int) (x10 : Int) (x11 : Int) (x12 : Int) (x13 : Int) (x14 : Int) (x15 : Int) (x16 : Int) (x17 : Int) (x18 : Int) (x19 : Int) (x20 : Int) (x21 : Int) (x22 : Int) (x23 : Int) (x24 : Int) (x25 : Int) (x26 : Int) (x27 : Int) (x28 : Int) (x29 : Int) (x30 : Int) (x31 : Int)]
  rw [word8_nat h0 h1 h2 h3 h4 h5 h6 h7, word8_nat h8 h9 h10 h11 h12 h13 h14 h15, word8_nat h16 h17 h18 h19 h20 h21 h22 h23, word8_nat h24 h25 h26 h27 h28 h29 h30 h31]
  have h := loadW_el (w0 := x0 * 1 + x1 * 256 + x2 * 65536 + x3 * 16777216 + x4 * 4294967296 + x5 * 1099511627776 + x6 * 281474976710656 + x7 * 72057594037927936) (w1 := x8 * 1 + x9 * 256 + x10 * 65536 + x11 * 16777216 + x12 * 4294967296 + x13 * 1099511627776 + x14 * 281474976710656 + x15 * 72057594037927936) (w2 := x16 * 1 + x17 * 256 + x18 * 65536 + x19 * 16777216 + x20 * 4294967296 + x21 * 1099511627776 + x22 * 281474976710656 + x23 * 72057594037927936) (w3 := x24 * 1 + x25 * 256 + x26 * 65536 + x27 * 16777216 + x28 * 4294967296 + x29 * 1099511627776 + x30 * 281474976710656 + x31 * 72057594037927936) (by omega) (by omega) (by omega) (by omega)
  refine Eq.mp (congrArg (fun n => El _ (n % p25519)) ?_) h
  simp only [valB]
  omega

theorem len32 {l : List Nat} (h : l.length = 32) : ∃ x0 x1 x2 x3 x4 x5 x6 x7 x8 x9 x10 x11 x12 x13 x14 x15 x16 x17 x18 x19 x20 x21 x22 x23 x24 x25 x26 x27 x28 x29 x30 x31, l = [x0, x1, x2, x3, x4, x5, x6, x7, x8, x9, x10, x11, x12, x13, x14, x15, x16, x17, x18, x19, x20, x21, x22, x23, x24, x25, x26, x27, x28, x29, x30, x31] := by
  match l, h with
  | [x0, x1, x2, x3, x4, x5, x6, x7, x8, x9, x10, x11, x12, x13, x14, x15, x16, x17, x18, x19, x20, x21, x22, x23, x24, x25, x26, x27, x28, x29, x30, x31], _ => exact ⟨x0, x1, x2, x3, x4, x5, x6, x7, x8, x9, x10, x11, x12, x13, x14, x15, x16, x17, x18, x19, x20, x21, x22, x23, x24, x25, x26, x27, x28, x29, x30, x31, rfl⟩

theorem load_el {l : List Nat} (hl : l.length = 32) (hb : ∀ x ∈ l, x < 256) : El (loadL (nats l)) (valB 256 l % p25519) := by
  obtain ⟨x0, x1, x2, x3, x4, x5, x6, x7, x8, x9, x10, x11, x12, x13, x14, x15, x16, x17, x18, x19, x20, x21, x22, x23, x24, x25, x26, x27, x28, x29, x30, x31, rfl⟩ := len32 hl
  simp only [List.mem_cons, List.not_mem_nil, or_false, forall_eq_or_imp, forall_eq] at hb
  obtain ⟨h0, h1, h2, h3, h4, h5, h6, h7, h8, h9, h10, h11, h12, h13, h14, h15, h16, h17, h18, h19, h20, h21, h22, h23, h24, h25, h26, h27, h28, h29, h30, h31⟩ := hb
  exact load32 h0 h1 h2 h3 h4 h5 h6 h7 h8 h9 h10 h11 h12 h13 h14 h15 h16 h17 h18 h19 h20 h21 h22 h23 h24 h25 h26 h27 h28 h29 h30 h31
end Go.Proofs.Ytcgolglcjfknpaa

/- Powers: what el.power comes to. -/
namespace Go.Proofs.Ytcgolglcjfknpaa
open Go Go.Eng
set_option maxRecDepth 100000

def powBits (x : List Int) (b : Int) : Nat → List Int → List Int
  | 0, r => r
  | j + 1, r => powBits x b j (bif andI .u8 (shrI .u8 b (j : Int)) 1 == 1 then timesL (timesL r r) x else timesL r r)
def powGo (x e : List Int) : Nat → List Int → List Int
  | 0, r => r
  | i + 1, r => powGo x e i (powBits x (e.getD i 0) 8 r)
def powL (x e : List Int) : List Int := powGo x e e.length [1, 0, 0, 0, 0]

theorem wrapI {a : Int} (h1 : -9223372036854775808 ≤ a) (h2 : a < 9223372036854775808) : IntKind.i64.wrap a = a := by
  simp [IntKind.wrap, IntKind.bits, IntKind.signed]; omega

theorem f72_in {R : Type} (N : Nat) (k1 : Bool → Int → Int → List Int → List Int → List Int → List Int → Option R) (e x z : List Int) (i : Nat) (hi : i < e.length) :
    ∀ j : Nat, j ≤ 8 → ∀ fuel, j < fuel → ∀ r, f72_2_lp N k1 fuel (i : Int) ((j : Int) - 1) e x z r = k1 false (i : Int) (-1) e x z (powBits x (e.getD i 0) j r) := by
  intro j
  induction j with
  | zero =>
    intro _ fuel hf r
    obtain ⟨f, rfl⟩ : ∃ f, fuel = f + 1 := ⟨fuel - 1, by omega⟩
    rfl
  | succ j ih =>
    intro hj fuel hf r
    obtain ⟨f, rfl⟩ : ∃ f, fuel = f + 1 := ⟨fuel - 1, by omega⟩
    rw [show ((j + 1 : Nat) : Int) - 1 = (j : Int) by omega]
    show f72_2_st N (f72_2_lp N k1 f) k1 _ _ _ _ _ _ = _
    unfold f72_2_st
    rw [show decide ((j : Int) ≥ 0) = true from decide_eq_true (by omega), show decide (0 ≤ (i : Int)) = true from decide_eq_true (by omega), show decide ((i : Int) < nI (rowLen 1 e)) = true from decide_eq_true (Int.ofNat_lt.mpr hi)]
    rw [cond_true, show (true && true) = true from rfl, cond_true, cond_true]
    dsimp only
    rw [wrapI (a := (j : Int) - 1) (by omega) (by omega), show e.getD (mulE (Int.toNat (i : Int)) 1) 0 = e.getD i 0 from rfl]
    unfold powBits
    cases (andI .u8 (shrI .u8 (e.getD i 0) (j : Int)) 1 == 1)
    · rw [cond_false, cond_false]; exact ih (by omega) f (by omega) _
    · rw [cond_true, cond_true]; exact ih (by omega) f (by omega) _

theorem f72_out {R : Type} (N : Nat) (hN : 8 < N) (k1 : Bool → Int → List Int → List Int → List Int → List Int → Option R) (e x z : List Int) (he : e.length < 9223372036854775808) :
    ∀ m : Nat, m ≤ e.length → ∀ fuel, m < fuel → ∀ r, f72_0_lp N k1 fuel ((m : Int) - 1) e x z r = k1 false (-1) e x z (powGo x e m r) := by
  intro m
  induction m with
  | zero =>
    intro _ fuel hf r
    obtain ⟨f, rfl⟩ : ∃ f, fuel = f + 1 := ⟨fuel - 1, by omega⟩
    rfl
  | succ m ih =>
    intro hm fuel hf r
    obtain ⟨f, rfl⟩ : ∃ f, fuel = f + 1 := ⟨fuel - 1, by omega⟩
    rw [show ((m + 1 : Nat) : Int) - 1 = (m : Int) by omega]
    show f72_0_st N (f72_0_lp N k1 f) k1 _ _ _ _ _ = _
    unfold f72_0_st
    rw [show decide ((m : Int) ≥ 0) = true from decide_eq_true (by omega), cond_true]
    rw [show (7 : Int) = ((8 : Nat) : Int) - 1 from rfl, f72_in N _ e x z m (by omega) 8 (by decide) N hN]
    dsimp only
    rw [wrapI (a := (m : Int) - 1) (by omega) (by omega)]
    exact ih (by omega) f (by omega) _

theorem f72_spec {R : Type} (N : Nat) (x e : List Int) (hN : e.length + 8 < N) (he : e.length < 9223372036854775808) (k : List DV → Option R) : f72_raw N x e k = k [.v (.one (.ints .u64 5 (powL x e)))] := by
  unfold f72_raw
  dsimp only
  rw [show nI (rowLen 1 e) = (e.length : Int) from rfl, wrapI (a := (e.length : Int) - 1) (by omega) (by omega)]
  rw [f72_out N (by omega) _ e x _ he e.length (Nat.le_refl _) N (by omega)]
  rfl

def I72 : (R : Type) → List DV → (List DV → Option R) → Option R := fun _ ds k => match ds with
  | [.v (.one (.ints .u64 5 x)), .lst .u8 1 e] => bif decide (e.length < 9223372036854775808) then k [.v (.one (.ints .u64 5 (powL x e)))] else none
  | _ => none
theorem c72 : Contract Try.prog 72 { sig := S72, impl := I72 } := by
  refine Contract.refine fun R ds k r h => ?_
  unfold I72 at h
  split at h
  · rename_i x e
    rcases hc : decide (e.length < 9223372036854775808) with _ | _
    · rw [hc] at h; cases h
    · rw [hc, cond_true] at h
      refine ⟨_, f72_contract (e.length + 9) GA_ok, ?_⟩
      rw [f72_raw_eq, f72_spec _ x e (by omega) (of_decide_eq_true hc)]
      exact h
  · cases h

/-! ### as numbers -/

theorem one_el : El [1, 0, 0, 0, 0] 1 := ⟨1, 0, 0, 0, 0, rfl, ⟨by decide, by decide, by decide, by decide, by decide⟩, by decide⟩

theorem bit8 {b : Nat} (hb : b < 256) (j : Nat) (hj : j ≤ 8) : andI .u8 (shrI .u8 (b : Int) (j : Int)) 1 = ((b / 2 ^ j % 2 : Nat) : Int) := by
  rw [shrN (k := .u8) hj]
  exact maskN (k := .u8) (j := 1) rfl (Nat.lt_of_le_of_lt (Nat.div_le_self _ _) hb) (by decide)

theorem powBits_el {x : List Int} {v : Nat} (hx : El x v) {b : Nat} (hb : b < 256) : ∀ (j : Nat), j ≤ 8 → ∀ {r : List Int} {w c : Nat}, El r (v ^ c % p25519) → w = c * 2 ^ j + b % 2 ^ j → El (powBits x (b : Int) j r) (v ^ w % p25519) := by
  intro j
  induction j with
  | zero => intro _ r w c hr hw; rw [Nat.pow_zero, Nat.mod_one] at hw; unfold powBits; rw [hw]; simpa using hr
  | succ j ih =>
    intro hj r w c hr hw
    unfold powBits
    rw [bit8 hb j (by omega)]
    have h2 := times_el hr hr
    rw [← Nat.mul_mod, ← Nat.pow_add] at h2
    have hb2 : b % 2 ^ (j + 1) = b / 2 ^ j % 2 * 2 ^ j + b % 2 ^ j := by
      rw [Nat.pow_succ, Nat.mod_mul, Nat.mul_comm, Nat.add_comm, Nat.mul_comm]
    rcases hc : (((b / 2 ^ j % 2 : Nat) : Int) == 1) with _ | _
    · rw [cond_false]
      refine ih (by omega) h2 ?_
      have h0 : b / 2 ^ j % 2 = 0 := by
        have : ¬ b / 2 ^ j % 2 = 1 := fun h => by rw [h] at hc; exact absurd hc (by decide)
        omega
      rw [hw, hb2, h0, Nat.pow_succ, Nat.mul_comm (2 ^ j) 2, ← Nat.mul_assoc, Nat.zero_mul, Nat.zero_add, Nat.mul_two]
    · rw [cond_true]
      have h1 : b / 2 ^ j % 2 = 1 := by rw [beq_iff_eq] at hc; omega
      have h3 := times_el h2 hx
      rw [Nat.mod_mul_mod, ← Nat.pow_succ] at h3
      refine ih (by omega) h3 ?_
      rw [hw, hb2, h1, Nat.pow_succ, Nat.mul_comm (2 ^ j) 2, ← Nat.mul_assoc, Nat.mul_two, Nat.one_mul, Nat.succ_mul]
      omega

theorem powGo_el {x : List Int} {v : Nat} (hx : El x v) {l : List Nat} (hl : ∀ b ∈ l, b < 256) : ∀ (m : Nat), m ≤ l.length → ∀ {r : List Int} {w c : Nat}, El r (v ^ c % p25519) → w = c * 256 ^ m + valB 256 (l.take m) → El (powGo x (nats l) m r) (v ^ w % p25519) := by
  intro m
  induction m with
  | zero => intro _ r w c hr hw; unfold powGo; rw [hw]; simpa [valB] using hr
  | succ m ih =>
    intro hm r w c hr hw
    unfold powGo
    rw [nats_getD]
    have hb : l.getD m 0 < 256 := by
      rw [List.getD_eq_getElem?_getD, List.getElem?_eq_getElem hm]; exact hl _ (List.getElem_mem hm)
    have h1 := powBits_el hx hb 8 (by decide) hr (w := c * 256 + l.getD m 0) (by rw [show (2 : Nat) ^ 8 = 256 from rfl, Nat.mod_eq_of_lt hb])
    refine ih (by omega) h1 ?_
    rw [hw, List.take_add_one, List.getElem?_eq_getElem hm, Option.toList_some, valB_append, List.length_take, Nat.min_eq_left (by omega)]
    rw [List.getD_eq_getElem?_getD, List.getElem?_eq_getElem hm, Option.getD_some]
    simp only [valB, Nat.mul_zero, Nat.add_zero, Nat.pow_succ, Nat.add_mul]
    rw [Nat.mul_comm (256 ^ m) 256, ← Nat.mul_assoc, Nat.mul_comm (256 ^ m)]
    omega

theorem pow_el {x : List Int} {v : Nat} (hx : El x v) {l : List Nat} (hl : ∀ b ∈ l, b < 256) : El (powL x (nats l)) (v ^ valB 256 l % p25519) := by
  unfold powL
  rw [nats_length]
  refine powGo_el hx hl l.length (Nat.le_refl _) (c := 0) (by rw [Nat.pow_zero]; exact one_el) ?_
  rw [Nat.zero_mul, Nat.zero_add, List.take_length]
end Go.Proofs.Ytcgolglcjfknpaa

/- The contexts for field's exported functions; elements as numbers. -/
namespace Go.Proofs.Ytcgolglcjfknpaa
open Go Go.Eng
set_option maxRecDepth 100000

noncomputable def GC : Ctx := [(67, { sig := S67, impl := I67 }), (73, { sig := S73, impl := I73 }), (74, { sig := S74, impl := I74 }), (94, { sig := S94, impl := I94 }), (97, { sig := S97, impl := I97 }), (66, { sig := S66, impl := I66 }), (70, { sig := S70, impl := I70 }), (72, { sig := S72, impl := I72 })]
theorem GC_ok : CtxOk Try.prog GC := ctxOk_cons ok67 rfl c67 (ctxOk_cons ok73 rfl c73 (ctxOk_cons ok74 rfl c74 (ctxOk_cons ok94 rfl c94 (ctxOk_cons ok97 rfl c97 (ctxOk_cons ok66 rfl c66 (ctxOk_cons ok70 rfl c70 (ctxOk_cons ok72 rfl c72 ctxOk_nil)))))))

/-- a thing that no reckoning looks into -/
noncomputable def stk {α : Type} (a : α) : { b : α // b = a } := Classical.choice ⟨⟨a, rfl⟩⟩
/-- a list that is an element's bytes -/
def okB (x : List Int) : Bool := decide (x.length = 32) && x.all (fun b => decide (0 ≤ b) && decide (b < 256))
/-- the number of some bytes -/
def numB (x : List Int) : Nat := valB 256 (x.map Int.toNat)
/-- the bytes of a number -/
noncomputable def feN : Nat → List Int := (stk fun v => nats (digs 256 32 v)).1
theorem feN_def (v : Nat) : feN v = nats (digs 256 32 v) := congrFun (stk fun v => nats (digs 256 32 v)).2 v

theorem nats_toNat (l : List Nat) : (nats l).map Int.toNat = l := by
  unfold nats; rw [List.map_map]; conv => rhs; rw [← List.map_id l]
  rfl
theorem okB_nats {l : List Nat} (hl : l.length = 32) (h : ∀ b ∈ l, b < 256) : okB (nats l) = true := by
  unfold okB
  rw [nats_length, decide_eq_true hl, Bool.true_and, List.all_eq_true]
  intro b hb
  unfold nats at hb
  obtain ⟨n, hn, rfl⟩ := List.mem_map.mp hb
  have := h n hn
  rw [Bool.and_eq_true]
  exact ⟨decide_eq_true (Int.natCast_nonneg n), decide_eq_true (Int.ofNat_lt.mpr this)⟩
theorem okB_feN (v : Nat) : okB (feN v) = true := by
  rw [feN_def]; exact okB_nats (digs_length _ _ _) (digs_lt (by decide))
theorem numB_nats (l : List Nat) : numB (nats l) = valB 256 l := by unfold numB; rw [nats_toNat]
theorem numB_feN (v : Nat) : numB (feN v) = v % 2 ^ 256 := by
  rw [feN_def, numB_nats, digs_val]
theorem numB_lt {v : Nat} (h : v < 2 ^ 256) : numB (feN v) = v := by rw [numB_feN, Nat.mod_eq_of_lt h]
theorem numB_mod (n : Nat) : numB (feN (n % p25519)) = n % p25519 :=
  numB_lt (Nat.lt_of_lt_of_le (Nat.mod_lt _ (by decide)) (by decide))
/-- what okB says -/
theorem okB_of {x : List Int} (h : okB x = true) : ∃ l : List Nat, x = nats l ∧ l.length = 32 ∧ ∀ b ∈ l, b < 256 := by
  unfold okB at h
  rw [Bool.and_eq_true, List.all_eq_true] at h
  obtain ⟨h1, h2⟩ := h
  have h3 : ∀ b ∈ x, 0 ≤ b ∧ b < 256 := fun b hb => by
    have := h2 b hb
    rw [Bool.and_eq_true] at this
    exact ⟨of_decide_eq_true this.1, of_decide_eq_true this.2⟩
  obtain ⟨l, rfl⟩ := nats_of (xs := x) fun b hb => (h3 b hb).1
  refine ⟨l, rfl, by rw [← nats_length]; exact of_decide_eq_true h1, fun b hb => ?_⟩
  exact Int.ofNat_lt.mp (h3 b (List.mem_map.mpr ⟨b, hb, rfl⟩)).2
theorem load_num {x : List Int} (h : okB x = true) : El (loadL x) (numB x % p25519) := by
  obtain ⟨l, rfl, h1, h2⟩ := okB_of h
  rw [numB_nats]; exact load_el h1 h2
theorem fe_num {x : List Int} {v : Nat} (h : El x v) : feL x = feN v := (fe_el h).trans (feN_def v).symm
theorem numB_bound {x : List Int} (h : okB x = true) : numB x < 2 ^ 256 := by
  obtain ⟨l, rfl, h1, h2⟩ := okB_of h
  rw [numB_nats]
  have := valB_lt (b := 256) (by decide) h2
  rw [h1] at this
  exact this
theorem feN_inj {a b : Nat} (ha : a < 2 ^ 256) (hb : b < 2 ^ 256) : feN a = feN b ↔ a = b := by
  constructor
  · intro h; rw [← numB_lt ha, ← numB_lt hb, h]
  · intro h; rw [h]
theorem feN_numB {x : List Int} (h : okB x = true) : feN (numB x) = x := by
  obtain ⟨l, rfl, h1, h2⟩ := okB_of h
  rw [numB_nats, feN_def]
  rw [← h1, digs_of (by decide) h2]
end Go.Proofs.Ytcgolglcjfknpaa

/- What (rime/field.el).inverse comes to. MADE BY PROGRAM (wip/tools/mkfn.py, EngGen.lean). -/
namespace Go.Proofs.Ytcgolglcjfknpaa
open Go Go.Eng
set_option maxRecDepth 100000
set_option linter.unusedVariables false

noncomputable def f75_raw {R : Type} (N : Nat) (x : List Int) (k : List DV → Option R) : Option R :=
 k [DV.v (SV.one (At.ints IntKind.u64 5 (powL x (nats (digs 256 32 57896044618658097711785492504343953926634992332820282019728792003956564819947)))))]


noncomputable def E75 (N : Nat) : Env := { Θ := Th, Γ := GC, K := K75, ν := N75, fuel := 60, lp := [] }


theorem f75_contract (N : Nat) (hΓ : CtxOk Try.prog GC) : Contract Try.prog 75 { sig := S75, impl := fun _ ds k => call (E75 N) S75 6 B75 R75 ds k } :=
  call_contract (E := E75 N) thOk hΓ mixed ok75.look ok75.body ok75.n ok75.rv ok75.name rfl (by decide) (loopsOk_of (l := []) (by kernel_rfl) trivial)
theorem f75_raw_eq {R : Type} (N : Nat) (x : List Int) (k : List DV → Option R) : call (E75 N) S75 6 B75 R75 [.v (.one (.ints .u64 5 x))] k = f75_raw N x k := by kernel_rfl
end Go.Proofs.Ytcgolglcjfknpaa

/- The inverse's contract; the context for the exported functions. -/
namespace Go.Proofs.Ytcgolglcjfknpaa
open Go Go.Eng
set_option maxRecDepth 100000
/-- p - 2 -/
def pm2 : Nat := 57896044618658097711785492504343953926634992332820282019728792003956564819947
def inverseL (x : List Int) : List Int := powL x (nats (digs 256 32 57896044618658097711785492504343953926634992332820282019728792003956564819947))
def I75 : (R : Type) → List DV → (List DV → Option R) → Option R := fun _ ds k => match ds with
  | [.v (.one (.ints .u64 5 x))] => k [.v (.one (.ints .u64 5 (inverseL x)))]
  | _ => none
theorem c75 : Contract Try.prog 75 { sig := S75, impl := I75 } := by
  refine Contract.refine fun R ds k r h => ⟨_, f75_contract 0 GC_ok, ?_⟩
  unfold I75 at h
  split at h
  · rw [f75_raw_eq]; exact h
  · cases h
theorem digs_lit {v : Nat} (h : v < 115792089237316195423570985008687907853269984665640564039457584007913129639936) : valB 256 (digs 256 32 v) = v := by rw [digs_val]; exact Nat.mod_eq_of_lt h
/-- the power mod p, as something that no reckoning looks into -/
noncomputable def pw : Nat → Nat → Nat := (stk fun v e => v ^ e % p25519).1
theorem pw_eq (v e : Nat) : pw v e = v ^ e % p25519 := congrFun (congrFun (stk fun v e : Nat => v ^ e % p25519).2 v) e
theorem pw_pm (v e : Nat) : pw v e = pm p25519 (e.log2 + 1) v e := (pw_eq v e).trans (pm_eq _ _ _ _ Nat.lt_log2_self).symm
theorem pw_lt (v e : Nat) : pw v e < p25519 := by rw [pw_eq]; exact Nat.mod_lt _ (by decide)
theorem pow_lit {x : List Int} {v e : Nat} (hx : El x v) (he : e < 115792089237316195423570985008687907853269984665640564039457584007913129639936) : El (powL x (nats (digs 256 32 e))) (pw v e) := by
  have := pow_el hx (l := digs 256 32 e) (digs_lt (by decide))
  rwa [digs_lit he, ← pw_eq] at this
theorem inverse_el {x : List Int} {v : Nat} (hx : El x v) : El (inverseL x) (pw v pm2) := pow_lit hx (by decide)
noncomputable def GD : Ctx := [(67, { sig := S67, impl := I67 }), (73, { sig := S73, impl := I73 }), (74, { sig := S74, impl := I74 }), (94, { sig := S94, impl := I94 }), (97, { sig := S97, impl := I97 }), (66, { sig := S66, impl := I66 }), (70, { sig := S70, impl := I70 }), (72, { sig := S72, impl := I72 }), (75, { sig := S75, impl := I75 })]
theorem GD_ok : CtxOk Try.prog GD := ctxOk_cons ok67 rfl c67 (ctxOk_cons ok73 rfl c73 (ctxOk_cons ok74 rfl c74 (ctxOk_cons ok94 rfl c94 (ctxOk_cons ok97 rfl c97 (ctxOk_cons ok66 rfl c66 (ctxOk_cons ok70 rfl c70 (ctxOk_cons ok72 rfl c72 (ctxOk_cons ok75 rfl c75 ctxOk_nil))))))))
end Go.Proofs.Ytcgolglcjfknpaa

/- What rime/field.Split comes to. MADE BY PROGRAM (wip/tools/mkfn.py, EngGen.lean). -/
namespace Go.Proofs.Ytcgolglcjfknpaa
open Go Go.Eng
set_option maxRecDepth 100000
set_option linter.unusedVariables false

noncomputable def f13_raw {R : Type} (N : Nat) (x : List Int) (k : List DV → Option R) : Option R :=
 k [DV.v (SV.one (At.ints IntKind.u64 5 (leastL (loadL x))))]


noncomputable def E13 (N : Nat) : Env := { Θ := Th, Γ := GD, K := K13, ν := N13, fuel := 60, lp := [] }


theorem f13_contract (N : Nat) (hΓ : CtxOk Try.prog GD) : Contract Try.prog 13 { sig := S13, impl := fun _ ds k => call (E13 N) S13 6 B13 R13 ds k } :=
  call_contract (E := E13 N) thOk hΓ mixed ok13.look ok13.body ok13.n ok13.rv ok13.name rfl (by decide) (loopsOk_of (l := []) (by kernel_rfl) trivial)
theorem f13_raw_eq {R : Type} (N : Nat) (x : List Int) (k : List DV → Option R) : call (E13 N) S13 6 B13 R13 [.v (.one (.ints .u8 32 x))] k = f13_raw N x k := by kernel_rfl
end Go.Proofs.Ytcgolglcjfknpaa

/- What rime/field.Join comes to. MADE BY PROGRAM (wip/tools/mkfn.py, EngGen.lean). -/
namespace Go.Proofs.Ytcgolglcjfknpaa
open Go Go.Eng
set_option maxRecDepth 100000
set_option linter.unusedVariables false

noncomputable def f15_raw {R : Type} (N : Nat) (x : List Int) (k : List DV → Option R) : Option R :=
 let v0 : Int := andI IntKind.u64 (x.getD (Int.toNat 0) 0) 2251799813685247;
let v1 : Int := IntKind.u64.wrap ((List.replicate 5 0).getD (mulE (Int.toNat 0) 1) 0 + v0);
let v2 : List Int := (List.replicate 5 0).set (mulE (Int.toNat 0) 1) v1;
let v3 : Int := IntKind.i64.wrap (0 + 1);
let v4 : Int := shrI IntKind.u64 (x.getD (Int.toNat 0) 0) 51;
let v5 : Int := IntKind.u64.wrap (v2.getD (mulE v3.toNat 1) 0 + v4);
let v6 : List Int := v2.set (mulE v3.toNat 1) v5;
let v7 : Int := andI IntKind.u64 (x.getD v3.toNat 0) 2251799813685247;
let v8 : Int := IntKind.u64.wrap (v6.getD (mulE v3.toNat 1) 0 + v7);
let v9 : List Int := v6.set (mulE v3.toNat 1) v8;
let v10 : Int := IntKind.i64.wrap (v3 + 1);
let v11 : Int := shrI IntKind.u64 (x.getD v3.toNat 0) 51;
let v12 : Int := IntKind.u64.wrap (v9.getD (mulE v10.toNat 1) 0 + v11);
let v13 : List Int := v9.set (mulE v10.toNat 1) v12;
let v14 : Int := andI IntKind.u64 (x.getD v10.toNat 0) 2251799813685247;
let v15 : Int := IntKind.u64.wrap (v13.getD (mulE v10.toNat 1) 0 + v14);
let v16 : List Int := v13.set (mulE v10.toNat 1) v15;
let v17 : Int := IntKind.i64.wrap (v10 + 1);
let v18 : Int := shrI IntKind.u64 (x.getD v10.toNat 0) 51;
let v19 : Int := IntKind.u64.wrap (v16.getD (mulE v17.toNat 1) 0 + v18);
let v20 : List Int := v16.set (mulE v17.toNat 1) v19;
let v21 : Int := andI IntKind.u64 (x.getD v17.toNat 0) 2251799813685247;
let v22 : Int := IntKind.u64.wrap (v20.getD (mulE v17.toNat 1) 0 + v21);
let v23 : List Int := v20.set (mulE v17.toNat 1) v22;
let v24 : Int := IntKind.i64.wrap (v17 + 1);
let v25 : Int := shrI IntKind.u64 (x.getD v17.toNat 0) 51;
let v26 : Int := IntKind.u64.wrap (v23.getD (mulE v24.toNat 1) 0 + v25);
let v27 : List Int := v23.set (mulE v24.toNat 1) v26;
let v28 : Int := andI IntKind.u64 (x.getD v24.toNat 0) 2251799813685247;
let v29 : Int := IntKind.u64.wrap (v27.getD (mulE v24.toNat 1) 0 + v28);
let v30 : List Int := v27.set (mulE v24.toNat 1) v29;
let v31 : Int := shrI IntKind.u64 (x.getD v24.toNat 0) 51;
let v32 : Int := IntKind.u64.wrap (19 * v31);
let v33 : Int := IntKind.u64.wrap (v30.getD (mulE (Int.toNat 0) 1) 0 + v32);
let v34 : List Int := v30.set (mulE (Int.toNat 0) 1) v33;
k [DV.v (SV.one (At.ints IntKind.u8 32 (feL v34)))]


noncomputable def E15 (N : Nat) : Env := { Θ := Th, Γ := GD, K := K15, ν := N15, fuel := 60, lp := [] }


theorem f15_contract (N : Nat) (hΓ : CtxOk Try.prog GD) : Contract Try.prog 15 { sig := S15, impl := fun _ ds k => call (E15 N) S15 40 B15 R15 ds k } :=
  call_contract (E := E15 N) thOk hΓ mixed ok15.look ok15.body ok15.n ok15.rv ok15.name rfl (by decide) (loopsOk_of (l := [(0, B15_0)]) (by kernel_rfl) (allOk_skip rfl trivial))
theorem f15_raw_eq {R : Type} (N : Nat) (x : List Int) (k : List DV → Option R) : call (E15 N) S15 40 B15 R15 [.v (.one (.ints .u64 5 x))] k = f15_raw N x k := by kernel_rfl
end Go.Proofs.Ytcgolglcjfknpaa

/- What rime/field.Power comes to. MADE BY PROGRAM (wip/tools/mkfn.py, EngGen.lean). -/
namespace Go.Proofs.Ytcgolglcjfknpaa
open Go Go.Eng
set_option maxRecDepth 100000
set_option linter.unusedVariables false

noncomputable def f18_raw {R : Type} (N : Nat) (x : List Int) (e : List Int) (k : List DV → Option R) : Option R :=
 bif Decidable.decide (e.length < 9223372036854775808) then k [DV.v (SV.one (At.ints IntKind.u8 32 (feL (powL (loadL x) e))))] else Option.none


noncomputable def E18 (N : Nat) : Env := { Θ := Th, Γ := GD, K := K18, ν := N18, fuel := 60, lp := [] }


theorem f18_contract (N : Nat) (hΓ : CtxOk Try.prog GD) : Contract Try.prog 18 { sig := S18, impl := fun _ ds k => call (E18 N) S18 10 B18 R18 ds k } :=
  call_contract (E := E18 N) thOk hΓ mixed ok18.look ok18.body ok18.n ok18.rv ok18.name rfl (by decide) (loopsOk_of (l := []) (by kernel_rfl) trivial)
theorem f18_raw_eq {R : Type} (N : Nat) (x : List Int) (e : List Int) (k : List DV → Option R) : call (E18 N) S18 10 B18 R18 [.v (.one (.ints .u8 32 x)), .lst .u8 1 e] k = f18_raw N x e k := by kernel_rfl
end Go.Proofs.Ytcgolglcjfknpaa

/- What rime/field.Legendre comes to. MADE BY PROGRAM (wip/tools/mkfn.py, EngGen.lean). -/
namespace Go.Proofs.Ytcgolglcjfknpaa
open Go Go.Eng
set_option maxRecDepth 100000
set_option linter.unusedVariables false

noncomputable def f21_raw {R : Type} (N : Nat) (x : List Int) (k : List DV → Option R) : Option R :=
 bif Decidable.decide (feL (powL (loadL x) (nats (digs 256 32 28948022309329048855892746252171976963317496166410141009864396001978282409974))) = List.replicate 32 0) then k [DV.v (SV.one (At.int IntKind.i64 0))]
else
 let v0 : List Int := (List.replicate 32 0).set 0 1;
 bif Decidable.decide (feL (powL (loadL x) (nats (digs 256 32 28948022309329048855892746252171976963317496166410141009864396001978282409974))) = v0) then k [DV.v (SV.one (At.int IntKind.i64 1))] else k [DV.v (SV.one (At.int IntKind.i64 (-1)))]


noncomputable def E21 (N : Nat) : Env := { Θ := Th, Γ := GD, K := K21, ν := N21, fuel := 60, lp := [] }


theorem f21_contract (N : Nat) (hΓ : CtxOk Try.prog GD) : Contract Try.prog 21 { sig := S21, impl := fun _ ds k => call (E21 N) S21 14 B21 R21 ds k } :=
  call_contract (E := E21 N) thOk hΓ mixed ok21.look ok21.body ok21.n ok21.rv ok21.name rfl (by decide) (loopsOk_of (l := []) (by kernel_rfl) trivial)
theorem f21_raw_eq {R : Type} (N : Nat) (x : List Int) (k : List DV → Option R) : call (E21 N) S21 14 B21 R21 [.v (.one (.ints .u8 32 x))] k = f21_raw N x k := by kernel_rfl
end Go.Proofs.Ytcgolglcjfknpaa

/- What rime/field.Equal comes to. MADE BY PROGRAM (wip/tools/mkfn.py, EngGen.lean). -/
namespace Go.Proofs.Ytcgolglcjfknpaa
open Go Go.Eng
set_option maxRecDepth 100000
set_option linter.unusedVariables false

noncomputable def f23_raw {R : Type} (N : Nat) (x : List Int) (y : List Int) (k : List DV → Option R) : Option R :=
 k [DV.v (SV.one (At.bool (Decidable.decide (feL (loadL x) = feL (loadL y)))))]


noncomputable def E23 (N : Nat) : Env := { Θ := Th, Γ := GD, K := K23, ν := N23, fuel := 60, lp := [] }


theorem f23_contract (N : Nat) (hΓ : CtxOk Try.prog GD) : Contract Try.prog 23 { sig := S23, impl := fun _ ds k => call (E23 N) S23 12 B23 R23 ds k } :=
  call_contract (E := E23 N) thOk hΓ mixed ok23.look ok23.body ok23.n ok23.rv ok23.name rfl (by decide) (loopsOk_of (l := []) (by kernel_rfl) trivial)
theorem f23_raw_eq {R : Type} (N : Nat) (x : List Int) (y : List Int) (k : List DV → Option R) : call (E23 N) S23 12 B23 R23 [.v (.one (.ints .u8 32 x)), .v (.one (.ints .u8 32 y))] k = f23_raw N x y k := by kernel_rfl
end Go.Proofs.Ytcgolglcjfknpaa

/- What rime/field.Mul comes to. MADE BY PROGRAM (wip/tools/mkfn.py, EngGen.lean). -/
namespace Go.Proofs.Ytcgolglcjfknpaa
open Go Go.Eng
set_option maxRecDepth 100000
set_option linter.unusedVariables false

noncomputable def f24_raw {R : Type} (N : Nat) (x : List Int) (y : List Int) (k : List DV → Option R) : Option R :=
 k [DV.v (SV.one (At.ints IntKind.u8 32 (feL (timesL (loadL x) (loadL y)))))]


noncomputable def E24 (N : Nat) : Env := { Θ := Th, Γ := GD, K := K24, ν := N24, fuel := 60, lp := [] }


theorem f24_contract (N : Nat) (hΓ : CtxOk Try.prog GD) : Contract Try.prog 24 { sig := S24, impl := fun _ ds k => call (E24 N) S24 11 B24 R24 ds k } :=
  call_contract (E := E24 N) thOk hΓ mixed ok24.look ok24.body ok24.n ok24.rv ok24.name rfl (by decide) (loopsOk_of (l := []) (by kernel_rfl) trivial)
theorem f24_raw_eq {R : Type} (N : Nat) (x : List Int) (y : List Int) (k : List DV → Option R) : call (E24 N) S24 11 B24 R24 [.v (.one (.ints .u8 32 x)), .v (.one (.ints .u8 32 y))] k = f24_raw N x y k := by kernel_rfl
end Go.Proofs.Ytcgolglcjfknpaa

/- What rime/field.Invert comes to. MADE BY PROGRAM (wip/tools/mkfn.py, EngGen.lean). -/
namespace Go.Proofs.Ytcgolglcjfknpaa
open Go Go.Eng
set_option maxRecDepth 100000
set_option linter.unusedVariables false

noncomputable def f25_raw {R : Type} (N : Nat) (x : List Int) (k : List DV → Option R) : Option R :=
 k [DV.v (SV.one (At.ints IntKind.u8 32 (feL (inverseL (loadL x)))))]


noncomputable def E25 (N : Nat) : Env := { Θ := Th, Γ := GD, K := K25, ν := N25, fuel := 60, lp := [] }


theorem f25_contract (N : Nat) (hΓ : CtxOk Try.prog GD) : Contract Try.prog 25 { sig := S25, impl := fun _ ds k => call (E25 N) S25 7 B25 R25 ds k } :=
  call_contract (E := E25 N) thOk hΓ mixed ok25.look ok25.body ok25.n ok25.rv ok25.name rfl (by decide) (loopsOk_of (l := []) (by kernel_rfl) trivial)
theorem f25_raw_eq {R : Type} (N : Nat) (x : List Int) (k : List DV → Option R) : call (E25 N) S25 7 B25 R25 [.v (.one (.ints .u8 32 x))] k = f25_raw N x k := by kernel_rfl
end Go.Proofs.Ytcgolglcjfknpaa

/- What rime/field.IsNegative comes to. MADE BY PROGRAM (wip/tools/mkfn.py, EngGen.lean). -/
namespace Go.Proofs.Ytcgolglcjfknpaa
open Go Go.Eng
set_option maxRecDepth 100000
set_option linter.unusedVariables false

noncomputable def f30_raw {R : Type} (N : Nat) (x : List Int) (k : List DV → Option R) : Option R :=
 let v0 : Int := andI IntKind.u8 ((feL (loadL x)).getD (Int.toNat 0) 0) 1;
k [DV.v (SV.one (At.bool (v0 == 1)))]


noncomputable def E30 (N : Nat) : Env := { Θ := Th, Γ := GD, K := K30, ν := N30, fuel := 60, lp := [] }


theorem f30_contract (N : Nat) (hΓ : CtxOk Try.prog GD) : Contract Try.prog 30 { sig := S30, impl := fun _ ds k => call (E30 N) S30 9 B30 R30 ds k } :=
  call_contract (E := E30 N) thOk hΓ mixed ok30.look ok30.body ok30.n ok30.rv ok30.name rfl (by decide) (loopsOk_of (l := []) (by kernel_rfl) trivial)
theorem f30_raw_eq {R : Type} (N : Nat) (x : List Int) (k : List DV → Option R) : call (E30 N) S30 9 B30 R30 [.v (.one (.ints .u8 32 x))] k = f30_raw N x k := by kernel_rfl
end Go.Proofs.Ytcgolglcjfknpaa

/- What rime/field.Canonical comes to. MADE BY PROGRAM (wip/tools/mkfn.py, EngGen.lean). -/
namespace Go.Proofs.Ytcgolglcjfknpaa
open Go Go.Eng
set_option maxRecDepth 100000
set_option linter.unusedVariables false

noncomputable def f41_raw {R : Type} (N : Nat) (x : List Int) (k : List DV → Option R) : Option R :=
 k [DV.v (SV.one (At.bool (Decidable.decide (feL (loadL x) = x))))]


noncomputable def E41 (N : Nat) : Env := { Θ := Th, Γ := GD, K := K41, ν := N41, fuel := 60, lp := [] }


theorem f41_contract (N : Nat) (hΓ : CtxOk Try.prog GD) : Contract Try.prog 41 { sig := S41, impl := fun _ ds k => call (E41 N) S41 8 B41 R41 ds k } :=
  call_contract (E := E41 N) thOk hΓ mixed ok41.look ok41.body ok41.n ok41.rv ok41.name rfl (by decide) (loopsOk_of (l := []) (by kernel_rfl) trivial)
theorem f41_raw_eq {R : Type} (N : Nat) (x : List Int) (k : List DV → Option R) : call (E41 N) S41 8 B41 R41 [.v (.one (.ints .u8 32 x))] k = f41_raw N x k := by kernel_rfl
end Go.Proofs.Ytcgolglcjfknpaa

/- What rime/field.Add comes to. MADE BY PROGRAM (wip/tools/mkfn.py, EngGen.lean). -/
namespace Go.Proofs.Ytcgolglcjfknpaa
open Go Go.Eng
set_option maxRecDepth 100000
set_option linter.unusedVariables false

noncomputable def f43_raw {R : Type} (N : Nat) (x : List Int) (y : List Int) (k : List DV → Option R) : Option R :=
 k [DV.v (SV.one (At.ints IntKind.u8 32 (feL (plusL (loadL x) (loadL y)))))]


noncomputable def E43 (N : Nat) : Env := { Θ := Th, Γ := GD, K := K43, ν := N43, fuel := 60, lp := [] }


theorem f43_contract (N : Nat) (hΓ : CtxOk Try.prog GD) : Contract Try.prog 43 { sig := S43, impl := fun _ ds k => call (E43 N) S43 11 B43 R43 ds k } :=
  call_contract (E := E43 N) thOk hΓ mixed ok43.look ok43.body ok43.n ok43.rv ok43.name rfl (by decide) (loopsOk_of (l := []) (by kernel_rfl) trivial)
theorem f43_raw_eq {R : Type} (N : Nat) (x : List Int) (y : List Int) (k : List DV → Option R) : call (E43 N) S43 11 B43 R43 [.v (.one (.ints .u8 32 x)), .v (.one (.ints .u8 32 y))] k = f43_raw N x y k := by kernel_rfl
end Go.Proofs.Ytcgolglcjfknpaa

/- What rime/field.Sub comes to. MADE BY PROGRAM (wip/tools/mkfn.py, EngGen.lean). -/
namespace Go.Proofs.Ytcgolglcjfknpaa
open Go Go.Eng
set_option maxRecDepth 100000
set_option linter.unusedVariables false

noncomputable def f45_raw {R : Type} (N : Nat) (x : List Int) (y : List Int) (k : List DV → Option R) : Option R :=
 k [DV.v (SV.one (At.ints IntKind.u8 32 (feL (minusL (loadL x) (loadL y)))))]


noncomputable def E45 (N : Nat) : Env := { Θ := Th, Γ := GD, K := K45, ν := N45, fuel := 60, lp := [] }


theorem f45_contract (N : Nat) (hΓ : CtxOk Try.prog GD) : Contract Try.prog 45 { sig := S45, impl := fun _ ds k => call (E45 N) S45 11 B45 R45 ds k } :=
  call_contract (E := E45 N) thOk hΓ mixed ok45.look ok45.body ok45.n ok45.rv ok45.name rfl (by decide) (loopsOk_of (l := []) (by kernel_rfl) trivial)
theorem f45_raw_eq {R : Type} (N : Nat) (x : List Int) (y : List Int) (k : List DV → Option R) : call (E45 N) S45 11 B45 R45 [.v (.one (.ints .u8 32 x)), .v (.one (.ints .u8 32 y))] k = f45_raw N x y k := by kernel_rfl
end Go.Proofs.Ytcgolglcjfknpaa

/- What rime/field.Select comes to. MADE BY PROGRAM (wip/tools/mkfn.py, EngGen.lean). -/
namespace Go.Proofs.Ytcgolglcjfknpaa
open Go Go.Eng
set_option maxRecDepth 100000
set_option linter.unusedVariables false

noncomputable def f53_raw {R : Type} (N : Nat) (x : List Int) (y : List Int) (c : Bool) (k : List DV → Option R) : Option R :=
 bif c then k [DV.v (SV.one (At.ints IntKind.u8 32 (feL (loadL y))))] else k [DV.v (SV.one (At.ints IntKind.u8 32 (feL (loadL x))))]


noncomputable def E53 (N : Nat) : Env := { Θ := Th, Γ := GD, K := K53, ν := N53, fuel := 60, lp := [] }


theorem f53_contract (N : Nat) (hΓ : CtxOk Try.prog GD) : Contract Try.prog 53 { sig := S53, impl := fun _ ds k => call (E53 N) S53 12 B53 R53 ds k } :=
  call_contract (E := E53 N) thOk hΓ mixed ok53.look ok53.body ok53.n ok53.rv ok53.name rfl (by decide) (loopsOk_of (l := []) (by kernel_rfl) trivial)
theorem f53_raw_eq {R : Type} (N : Nat) (x : List Int) (y : List Int) (c : Bool) (k : List DV → Option R) : call (E53 N) S53 12 B53 R53 [.v (.one (.ints .u8 32 x)), .v (.one (.ints .u8 32 y)), .v (.one (.bool c))] k = f53_raw N x y c k := by kernel_rfl
end Go.Proofs.Ytcgolglcjfknpaa

/- field's exported functions, as numbers. -/
namespace Go.Proofs.Ytcgolglcjfknpaa
open Go Go.Eng
set_option maxRecDepth 100000

/-- the element that some bytes stand for -/
noncomputable def vB : List Int → Nat := (stk fun x => numB x % p25519).1
theorem vB_def (x : List Int) : vB x = numB x % p25519 := congrFun (stk fun x => numB x % p25519).2 x
theorem vB_lt (x : List Int) : vB x < p25519 := by rw [vB_def]; exact Nat.mod_lt _ (by decide)
theorem load_vB {x : List Int} (h : okB x = true) : El (loadL x) (vB x) := by rw [vB_def]; exact load_num h
theorem p_lt : p25519 < 2 ^ 256 := by decide
theorem vB_feN {v : Nat} (h : v < p25519) : vB (feN v) = v := by
  rw [vB_def, numB_lt (Nat.lt_trans h p_lt), Nat.mod_eq_of_lt h]
theorem feN_eq {a b : Nat} (ha : a < p25519) (hb : b < p25519) : feN a = feN b ↔ a = b := feN_inj (Nat.lt_trans ha p_lt) (Nat.lt_trans hb p_lt)

noncomputable def addN : Nat → Nat → Nat := (stk fun a b => (a + b) % p25519).1
theorem addN_def (a b : Nat) : addN a b = (a + b) % p25519 := congrFun (congrFun (stk fun a b : Nat => (a + b) % p25519).2 a) b
noncomputable def subN : Nat → Nat → Nat := (stk fun a b => (a + (p25519 - b)) % p25519).1
theorem subN_def (a b : Nat) : subN a b = (a + (p25519 - b)) % p25519 := congrFun (congrFun (stk fun a b : Nat => (a + (p25519 - b)) % p25519).2 a) b
noncomputable def mulN : Nat → Nat → Nat := (stk fun a b => a * b % p25519).1
theorem mulN_def (a b : Nat) : mulN a b = a * b % p25519 := congrFun (congrFun (stk fun a b : Nat => a * b % p25519).2 a) b
theorem plus_N {x y : List Int} {a b : Nat} (hx : El x a) (hy : El y b) : El (plusL x y) (addN a b) := by rw [addN_def]; exact plus_el hx hy
theorem minus_N {x y : List Int} {a b : Nat} (hx : El x a) (hy : El y b) : El (minusL x y) (subN a b) := by rw [subN_def]; exact minus_el hx hy
theorem times_N {x y : List Int} {a b : Nat} (hx : El x a) (hy : El y b) : El (timesL x y) (mulN a b) := by rw [mulN_def]; exact times_el hx hy
theorem addN_lt (a b : Nat) : addN a b < p25519 := by rw [addN_def]; exact Nat.mod_lt _ (by decide)
theorem subN_lt (a b : Nat) : subN a b < p25519 := by rw [subN_def]; exact Nat.mod_lt _ (by decide)
theorem mulN_lt (a b : Nat) : mulN a b < p25519 := by rw [mulN_def]; exact Nat.mod_lt _ (by decide)
/-- (p - 1) / 2 -/
def ph : Nat := 28948022309329048855892746252171976963317496166410141009864396001978282409974
/-- Legendre's symbol, reckoned -/
noncomputable def legR (v : Nat) : Int := bif decide (pw v ph = 0) then 0 else bif decide (pw v ph = 1) then 1 else -1
noncomputable def legI : Nat → Int := (stk legR).1
theorem legI_def (v : Nat) : legI v = legR v := congrFun (stk legR).2 v
/-- bytes, any number of them -/
def okE (e : List Int) : Bool := decide (e.length < 9223372036854775808) && e.all (fun b => decide (0 ≤ b) && decide (b < 256))
theorem okE_of {e : List Int} (h : okE e = true) : e.length < 9223372036854775808 ∧ ∃ l : List Nat, e = nats l ∧ ∀ b ∈ l, b < 256 := by
  unfold okE at h
  rw [Bool.and_eq_true, List.all_eq_true] at h
  obtain ⟨h1, h2⟩ := h
  have h3 : ∀ b ∈ e, 0 ≤ b ∧ b < 256 := fun b hb => by
    have := h2 b hb
    rw [Bool.and_eq_true] at this
    exact ⟨of_decide_eq_true this.1, of_decide_eq_true this.2⟩
  obtain ⟨l, rfl⟩ := nats_of (xs := e) fun b hb => (h3 b hb).1
  exact ⟨of_decide_eq_true h1, l, rfl, fun b hb => Int.ofNat_lt.mp (h3 b (List.mem_map.mpr ⟨b, hb, rfl⟩)).2⟩
/-- words -/
def okW (x : List Int) : Bool := decide (x.length = 5) && x.all (fun b => decide (0 ≤ b) && decide (b < 18446744073709551616))
theorem okW_of {x : List Int} (h : okW x = true) : ∃ a0 a1 a2 a3 a4 : Nat, x = nats [a0, a1, a2, a3, a4] ∧ a0 < 18446744073709551616 ∧ a1 < 18446744073709551616 ∧ a2 < 18446744073709551616 ∧ a3 < 18446744073709551616 ∧ a4 < 18446744073709551616 := by
  unfold okW at h
  rw [Bool.and_eq_true, List.all_eq_true] at h
  obtain ⟨h1, h2⟩ := h
  have h3 : ∀ b ∈ x, 0 ≤ b ∧ b < 18446744073709551616 := fun b hb => by
    have := h2 b hb
    rw [Bool.and_eq_true] at this
    exact ⟨of_decide_eq_true this.1, of_decide_eq_true this.2⟩
  obtain ⟨l, rfl⟩ := nats_of (xs := x) fun b hb => (h3 b hb).1
  have hl : l.length = 5 := by rw [← nats_length]; exact of_decide_eq_true h1
  match l, hl with
  | [a0, a1, a2, a3, a4], _ =>
    have hb : ∀ n ∈ [a0, a1, a2, a3, a4], n < 18446744073709551616 := fun n hn => Int.ofNat_lt.mp (h3 n (List.mem_map.mpr ⟨n, hn, rfl⟩)).2
    exact ⟨a0, a1, a2, a3, a4, rfl, hb _ (by simp), hb _ (by simp), hb _ (by simp), hb _ (by simp), hb _ (by simp)⟩
/-- the number of some limbs -/
def numW (x : List Int) : Nat := valB 2251799813685248 (x.map Int.toNat)
/-- the limbs of a number -/
def limN (v : Nat) : List Int := nats (digs 2251799813685248 5 v)
theorem least_lim {x : List Int} {v : Nat} (h : El x v) : leastL x = limN v := by
  obtain ⟨u0, u1, u2, u3, u4, e, h0, h1, h2, h3, h4, hv⟩ := least_el h
  rw [e, ← hv, ← val5_eq]
  unfold limN
  refine congrArg nats (digs_of (b := 2251799813685248) (by decide) (l := [u0, u1, u2, u3, u4]) ?_).symm
  intro x hx
  simp only [List.mem_cons, List.not_mem_nil, or_false] at hx
  omega
theorem zero_bytes : List.replicate 32 0 = feN 0 := by rw [feN_def]; decide
theorem one_bytes : (List.replicate 32 (0 : Int)).set 0 1 = feN 1 := by rw [feN_def]; decide
theorem feN_bit (v : Nat) : (andI .u8 ((feN v).getD (Int.toNat 0) 0) 1 == 1) = (v % 2 == 1) := by
  rw [feN_def, nats_getD, digs_getD _ _ _ _ (by decide)]
  rw [show Int.toNat 0 = 0 from rfl, Nat.pow_zero, Nat.div_one]
  rw [show andI .u8 ((v % 256 : Nat) : Int) 1 = ((v % 256 % 2 : Nat) : Int) from maskN (k := .u8) (j := 1) rfl (Nat.mod_lt _ (by decide)) (by decide)]
  rw [show v % 256 % 2 = v % 2 by omega]
  rcases Nat.mod_two_eq_zero_or_one v with h | h <;> rw [h] <;> rfl
theorem sel3 {R : Type} (c1 c2 : Bool) (k : List DV → Option R) :
    (bif c1 then k [.v (.one (.int .i64 0))] else bif c2 then k [.v (.one (.int .i64 1))] else k [.v (.one (.int .i64 (-1)))]) = k [.v (.one (.int .i64 (bif c1 then 0 else bif c2 then 1 else -1)))] := by
  cases c1 <;> cases c2 <;> rfl
def joinI (a0 a1 a2 a3 a4 : Int) : List Int :=
  [IntKind.u64.wrap (IntKind.u64.wrap (0 + andI .u64 a0 2251799813685247) + IntKind.u64.wrap (19 * shrI .u64 a4 51)), IntKind.u64.wrap (IntKind.u64.wrap (0 + shrI .u64 a0 51) + andI .u64 a1 2251799813685247), IntKind.u64.wrap (IntKind.u64.wrap (0 + shrI .u64 a1 51) + andI .u64 a2 2251799813685247), IntKind.u64.wrap (IntKind.u64.wrap (0 + shrI .u64 a2 51) + andI .u64 a3 2251799813685247), IntKind.u64.wrap (IntKind.u64.wrap (0 + shrI .u64 a3 51) + andI .u64 a4 2251799813685247)]
theorem join_eq {R : Type} (a0 a1 a2 a3 a4 : Int) (k : List DV → Option R) : f15_raw 0 [a0, a1, a2, a3, a4] k = k [.v (.one (.ints .u8 32 (feL (joinI a0 a1 a2 a3 a4))))] := by kernel_rfl
theorem join_el {a0 a1 a2 a3 a4 : Nat} (h0 : a0 < 18446744073709551616) (h1 : a1 < 18446744073709551616) (h2 : a2 < 18446744073709551616) (h3 : a3 < 18446744073709551616) (h4 : a4 < 18446744073709551616) : El (joinI (a0 : Int) (a1 : Int) (a2 : Int) (a3 : Int) (a4 : Int)) (val5 a0 a1 a2 a3 a4 % p25519) := by
  unfold joinI
  rw [and51 h0, and51 h1, and51 h2, and51 h3, and51 h4, shr51, shr51, shr51, shr51, shr51]
  simp only [Int.zero_add]
  rw [w64 (n := a0 % 2251799813685248) (by omega), show IntKind.u64.wrap (19 * ((a4 / 2251799813685248 : Nat) : Int)) = ((19 * (a4 / 2251799813685248) : Nat) : Int) from w64 (n := 19 * (a4 / 2251799813685248)) (by omega), show IntKind.u64.wrap (((a0 % 2251799813685248 : Nat) : Int) + ((19 * (a4 / 2251799813685248) : Nat) : Int)) = ((a0 % 2251799813685248 + 19 * (a4 / 2251799813685248) : Nat) : Int) from w64 (n := a0 % 2251799813685248 + 19 * (a4 / 2251799813685248)) (by omega)]
  rw [w64 (n := a0 / 2251799813685248) (by omega), show IntKind.u64.wrap (((a0 / 2251799813685248 : Nat) : Int) + ((a1 % 2251799813685248 : Nat) : Int)) = ((a0 / 2251799813685248 + a1 % 2251799813685248 : Nat) : Int) from w64 (n := a0 / 2251799813685248 + a1 % 2251799813685248) (by omega)]
  rw [w64 (n := a1 / 2251799813685248) (by omega), show IntKind.u64.wrap (((a1 / 2251799813685248 : Nat) : Int) + ((a2 % 2251799813685248 : Nat) : Int)) = ((a1 / 2251799813685248 + a2 % 2251799813685248 : Nat) : Int) from w64 (n := a1 / 2251799813685248 + a2 % 2251799813685248) (by omega)]
  rw [w64 (n := a2 / 2251799813685248) (by omega), show IntKind.u64.wrap (((a2 / 2251799813685248 : Nat) : Int) + ((a3 % 2251799813685248 : Nat) : Int)) = ((a2 / 2251799813685248 + a3 % 2251799813685248 : Nat) : Int) from w64 (n := a2 / 2251799813685248 + a3 % 2251799813685248) (by omega)]
  rw [w64 (n := a3 / 2251799813685248) (by omega), show IntKind.u64.wrap (((a3 / 2251799813685248 : Nat) : Int) + ((a4 % 2251799813685248 : Nat) : Int)) = ((a3 / 2251799813685248 + a4 % 2251799813685248 : Nat) : Int) from w64 (n := a3 / 2251799813685248 + a4 % 2251799813685248) (by omega)]
  refine ⟨_, _, _, _, _, rfl, ⟨by omega, by omega, by omega, by omega, by omega⟩, mod_of (q := a4 / 2251799813685248) ?_⟩
  unfold val5 p25519
  omega

theorem f13_num {R : Type} (x : List Int) (hx : (okB x) = true) (k : List DV → Option R) : f13_raw 0 x k = k [.v (.one (.ints .u64 5 (limN (vB x))))] := by
  unfold f13_raw
  rw [least_lim (load_vB hx)]
noncomputable def I13 : (R : Type) → List DV → (List DV → Option R) → Option R := fun _ ds k => match ds with
  | [.v (.one (.ints .u8 32 x))] => bif okB x then k [.v (.one (.ints .u64 5 (limN (vB x))))] else none
  | _ => none
theorem c13 : Contract Try.prog 13 { sig := S13, impl := I13 } := by
  refine Contract.refine fun R ds k r h => ⟨_, f13_contract 0 GD_ok, ?_⟩
  unfold I13 at h
  split at h
  · rename_i x
    rcases hc : okB x with _ | _
    · rw [hc] at h; cases h
    · rw [hc, cond_true] at h
      rw [f13_raw_eq, f13_num x hc]; exact h
  · cases h

theorem f15_num {R : Type} (x : List Int) (hx : (okW x) = true) (k : List DV → Option R) : f15_raw 0 x k = k [.v (.one (.ints .u8 32 (feN (numW x % p25519))))] := by
  obtain ⟨a0, a1, a2, a3, a4, rfl, h0, h1, h2, h3, h4⟩ := okW_of hx
  rw [show numW (nats [a0, a1, a2, a3, a4]) = val5 a0 a1 a2 a3 a4 by unfold numW; rw [nats_toNat, val5_eq]]
  refine (join_eq (a0 : Int) a1 a2 a3 a4 k).trans ?_
  rw [fe_num (join_el h0 h1 h2 h3 h4)]
noncomputable def I15 : (R : Type) → List DV → (List DV → Option R) → Option R := fun _ ds k => match ds with
  | [.v (.one (.ints .u64 5 x))] => bif okW x then k [.v (.one (.ints .u8 32 (feN (numW x % p25519))))] else none
  | _ => none
theorem c15 : Contract Try.prog 15 { sig := S15, impl := I15 } := by
  refine Contract.refine fun R ds k r h => ⟨_, f15_contract 0 GD_ok, ?_⟩
  unfold I15 at h
  split at h
  · rename_i x
    rcases hc : okW x with _ | _
    · rw [hc] at h; cases h
    · rw [hc, cond_true] at h
      rw [f15_raw_eq, f15_num x hc]; exact h
  · cases h

theorem f18_num {R : Type} (x : List Int) (e : List Int) (hx : (okB x) = true) (he : (okE e) = true) (k : List DV → Option R) : f18_raw 0 x e k = k [.v (.one (.ints .u8 32 (feN (pw (vB x) (numB e)))))] := by
  obtain ⟨h1, l, rfl, h2⟩ := okE_of he
  unfold f18_raw
  rw [decide_eq_true h1, cond_true, fe_num (pow_el (load_vB hx) h2), numB_nats, ← pw_eq]
noncomputable def I18 : (R : Type) → List DV → (List DV → Option R) → Option R := fun _ ds k => match ds with
  | [.v (.one (.ints .u8 32 x)), .lst .u8 1 e] => bif okB x && okE e then k [.v (.one (.ints .u8 32 (feN (pw (vB x) (numB e)))))] else none
  | _ => none
theorem c18 : Contract Try.prog 18 { sig := S18, impl := I18 } := by
  refine Contract.refine fun R ds k r h => ⟨_, f18_contract 0 GD_ok, ?_⟩
  unfold I18 at h
  split at h
  · rename_i x e
    rcases hc : okB x && okE e with _ | _
    · rw [hc] at h; cases h
    · rw [hc, cond_true] at h
      simp only [Bool.and_eq_true] at hc
      rw [f18_raw_eq, f18_num x e hc.1 hc.2]; exact h
  · cases h

theorem f21_num {R : Type} (x : List Int) (hx : (okB x) = true) (k : List DV → Option R) : f21_raw 0 x k = k [.v (.one (.int .i64 (legI (vB x))))] := by
  unfold f21_raw
  dsimp only
  rw [one_bytes, zero_bytes, fe_num (pow_lit (load_vB hx) (by decide))]
  rw [show decide (feN (pw (vB x) 28948022309329048855892746252171976963317496166410141009864396001978282409974) = feN 0) = decide (pw (vB x) ph = 0) from decide_eq_decide.mpr (feN_eq (pw_lt _ _) (by decide)), show decide (feN (pw (vB x) 28948022309329048855892746252171976963317496166410141009864396001978282409974) = feN 1) = decide (pw (vB x) ph = 1) from decide_eq_decide.mpr (feN_eq (pw_lt _ _) (by decide))]
  rw [legI_def]
  unfold legR
  exact sel3 _ _ k
noncomputable def I21 : (R : Type) → List DV → (List DV → Option R) → Option R := fun _ ds k => match ds with
  | [.v (.one (.ints .u8 32 x))] => bif okB x then k [.v (.one (.int .i64 (legI (vB x))))] else none
  | _ => none
theorem c21 : Contract Try.prog 21 { sig := S21, impl := I21 } := by
  refine Contract.refine fun R ds k r h => ⟨_, f21_contract 0 GD_ok, ?_⟩
  unfold I21 at h
  split at h
  · rename_i x
    rcases hc : okB x with _ | _
    · rw [hc] at h; cases h
    · rw [hc, cond_true] at h
      rw [f21_raw_eq, f21_num x hc]; exact h
  · cases h

theorem f23_num {R : Type} (x : List Int) (y : List Int) (hx : (okB x) = true) (hy : (okB y) = true) (k : List DV → Option R) : f23_raw 0 x y k = k [.v (.one (.bool (decide (vB x = vB y))))] := by
  unfold f23_raw
  rw [fe_num (load_vB hx), fe_num (load_vB hy)]
  rw [show decide (feN (vB x) = feN (vB y)) = decide (vB x = vB y) from decide_eq_decide.mpr (feN_eq (vB_lt _) (vB_lt _))]
noncomputable def I23 : (R : Type) → List DV → (List DV → Option R) → Option R := fun _ ds k => match ds with
  | [.v (.one (.ints .u8 32 x)), .v (.one (.ints .u8 32 y))] => bif okB x && okB y then k [.v (.one (.bool (decide (vB x = vB y))))] else none
  | _ => none
theorem c23 : Contract Try.prog 23 { sig := S23, impl := I23 } := by
  refine Contract.refine fun R ds k r h => ⟨_, f23_contract 0 GD_ok, ?_⟩
  unfold I23 at h
  split at h
  · rename_i x y
    rcases hc : okB x && okB y with _ | _
    · rw [hc] at h; cases h
    · rw [hc, cond_true] at h
      simp only [Bool.and_eq_true] at hc
      rw [f23_raw_eq, f23_num x y hc.1 hc.2]; exact h
  · cases h

theorem f24_num {R : Type} (x : List Int) (y : List Int) (hx : (okB x) = true) (hy : (okB y) = true) (k : List DV → Option R) : f24_raw 0 x y k = k [.v (.one (.ints .u8 32 (feN (mulN (vB x) (vB y)))))] := by
  unfold f24_raw
  rw [fe_num (times_N (load_vB hx) (load_vB hy))]
noncomputable def I24 : (R : Type) → List DV → (List DV → Option R) → Option R := fun _ ds k => match ds with
  | [.v (.one (.ints .u8 32 x)), .v (.one (.ints .u8 32 y))] => bif okB x && okB y then k [.v (.one (.ints .u8 32 (feN (mulN (vB x) (vB y)))))] else none
  | _ => none
theorem c24 : Contract Try.prog 24 { sig := S24, impl := I24 } := by
  refine Contract.refine fun R ds k r h => ⟨_, f24_contract 0 GD_ok, ?_⟩
  unfold I24 at h
  split at h
  · rename_i x y
    rcases hc : okB x && okB y with _ | _
    · rw [hc] at h; cases h
    · rw [hc, cond_true] at h
      simp only [Bool.and_eq_true] at hc
      rw [f24_raw_eq, f24_num x y hc.1 hc.2]; exact h
  · cases h

theorem f25_num {R : Type} (x : List Int) (hx : (okB x) = true) (k : List DV → Option R) : f25_raw 0 x k = k [.v (.one (.ints .u8 32 (feN (pw (vB x) pm2))))] := by
  unfold f25_raw
  rw [fe_num (inverse_el (load_vB hx))]
noncomputable def I25 : (R : Type) → List DV → (List DV → Option R) → Option R := fun _ ds k => match ds with
  | [.v (.one (.ints .u8 32 x))] => bif okB x then k [.v (.one (.ints .u8 32 (feN (pw (vB x) pm2))))] else none
  | _ => none
theorem c25 : Contract Try.prog 25 { sig := S25, impl := I25 } := by
  refine Contract.refine fun R ds k r h => ⟨_, f25_contract 0 GD_ok, ?_⟩
  unfold I25 at h
  split at h
  · rename_i x
    rcases hc : okB x with _ | _
    · rw [hc] at h; cases h
    · rw [hc, cond_true] at h
      rw [f25_raw_eq, f25_num x hc]; exact h
  · cases h

theorem f30_num {R : Type} (x : List Int) (hx : (okB x) = true) (k : List DV → Option R) : f30_raw 0 x k = k [.v (.one (.bool (vB x % 2 == 1)))] := by
  unfold f30_raw
  dsimp only
  rw [fe_num (load_vB hx), feN_bit]
noncomputable def I30 : (R : Type) → List DV → (List DV → Option R) → Option R := fun _ ds k => match ds with
  | [.v (.one (.ints .u8 32 x))] => bif okB x then k [.v (.one (.bool (vB x % 2 == 1)))] else none
  | _ => none
theorem c30 : Contract Try.prog 30 { sig := S30, impl := I30 } := by
  refine Contract.refine fun R ds k r h => ⟨_, f30_contract 0 GD_ok, ?_⟩
  unfold I30 at h
  split at h
  · rename_i x
    rcases hc : okB x with _ | _
    · rw [hc] at h; cases h
    · rw [hc, cond_true] at h
      rw [f30_raw_eq, f30_num x hc]; exact h
  · cases h

theorem f41_num {R : Type} (x : List Int) (hx : (okB x) = true) (k : List DV → Option R) : f41_raw 0 x k = k [.v (.one (.bool (decide (numB x < p25519))))] := by
  unfold f41_raw
  rw [fe_num (load_vB hx)]
  rw [show decide (feN (vB x) = x) = decide (numB x < p25519) from decide_eq_decide.mpr ?_]
  constructor
  · intro h; rw [← h, numB_lt (Nat.lt_trans (vB_lt x) p_lt)]; exact vB_lt x
  · intro h; rw [vB_def, Nat.mod_eq_of_lt h, feN_numB hx]
noncomputable def I41 : (R : Type) → List DV → (List DV → Option R) → Option R := fun _ ds k => match ds with
  | [.v (.one (.ints .u8 32 x))] => bif okB x then k [.v (.one (.bool (decide (numB x < p25519))))] else none
  | _ => none
theorem c41 : Contract Try.prog 41 { sig := S41, impl := I41 } := by
  refine Contract.refine fun R ds k r h => ⟨_, f41_contract 0 GD_ok, ?_⟩
  unfold I41 at h
  split at h
  · rename_i x
    rcases hc : okB x with _ | _
    · rw [hc] at h; cases h
    · rw [hc, cond_true] at h
      rw [f41_raw_eq, f41_num x hc]; exact h
  · cases h

theorem f43_num {R : Type} (x : List Int) (y : List Int) (hx : (okB x) = true) (hy : (okB y) = true) (k : List DV → Option R) : f43_raw 0 x y k = k [.v (.one (.ints .u8 32 (feN (addN (vB x) (vB y)))))] := by
  unfold f43_raw
  rw [fe_num (plus_N (load_vB hx) (load_vB hy))]
noncomputable def I43 : (R : Type) → List DV → (List DV → Option R) → Option R := fun _ ds k => match ds with
  | [.v (.one (.ints .u8 32 x)), .v (.one (.ints .u8 32 y))] => bif okB x && okB y then k [.v (.one (.ints .u8 32 (feN (addN (vB x) (vB y)))))] else none
  | _ => none
theorem c43 : Contract Try.prog 43 { sig := S43, impl := I43 } := by
  refine Contract.refine fun R ds k r h => ⟨_, f43_contract 0 GD_ok, ?_⟩
  unfold I43 at h
  split at h
  · rename_i x y
    rcases hc : okB x && okB y with _ | _
    · rw [hc] at h; cases h
    · rw [hc, cond_true] at h
      simp only [Bool.and_eq_true] at hc
      rw [f43_raw_eq, f43_num x y hc.1 hc.2]; exact h
  · cases h

theorem f45_num {R : Type} (x : List Int) (y : List Int) (hx : (okB x) = true) (hy : (okB y) = true) (k : List DV → Option R) : f45_raw 0 x y k = k [.v (.one (.ints .u8 32 (feN (subN (vB x) (vB y)))))] := by
  unfold f45_raw
  rw [fe_num (minus_N (load_vB hx) (load_vB hy))]
noncomputable def I45 : (R : Type) → List DV → (List DV → Option R) → Option R := fun _ ds k => match ds with
  | [.v (.one (.ints .u8 32 x)), .v (.one (.ints .u8 32 y))] => bif okB x && okB y then k [.v (.one (.ints .u8 32 (feN (subN (vB x) (vB y)))))] else none
  | _ => none
theorem c45 : Contract Try.prog 45 { sig := S45, impl := I45 } := by
  refine Contract.refine fun R ds k r h => ⟨_, f45_contract 0 GD_ok, ?_⟩
  unfold I45 at h
  split at h
  · rename_i x y
    rcases hc : okB x && okB y with _ | _
    · rw [hc] at h; cases h
    · rw [hc, cond_true] at h
      simp only [Bool.and_eq_true] at hc
      rw [f45_raw_eq, f45_num x y hc.1 hc.2]; exact h
  · cases h

theorem f53_num {R : Type} (x : List Int) (y : List Int) (c : Bool) (hx : (okB x) = true) (hy : (okB y) = true) (k : List DV → Option R) : f53_raw 0 x y c k = k [.v (.one (.ints .u8 32 (feN (bif c then vB y else vB x))))] := by
  unfold f53_raw
  rw [fe_num (load_vB hx), fe_num (load_vB hy)]
  cases c <;> rfl
noncomputable def I53 : (R : Type) → List DV → (List DV → Option R) → Option R := fun _ ds k => match ds with
  | [.v (.one (.ints .u8 32 x)), .v (.one (.ints .u8 32 y)), .v (.one (.bool c))] => bif okB x && okB y then k [.v (.one (.ints .u8 32 (feN (bif c then vB y else vB x))))] else none
  | _ => none
theorem c53 : Contract Try.prog 53 { sig := S53, impl := I53 } := by
  refine Contract.refine fun R ds k r h => ⟨_, f53_contract 0 GD_ok, ?_⟩
  unfold I53 at h
  split at h
  · rename_i x y c
    rcases hc : okB x && okB y with _ | _
    · rw [hc] at h; cases h
    · rw [hc, cond_true] at h
      simp only [Bool.and_eq_true] at hc
      rw [f53_raw_eq, f53_num x y c hc.1 hc.2]; exact h
  · cases h

noncomputable def GE : Ctx := [(66, { sig := S66, impl := I66 }), (70, { sig := S70, impl := I70 }), (72, { sig := S72, impl := I72 }), (73, { sig := S73, impl := I73 }), (74, { sig := S74, impl := I74 }), (75, { sig := S75, impl := I75 }), (94, { sig := S94, impl := I94 }), (97, { sig := S97, impl := I97 }), (13, { sig := S13, impl := I13 }), (15, { sig := S15, impl := I15 }), (18, { sig := S18, impl := I18 }), (21, { sig := S21, impl := I21 }), (23, { sig := S23, impl := I23 }), (24, { sig := S24, impl := I24 }), (25, { sig := S25, impl := I25 }), (30, { sig := S30, impl := I30 }), (41, { sig := S41, impl := I41 }), (43, { sig := S43, impl := I43 }), (45, { sig := S45, impl := I45 }), (53, { sig := S53, impl := I53 })]
theorem GE_ok : CtxOk Try.prog GE := ctxOk_cons ok66 rfl c66 (ctxOk_cons ok70 rfl c70 (ctxOk_cons ok72 rfl c72 (ctxOk_cons ok73 rfl c73 (ctxOk_cons ok74 rfl c74 (ctxOk_cons ok75 rfl c75 (ctxOk_cons ok94 rfl c94 (ctxOk_cons ok97 rfl c97 (ctxOk_cons ok13 rfl c13 (ctxOk_cons ok15 rfl c15 (ctxOk_cons ok18 rfl c18 (ctxOk_cons ok21 rfl c21 (ctxOk_cons ok23 rfl c23 (ctxOk_cons ok24 rfl c24 (ctxOk_cons ok25 rfl c25 (ctxOk_cons ok30 rfl c30 (ctxOk_cons ok41 rfl c41 (ctxOk_cons ok43 rfl c43 (ctxOk_cons ok45 rfl c45 (ctxOk_cons ok53 rfl c53 ctxOk_nil)))))))))))))))))))
end Go.Proofs.Ytcgolglcjfknpaa

/- What rime/field.Neg comes to. MADE BY PROGRAM (wip/tools/mkfn.py, EngGen.lean). -/
namespace Go.Proofs.Ytcgolglcjfknpaa
open Go Go.Eng
set_option maxRecDepth 100000
set_option linter.unusedVariables false

noncomputable def f22_raw {R : Type} (N : Nat) (x : List Int) (k : List DV → Option R) : Option R :=
 bif okB (List.replicate 32 0) && okB x then k [DV.v (SV.one (At.ints IntKind.u8 32 (feN (subN (vB (List.replicate 32 0)) (vB x)))))] else Option.none


noncomputable def E22 (N : Nat) : Env := { Θ := Th, Γ := GE, K := K22, ν := N22, fuel := 60, lp := [] }


theorem f22_contract (N : Nat) (hΓ : CtxOk Try.prog GE) : Contract Try.prog 22 { sig := S22, impl := fun _ ds k => call (E22 N) S22 6 B22 R22 ds k } :=
  call_contract (E := E22 N) thOk hΓ mixed ok22.look ok22.body ok22.n ok22.rv ok22.name rfl (by decide) (loopsOk_of (l := []) (by kernel_rfl) trivial)
theorem f22_raw_eq {R : Type} (N : Nat) (x : List Int) (k : List DV → Option R) : call (E22 N) S22 6 B22 R22 [.v (.one (.ints .u8 32 x))] k = f22_raw N x k := by kernel_rfl
end Go.Proofs.Ytcgolglcjfknpaa

/- What rime/field.Square comes to. MADE BY PROGRAM (wip/tools/mkfn.py, EngGen.lean). -/
namespace Go.Proofs.Ytcgolglcjfknpaa
open Go Go.Eng
set_option maxRecDepth 100000
set_option linter.unusedVariables false

noncomputable def f42_raw {R : Type} (N : Nat) (x : List Int) (k : List DV → Option R) : Option R :=
 bif okB x && okB x then k [DV.v (SV.one (At.ints IntKind.u8 32 (feN (mulN (vB x) (vB x)))))] else Option.none


noncomputable def E42 (N : Nat) : Env := { Θ := Th, Γ := GE, K := K42, ν := N42, fuel := 60, lp := [] }


theorem f42_contract (N : Nat) (hΓ : CtxOk Try.prog GE) : Contract Try.prog 42 { sig := S42, impl := fun _ ds k => call (E42 N) S42 6 B42 R42 ds k } :=
  call_contract (E := E42 N) thOk hΓ mixed ok42.look ok42.body ok42.n ok42.rv ok42.name rfl (by decide) (loopsOk_of (l := []) (by kernel_rfl) trivial)
theorem f42_raw_eq {R : Type} (N : Nat) (x : List Int) (k : List DV → Option R) : call (E42 N) S42 6 B42 R42 [.v (.one (.ints .u8 32 x))] k = f42_raw N x k := by kernel_rfl
end Go.Proofs.Ytcgolglcjfknpaa

/- What rime/field.Double comes to. MADE BY PROGRAM (wip/tools/mkfn.py, EngGen.lean). -/
namespace Go.Proofs.Ytcgolglcjfknpaa
open Go Go.Eng
set_option maxRecDepth 100000
set_option linter.unusedVariables false

noncomputable def f48_raw {R : Type} (N : Nat) (x : List Int) (k : List DV → Option R) : Option R :=
 bif okB x && okB x then k [DV.v (SV.one (At.ints IntKind.u8 32 (feN (addN (vB x) (vB x)))))] else Option.none


noncomputable def E48 (N : Nat) : Env := { Θ := Th, Γ := GE, K := K48, ν := N48, fuel := 60, lp := [] }


theorem f48_contract (N : Nat) (hΓ : CtxOk Try.prog GE) : Contract Try.prog 48 { sig := S48, impl := fun _ ds k => call (E48 N) S48 6 B48 R48 ds k } :=
  call_contract (E := E48 N) thOk hΓ mixed ok48.look ok48.body ok48.n ok48.rv ok48.name rfl (by decide) (loopsOk_of (l := []) (by kernel_rfl) trivial)
theorem f48_raw_eq {R : Type} (N : Nat) (x : List Int) (k : List DV → Option R) : call (E48 N) S48 6 B48 R48 [.v (.one (.ints .u8 32 x))] k = f48_raw N x k := by kernel_rfl
end Go.Proofs.Ytcgolglcjfknpaa

/- What rime/field.FromInt comes to. MADE BY PROGRAM (wip/tools/mkfn.py, EngGen.lean). -/
namespace Go.Proofs.Ytcgolglcjfknpaa
open Go Go.Eng
set_option maxRecDepth 100000
set_option linter.unusedVariables false

noncomputable def f55_raw {R : Type} (N : Nat) (x : Int) (k : List DV → Option R) : Option R :=
 let v0 : List Int := (List.replicate 5 0).set 0 x;
bif okW v0 then k [DV.v (SV.one (At.ints IntKind.u8 32 (feN (numW v0 % p25519))))] else Option.none


noncomputable def E55 (N : Nat) : Env := { Θ := Th, Γ := GE, K := K55, ν := N55, fuel := 60, lp := [] }


theorem f55_contract (N : Nat) (hΓ : CtxOk Try.prog GE) : Contract Try.prog 55 { sig := S55, impl := fun _ ds k => call (E55 N) S55 6 B55 R55 ds k } :=
  call_contract (E := E55 N) thOk hΓ mixed ok55.look ok55.body ok55.n ok55.rv ok55.name rfl (by decide) (loopsOk_of (l := []) (by kernel_rfl) trivial)
theorem f55_raw_eq {R : Type} (N : Nat) (x : Int) (k : List DV → Option R) : call (E55 N) S55 6 B55 R55 [.v (.one (.int .u64 x))] k = f55_raw N x k := by kernel_rfl
end Go.Proofs.Ytcgolglcjfknpaa

/- field's exported functions, as numbers, go on. -/
namespace Go.Proofs.Ytcgolglcjfknpaa
open Go Go.Eng
set_option maxRecDepth 100000

def okU (x : Int) : Bool := decide (0 ≤ x) && decide (x < 18446744073709551616)
theorem okU_of {x : Int} (h : okU x = true) : ∃ n : Nat, x = (n : Int) ∧ n < 18446744073709551616 := by
  unfold okU at h
  rw [Bool.and_eq_true] at h
  have h1 := of_decide_eq_true h.1
  have h2 := of_decide_eq_true h.2
  exact ⟨x.toNat, by omega, by omega⟩
theorem okB_zero : okB (List.replicate 32 0) = true := by decide
theorem vB_zero : vB (List.replicate 32 0) = 0 := by rw [vB_def]; decide

theorem f22_num {R : Type} (x : List Int) (hx : (okB x) = true) (k : List DV → Option R) : f22_raw 0 x k = k [.v (.one (.ints .u8 32 (feN (subN 0 (vB x)))))] := by
  unfold f22_raw
  rw [okB_zero, hx, vB_zero]; rfl
noncomputable def I22 : (R : Type) → List DV → (List DV → Option R) → Option R := fun _ ds k => match ds with
  | [.v (.one (.ints .u8 32 x))] => bif okB x then k [.v (.one (.ints .u8 32 (feN (subN 0 (vB x)))))] else none
  | _ => none
theorem c22 : Contract Try.prog 22 { sig := S22, impl := I22 } := by
  refine Contract.refine fun R ds k r h => ⟨_, f22_contract 0 GE_ok, ?_⟩
  unfold I22 at h
  split at h
  · rename_i x
    rcases hc : okB x with _ | _
    · rw [hc] at h; cases h
    · rw [hc, cond_true] at h
      rw [f22_raw_eq, f22_num x hc]; exact h
  · cases h

theorem f42_num {R : Type} (x : List Int) (hx : (okB x) = true) (k : List DV → Option R) : f42_raw 0 x k = k [.v (.one (.ints .u8 32 (feN (mulN (vB x) (vB x)))))] := by
  unfold f42_raw
  rw [hx]; rfl
noncomputable def I42 : (R : Type) → List DV → (List DV → Option R) → Option R := fun _ ds k => match ds with
  | [.v (.one (.ints .u8 32 x))] => bif okB x then k [.v (.one (.ints .u8 32 (feN (mulN (vB x) (vB x)))))] else none
  | _ => none
theorem c42 : Contract Try.prog 42 { sig := S42, impl := I42 } := by
  refine Contract.refine fun R ds k r h => ⟨_, f42_contract 0 GE_ok, ?_⟩
  unfold I42 at h
  split at h
  · rename_i x
    rcases hc : okB x with _ | _
    · rw [hc] at h; cases h
    · rw [hc, cond_true] at h
      rw [f42_raw_eq, f42_num x hc]; exact h
  · cases h

theorem f48_num {R : Type} (x : List Int) (hx : (okB x) = true) (k : List DV → Option R) : f48_raw 0 x k = k [.v (.one (.ints .u8 32 (feN (addN (vB x) (vB x)))))] := by
  unfold f48_raw
  rw [hx]; rfl
noncomputable def I48 : (R : Type) → List DV → (List DV → Option R) → Option R := fun _ ds k => match ds with
  | [.v (.one (.ints .u8 32 x))] => bif okB x then k [.v (.one (.ints .u8 32 (feN (addN (vB x) (vB x)))))] else none
  | _ => none
theorem c48 : Contract Try.prog 48 { sig := S48, impl := I48 } := by
  refine Contract.refine fun R ds k r h => ⟨_, f48_contract 0 GE_ok, ?_⟩
  unfold I48 at h
  split at h
  · rename_i x
    rcases hc : okB x with _ | _
    · rw [hc] at h; cases h
    · rw [hc, cond_true] at h
      rw [f48_raw_eq, f48_num x hc]; exact h
  · cases h

theorem f55_num {R : Type} (x : Int) (hx : (okU x) = true) (k : List DV → Option R) : f55_raw 0 x k = k [.v (.one (.ints .u8 32 (feN (x.toNat))))] := by
  obtain ⟨n, rfl, hn⟩ := okU_of hx
  have e1 : okW ((List.replicate 5 0).set 0 (n : Int)) = true := by
    show (decide (_ = 5) && (((decide (0 ≤ (n : Int)) && decide ((n : Int) < 18446744073709551616)) && (List.all [0, 0, 0, 0] fun b => decide (0 ≤ b) && decide (b < (18446744073709551616 : Int)))))) = true
    rw [decide_eq_true (Int.natCast_nonneg n), decide_eq_true (show (n : Int) < 18446744073709551616 by omega)]
    rfl
  have e2 : numW ((List.replicate 5 0).set 0 (n : Int)) = n := by
    show valB 2251799813685248 [(n : Int).toNat, 0, 0, 0, 0] = n
    simp [valB]
  unfold f55_raw
  dsimp only
  rw [e1, cond_true, e2, Nat.mod_eq_of_lt (Nat.lt_trans hn (by decide))]
  rfl
noncomputable def I55 : (R : Type) → List DV → (List DV → Option R) → Option R := fun _ ds k => match ds with
  | [.v (.one (.int .u64 x))] => bif okU x then k [.v (.one (.ints .u8 32 (feN (x.toNat))))] else none
  | _ => none
theorem c55 : Contract Try.prog 55 { sig := S55, impl := I55 } := by
  refine Contract.refine fun R ds k r h => ⟨_, f55_contract 0 GE_ok, ?_⟩
  unfold I55 at h
  split at h
  · rename_i x
    rcases hc : okU x with _ | _
    · rw [hc] at h; cases h
    · rw [hc, cond_true] at h
      rw [f55_raw_eq, f55_num x hc]; exact h
  · cases h

noncomputable def GF : Ctx := [(66, { sig := S66, impl := I66 }), (70, { sig := S70, impl := I70 }), (72, { sig := S72, impl := I72 }), (73, { sig := S73, impl := I73 }), (74, { sig := S74, impl := I74 }), (75, { sig := S75, impl := I75 }), (94, { sig := S94, impl := I94 }), (97, { sig := S97, impl := I97 }), (13, { sig := S13, impl := I13 }), (15, { sig := S15, impl := I15 }), (18, { sig := S18, impl := I18 }), (21, { sig := S21, impl := I21 }), (23, { sig := S23, impl := I23 }), (24, { sig := S24, impl := I24 }), (25, { sig := S25, impl := I25 }), (30, { sig := S30, impl := I30 }), (41, { sig := S41, impl := I41 }), (43, { sig := S43, impl := I43 }), (45, { sig := S45, impl := I45 }), (53, { sig := S53, impl := I53 }), (22, { sig := S22, impl := I22 }), (42, { sig := S42, impl := I42 }), (48, { sig := S48, impl := I48 }), (55, { sig := S55, impl := I55 })]
theorem GF_ok : CtxOk Try.prog GF := ctxOk_cons ok66 rfl c66 (ctxOk_cons ok70 rfl c70 (ctxOk_cons ok72 rfl c72 (ctxOk_cons ok73 rfl c73 (ctxOk_cons ok74 rfl c74 (ctxOk_cons ok75 rfl c75 (ctxOk_cons ok94 rfl c94 (ctxOk_cons ok97 rfl c97 (ctxOk_cons ok13 rfl c13 (ctxOk_cons ok15 rfl c15 (ctxOk_cons ok18 rfl c18 (ctxOk_cons ok21 rfl c21 (ctxOk_cons ok23 rfl c23 (ctxOk_cons ok24 rfl c24 (ctxOk_cons ok25 rfl c25 (ctxOk_cons ok30 rfl c30 (ctxOk_cons ok41 rfl c41 (ctxOk_cons ok43 rfl c43 (ctxOk_cons ok45 rfl c45 (ctxOk_cons ok53 rfl c53 (ctxOk_cons ok22 rfl c22 (ctxOk_cons ok42 rfl c42 (ctxOk_cons ok48 rfl c48 (ctxOk_cons ok55 rfl c55 ctxOk_nil)))))))))))))))))))))))
end Go.Proofs.Ytcgolglcjfknpaa

/- What rime/field.Abs comes to. MADE BY PROGRAM (wip/tools/mkfn.py, EngGen.lean). -/
namespace Go.Proofs.Ytcgolglcjfknpaa
open Go Go.Eng
set_option maxRecDepth 100000
set_option linter.unusedVariables false

noncomputable def f32_raw {R : Type} (N : Nat) (x : List Int) (k : List DV → Option R) : Option R :=
 bif okB x then
 bif okB x then
 bif okB x && okB (feN (subN 0 (vB x))) then
 let v0 : Nat := bif vB x % 2 == 1 then vB (feN (subN 0 (vB x))) else vB x;
 k [DV.v (SV.one (At.ints IntKind.u8 32 (feN v0)))]
 else Option.none
 else Option.none
else Option.none


noncomputable def E32 (N : Nat) : Env := { Θ := Th, Γ := GF, K := K32, ν := N32, fuel := 60, lp := [] }


theorem f32_contract (N : Nat) (hΓ : CtxOk Try.prog GF) : Contract Try.prog 32 { sig := S32, impl := fun _ ds k => call (E32 N) S32 9 B32 R32 ds k } :=
  call_contract (E := E32 N) thOk hΓ mixed ok32.look ok32.body ok32.n ok32.rv ok32.name rfl (by decide) (loopsOk_of (l := []) (by kernel_rfl) trivial)
theorem f32_raw_eq {R : Type} (N : Nat) (x : List Int) (k : List DV → Option R) : call (E32 N) S32 9 B32 R32 [.v (.one (.ints .u8 32 x))] k = f32_raw N x k := by kernel_rfl
end Go.Proofs.Ytcgolglcjfknpaa

/- What rime/field.D comes to. MADE BY PROGRAM (wip/tools/mkfn.py, EngGen.lean). -/
namespace Go.Proofs.Ytcgolglcjfknpaa
open Go Go.Eng
set_option maxRecDepth 100000
set_option linter.unusedVariables false

noncomputable def f37_raw {R : Type} (N : Nat)  (k : List DV → Option R) : Option R :=
 bif okB (feN (Int.toNat 121666)) then bif okB (feN (Int.toNat 121665)) && okB (feN (pw (vB (feN (Int.toNat 121666))) pm2)) then bif okB (feN (mulN (vB (feN (Int.toNat 121665))) (vB (feN (pw (vB (feN (Int.toNat 121666))) pm2))))) then k [DV.v (SV.one (At.ints IntKind.u8 32 (feN (subN 0 (vB (feN (mulN (vB (feN (Int.toNat 121665))) (vB (feN (pw (vB (feN (Int.toNat 121666))) pm2))))))))))] else Option.none else Option.none else Option.none


noncomputable def E37 (N : Nat) : Env := { Θ := Th, Γ := GF, K := K37, ν := N37, fuel := 60, lp := [] }


theorem f37_contract (N : Nat) (hΓ : CtxOk Try.prog GF) : Contract Try.prog 37 { sig := S37, impl := fun _ ds k => call (E37 N) S37 6 B37 R37 ds k } :=
  call_contract (E := E37 N) thOk hΓ mixed ok37.look ok37.body ok37.n ok37.rv ok37.name rfl (by decide) (loopsOk_of (l := []) (by kernel_rfl) trivial)
theorem f37_raw_eq {R : Type} (N : Nat)  (k : List DV → Option R) : call (E37 N) S37 6 B37 R37 [] k = f37_raw N  k := by kernel_rfl
end Go.Proofs.Ytcgolglcjfknpaa

/- field's exported functions, as numbers: Abs, D. -/
namespace Go.Proofs.Ytcgolglcjfknpaa
open Go Go.Eng
set_option maxRecDepth 100000

noncomputable def absN : Nat → Nat := (stk fun v => bif v % 2 == 1 then subN 0 v else v).1
theorem absN_def (v : Nat) : absN v = bif v % 2 == 1 then subN 0 v else v := congrFun (stk fun v => bif v % 2 == 1 then subN 0 v else v).2 v
theorem absN_lt {v : Nat} (h : v < p25519) : absN v < p25519 := by
  rw [absN_def]; cases (v % 2 == 1)
  · exact h
  · exact subN_lt _ _
/-- the curve's d -/
def dN : Nat := 37095705934669439343138083508754565189542113879843219016388785533085940283555
/-- a root of -1 -/
def iN : Nat := 19681161376707505956807079304988542015446066515923890162744021073123829784752

theorem f32_num {R : Type} (x : List Int) (hx : (okB x) = true) (k : List DV → Option R) : f32_raw 0 x k = k [.v (.one (.ints .u8 32 (feN (absN (vB x)))))] := by
  unfold f32_raw
  rw [hx, okB_feN, vB_feN (subN_lt _ _), absN_def]; rfl
noncomputable def I32 : (R : Type) → List DV → (List DV → Option R) → Option R := fun _ ds k => match ds with
  | [.v (.one (.ints .u8 32 x))] => bif okB x then k [.v (.one (.ints .u8 32 (feN (absN (vB x)))))] else none
  | _ => none
theorem c32 : Contract Try.prog 32 { sig := S32, impl := I32 } := by
  refine Contract.refine fun R ds k r h => ⟨_, f32_contract 0 GF_ok, ?_⟩
  unfold I32 at h
  split at h
  · rename_i x
    rcases hc : okB x with _ | _
    · rw [hc] at h; cases h
    · rw [hc, cond_true] at h
      rw [f32_raw_eq, f32_num x hc]; exact h
  · cases h

theorem f37_num {R : Type}   (k : List DV → Option R) : f37_raw 0  k = k [.v (.one (.ints .u8 32 (feN (dN))))] := by
  unfold f37_raw
  simp only [okB_feN, cond_true, Bool.and_self]
  rw [vB_feN (v := Int.toNat 121665) (by decide), vB_feN (v := Int.toNat 121666) (by decide), vB_feN (pw_lt _ _), vB_feN (mulN_lt _ _)]
  rw [show subN 0 (mulN (Int.toNat 121665) (pw (Int.toNat 121666) pm2)) = dN by rw [subN_def, mulN_def, pw_pm]; decide +kernel]
noncomputable def I37 : (R : Type) → List DV → (List DV → Option R) → Option R := fun _ ds k => match ds with
  | [] => k [.v (.one (.ints .u8 32 (feN (dN))))]
  | _ => none
theorem c37 : Contract Try.prog 37 { sig := S37, impl := I37 } := by
  refine Contract.refine fun R ds k r h => ⟨_, f37_contract 0 GF_ok, ?_⟩
  unfold I37 at h
  split at h
  · rw [f37_raw_eq, f37_num]; exact h
  · cases h

noncomputable def GG : Ctx := [(66, { sig := S66, impl := I66 }), (70, { sig := S70, impl := I70 }), (72, { sig := S72, impl := I72 }), (73, { sig := S73, impl := I73 }), (74, { sig := S74, impl := I74 }), (75, { sig := S75, impl := I75 }), (94, { sig := S94, impl := I94 }), (97, { sig := S97, impl := I97 }), (13, { sig := S13, impl := I13 }), (15, { sig := S15, impl := I15 }), (18, { sig := S18, impl := I18 }), (21, { sig := S21, impl := I21 }), (23, { sig := S23, impl := I23 }), (24, { sig := S24, impl := I24 }), (25, { sig := S25, impl := I25 }), (30, { sig := S30, impl := I30 }), (41, { sig := S41, impl := I41 }), (43, { sig := S43, impl := I43 }), (45, { sig := S45, impl := I45 }), (53, { sig := S53, impl := I53 }), (22, { sig := S22, impl := I22 }), (42, { sig := S42, impl := I42 }), (48, { sig := S48, impl := I48 }), (55, { sig := S55, impl := I55 }), (32, { sig := S32, impl := I32 }), (37, { sig := S37, impl := I37 })]
theorem GG_ok : CtxOk Try.prog GG := ctxOk_cons ok66 rfl c66 (ctxOk_cons ok70 rfl c70 (ctxOk_cons ok72 rfl c72 (ctxOk_cons ok73 rfl c73 (ctxOk_cons ok74 rfl c74 (ctxOk_cons ok75 rfl c75 (ctxOk_cons ok94 rfl c94 (ctxOk_cons ok97 rfl c97 (ctxOk_cons ok13 rfl c13 (ctxOk_cons ok15 rfl c15 (ctxOk_cons ok18 rfl c18 (ctxOk_cons ok21 rfl c21 (ctxOk_cons ok23 rfl c23 (ctxOk_cons ok24 rfl c24 (ctxOk_cons ok25 rfl c25 (ctxOk_cons ok30 rfl c30 (ctxOk_cons ok41 rfl c41 (ctxOk_cons ok43 rfl c43 (ctxOk_cons ok45 rfl c45 (ctxOk_cons ok53 rfl c53 (ctxOk_cons ok22 rfl c22 (ctxOk_cons ok42 rfl c42 (ctxOk_cons ok48 rfl c48 (ctxOk_cons ok55 rfl c55 (ctxOk_cons ok32 rfl c32 (ctxOk_cons ok37 rfl c37 ctxOk_nil)))))))))))))))))))))))))
end Go.Proofs.Ytcgolglcjfknpaa

/- What rime/field.SqrtM1 comes to. MADE BY PROGRAM (wip/tools/mkfn.py, EngGen.lean). -/
namespace Go.Proofs.Ytcgolglcjfknpaa
open Go Go.Eng
set_option maxRecDepth 100000
set_option linter.unusedVariables false

noncomputable def f39_raw {R : Type} (N : Nat)  (k : List DV → Option R) : Option R :=
 bif okB (feL (powL (loadL (feN (Int.toNat 2))) (nats (digs 256 32 14474011154664524427946373126085988481658748083205070504932198000989141204987)))) then k [DV.v (SV.one (At.ints IntKind.u8 32 (feN (absN (vB (feL (powL (loadL (feN (Int.toNat 2))) (nats (digs 256 32 14474011154664524427946373126085988481658748083205070504932198000989141204987)))))))))] else Option.none


noncomputable def E39 (N : Nat) : Env := { Θ := Th, Γ := GG, K := K39, ν := N39, fuel := 60, lp := [] }


theorem f39_contract (N : Nat) (hΓ : CtxOk Try.prog GG) : Contract Try.prog 39 { sig := S39, impl := fun _ ds k => call (E39 N) S39 7 B39 R39 ds k } :=
  call_contract (E := E39 N) thOk hΓ mixed ok39.look ok39.body ok39.n ok39.rv ok39.name rfl (by decide) (loopsOk_of (l := []) (by kernel_rfl) trivial)
theorem f39_raw_eq {R : Type} (N : Nat)  (k : List DV → Option R) : call (E39 N) S39 7 B39 R39 [] k = f39_raw N  k := by kernel_rfl
end Go.Proofs.Ytcgolglcjfknpaa

/- field's exported functions, as numbers: SqrtM1. -/
namespace Go.Proofs.Ytcgolglcjfknpaa
open Go Go.Eng
set_option maxRecDepth 100000

theorem f39_num {R : Type}   (k : List DV → Option R) : f39_raw 0  k = k [.v (.one (.ints .u8 32 (feN (iN))))] := by
  unfold f39_raw
  simp only [fe_num (pow_lit (load_vB (okB_feN _)) (by decide : 14474011154664524427946373126085988481658748083205070504932198000989141204987 < _)), okB_feN, cond_true]
  rw [vB_feN (v := Int.toNat 2) (by decide), vB_feN (pw_lt _ _)]
  rw [show absN (pw (Int.toNat 2) 14474011154664524427946373126085988481658748083205070504932198000989141204987) = iN by rw [absN_def, subN_def, pw_pm]; decide +kernel]
noncomputable def I39 : (R : Type) → List DV → (List DV → Option R) → Option R := fun _ ds k => match ds with
  | [] => k [.v (.one (.ints .u8 32 (feN (iN))))]
  | _ => none
theorem c39 : Contract Try.prog 39 { sig := S39, impl := I39 } := by
  refine Contract.refine fun R ds k r h => ⟨_, f39_contract 0 GG_ok, ?_⟩
  unfold I39 at h
  split at h
  · rw [f39_raw_eq, f39_num]; exact h
  · cases h

noncomputable def GH : Ctx := [(66, { sig := S66, impl := I66 }), (70, { sig := S70, impl := I70 }), (72, { sig := S72, impl := I72 }), (73, { sig := S73, impl := I73 }), (74, { sig := S74, impl := I74 }), (75, { sig := S75, impl := I75 }), (94, { sig := S94, impl := I94 }), (97, { sig := S97, impl := I97 }), (13, { sig := S13, impl := I13 }), (15, { sig := S15, impl := I15 }), (18, { sig := S18, impl := I18 }), (21, { sig := S21, impl := I21 }), (23, { sig := S23, impl := I23 }), (24, { sig := S24, impl := I24 }), (25, { sig := S25, impl := I25 }), (30, { sig := S30, impl := I30 }), (41, { sig := S41, impl := I41 }), (43, { sig := S43, impl := I43 }), (45, { sig := S45, impl := I45 }), (53, { sig := S53, impl := I53 }), (22, { sig := S22, impl := I22 }), (42, { sig := S42, impl := I42 }), (48, { sig := S48, impl := I48 }), (55, { sig := S55, impl := I55 }), (32, { sig := S32, impl := I32 }), (37, { sig := S37, impl := I37 }), (39, { sig := S39, impl := I39 })]
theorem GH_ok : CtxOk Try.prog GH := ctxOk_cons ok66 rfl c66 (ctxOk_cons ok70 rfl c70 (ctxOk_cons ok72 rfl c72 (ctxOk_cons ok73 rfl c73 (ctxOk_cons ok74 rfl c74 (ctxOk_cons ok75 rfl c75 (ctxOk_cons ok94 rfl c94 (ctxOk_cons ok97 rfl c97 (ctxOk_cons ok13 rfl c13 (ctxOk_cons ok15 rfl c15 (ctxOk_cons ok18 rfl c18 (ctxOk_cons ok21 rfl c21 (ctxOk_cons ok23 rfl c23 (ctxOk_cons ok24 rfl c24 (ctxOk_cons ok25 rfl c25 (ctxOk_cons ok30 rfl c30 (ctxOk_cons ok41 rfl c41 (ctxOk_cons ok43 rfl c43 (ctxOk_cons ok45 rfl c45 (ctxOk_cons ok53 rfl c53 (ctxOk_cons ok22 rfl c22 (ctxOk_cons ok42 rfl c42 (ctxOk_cons ok48 rfl c48 (ctxOk_cons ok55 rfl c55 (ctxOk_cons ok32 rfl c32 (ctxOk_cons ok37 rfl c37 (ctxOk_cons ok39 rfl c39 ctxOk_nil))))))))))))))))))))))))))
end Go.Proofs.Ytcgolglcjfknpaa

/- What rime/field.SqrtRatio comes to. MADE BY PROGRAM (wip/tools/mkfn.py, EngGen.lean). -/
namespace Go.Proofs.Ytcgolglcjfknpaa
open Go Go.Eng
set_option maxRecDepth 100000
set_option linter.unusedVariables false

noncomputable def f35_raw {R : Type} (N : Nat) (x : List Int) (y : List Int) (k : List DV → Option R) : Option R :=
 bif Decidable.decide (feL (timesL (timesL (timesL (timesL (loadL x) (timesL (timesL (loadL y) (loadL y)) (loadL y))) (powL (timesL (timesL (timesL (loadL x) (timesL (timesL (loadL y) (loadL y)) (loadL y))) (timesL (timesL (loadL y) (loadL y)) (loadL y))) (loadL y)) (nats (digs 256 32 7237005577332262213973186563042994240829374041602535252466099000494570602493)))) (timesL (timesL (loadL x) (timesL (timesL (loadL y) (loadL y)) (loadL y))) (powL (timesL (timesL (timesL (loadL x) (timesL (timesL (loadL y) (loadL y)) (loadL y))) (timesL (timesL (loadL y) (loadL y)) (loadL y))) (loadL y)) (nats (digs 256 32 7237005577332262213973186563042994240829374041602535252466099000494570602493))))) (loadL y)) = feL (loadL x)) then bif okB (feL (timesL (timesL (loadL x) (timesL (timesL (loadL y) (loadL y)) (loadL y))) (powL (timesL (timesL (timesL (loadL x) (timesL (timesL (loadL y) (loadL y)) (loadL y))) (timesL (timesL (loadL y) (loadL y)) (loadL y))) (loadL y)) (nats (digs 256 32 7237005577332262213973186563042994240829374041602535252466099000494570602493))))) then k [DV.v (SV.one (At.ints IntKind.u8 32 (feN (absN (vB (feL (timesL (timesL (loadL x) (timesL (timesL (loadL y) (loadL y)) (loadL y))) (powL (timesL (timesL (timesL (loadL x) (timesL (timesL (loadL y) (loadL y)) (loadL y))) (timesL (timesL (loadL y) (loadL y)) (loadL y))) (loadL y)) (nats (digs 256 32 7237005577332262213973186563042994240829374041602535252466099000494570602493)))))))))), DV.v (SV.one (At.bool Bool.true))] else Option.none else bif Decidable.decide (feL (timesL (timesL (timesL (timesL (loadL x) (timesL (timesL (loadL y) (loadL y)) (loadL y))) (powL (timesL (timesL (timesL (loadL x) (timesL (timesL (loadL y) (loadL y)) (loadL y))) (timesL (timesL (loadL y) (loadL y)) (loadL y))) (loadL y)) (nats (digs 256 32 7237005577332262213973186563042994240829374041602535252466099000494570602493)))) (timesL (timesL (loadL x) (timesL (timesL (loadL y) (loadL y)) (loadL y))) (powL (timesL (timesL (timesL (loadL x) (timesL (timesL (loadL y) (loadL y)) (loadL y))) (timesL (timesL (loadL y) (loadL y)) (loadL y))) (loadL y)) (nats (digs 256 32 7237005577332262213973186563042994240829374041602535252466099000494570602493))))) (loadL y)) = feL (minusL (List.replicate 5 0) (loadL x))) then bif okB (feL (timesL (timesL (timesL (loadL x) (timesL (timesL (loadL y) (loadL y)) (loadL y))) (powL (timesL (timesL (timesL (loadL x) (timesL (timesL (loadL y) (loadL y)) (loadL y))) (timesL (timesL (loadL y) (loadL y)) (loadL y))) (loadL y)) (nats (digs 256 32 7237005577332262213973186563042994240829374041602535252466099000494570602493)))) (loadL (feN iN)))) then k [DV.v (SV.one (At.ints IntKind.u8 32 (feN (absN (vB (feL (timesL (timesL (timesL (loadL x) (timesL (timesL (loadL y) (loadL y)) (loadL y))) (powL (timesL (timesL (timesL (loadL x) (timesL (timesL (loadL y) (loadL y)) (loadL y))) (timesL (timesL (loadL y) (loadL y)) (loadL y))) (loadL y)) (nats (digs 256 32 7237005577332262213973186563042994240829374041602535252466099000494570602493)))) (loadL (feN iN))))))))), DV.v (SV.one (At.bool Bool.true))] else Option.none else bif Decidable.decide (feL (timesL (timesL (timesL (timesL (loadL x) (timesL (timesL (loadL y) (loadL y)) (loadL y))) (powL (timesL (timesL (timesL (loadL x) (timesL (timesL (loadL y) (loadL y)) (loadL y))) (timesL (timesL (loadL y) (loadL y)) (loadL y))) (loadL y)) (nats (digs 256 32 7237005577332262213973186563042994240829374041602535252466099000494570602493)))) (timesL (timesL (loadL x) (timesL (timesL (loadL y) (loadL y)) (loadL y))) (powL (timesL (timesL (timesL (loadL x) (timesL (timesL (loadL y) (loadL y)) (loadL y))) (timesL (timesL (loadL y) (loadL y)) (loadL y))) (loadL y)) (nats (digs 256 32 7237005577332262213973186563042994240829374041602535252466099000494570602493))))) (loadL y)) = feL (timesL (minusL (List.replicate 5 0) (loadL x)) (loadL (feN iN)))) then bif okB (feL (timesL (timesL (timesL (loadL x) (timesL (timesL (loadL y) (loadL y)) (loadL y))) (powL (timesL (timesL (timesL (loadL x) (timesL (timesL (loadL y) (loadL y)) (loadL y))) (timesL (timesL (loadL y) (loadL y)) (loadL y))) (loadL y)) (nats (digs 256 32 7237005577332262213973186563042994240829374041602535252466099000494570602493)))) (loadL (feN iN)))) then k [DV.v (SV.one (At.ints IntKind.u8 32 (feN (absN (vB (feL (timesL (timesL (timesL (loadL x) (timesL (timesL (loadL y) (loadL y)) (loadL y))) (powL (timesL (timesL (timesL (loadL x) (timesL (timesL (loadL y) (loadL y)) (loadL y))) (timesL (timesL (loadL y) (loadL y)) (loadL y))) (loadL y)) (nats (digs 256 32 7237005577332262213973186563042994240829374041602535252466099000494570602493)))) (loadL (feN iN))))))))), DV.v (SV.one (At.bool Bool.false))] else Option.none else bif okB (feL (timesL (timesL (loadL x) (timesL (timesL (loadL y) (loadL y)) (loadL y))) (powL (timesL (timesL (timesL (loadL x) (timesL (timesL (loadL y) (loadL y)) (loadL y))) (timesL (timesL (loadL y) (loadL y)) (loadL y))) (loadL y)) (nats (digs 256 32 7237005577332262213973186563042994240829374041602535252466099000494570602493))))) then k [DV.v (SV.one (At.ints IntKind.u8 32 (feN (absN (vB (feL (timesL (timesL (loadL x) (timesL (timesL (loadL y) (loadL y)) (loadL y))) (powL (timesL (timesL (timesL (loadL x) (timesL (timesL (loadL y) (loadL y)) (loadL y))) (timesL (timesL (loadL y) (loadL y)) (loadL y))) (loadL y)) (nats (digs 256 32 7237005577332262213973186563042994240829374041602535252466099000494570602493)))))))))), DV.v (SV.one (At.bool Bool.false))] else Option.none


noncomputable def E35 (N : Nat) : Env := { Θ := Th, Γ := GH, K := K35, ν := N35, fuel := 60, lp := [] }


theorem f35_contract (N : Nat) (hΓ : CtxOk Try.prog GH) : Contract Try.prog 35 { sig := S35, impl := fun _ ds k => call (E35 N) S35 77 B35 R35 ds k } :=
  call_contract (E := E35 N) thOk hΓ mixed ok35.look ok35.body ok35.n ok35.rv ok35.name rfl (by decide) (loopsOk_of (l := []) (by kernel_rfl) trivial)
theorem f35_raw_eq {R : Type} (N : Nat) (x : List Int) (y : List Int) (k : List DV → Option R) : call (E35 N) S35 77 B35 R35 [.v (.one (.ints .u8 32 x)), .v (.one (.ints .u8 32 y))] k = f35_raw N x y k := by kernel_rfl
end Go.Proofs.Ytcgolglcjfknpaa

/- field's exported functions, as numbers: SqrtRatio. -/
namespace Go.Proofs.Ytcgolglcjfknpaa
open Go Go.Eng
set_option maxRecDepth 100000

/-- the root that is tried for u / v -/
noncomputable def rtN (u v : Nat) : Nat := mulN (mulN u (mulN (mulN v v) v)) (pw (mulN (mulN (mulN u (mulN (mulN v v) v)) (mulN (mulN v v) v)) v) 7237005577332262213973186563042994240829374041602535252466099000494570602493)
/-- its square times v -/
noncomputable def chN (u v : Nat) : Nat := mulN (mulN (rtN u v) (rtN u v)) v
noncomputable def ratR (u v : Nat) : Nat := bif decide (chN u v = u) then absN (rtN u v) else bif decide (chN u v = subN 0 u) then absN (mulN (rtN u v) iN) else bif decide (chN u v = mulN (subN 0 u) iN) then absN (mulN (rtN u v) iN) else absN (rtN u v)
noncomputable def ratN : Nat → Nat → Nat := (stk ratR).1
theorem ratN_def (u v : Nat) : ratN u v = ratR u v := congrFun (congrFun (stk ratR).2 u) v
noncomputable def ratB : Nat → Nat → Bool := (stk fun u v => decide (chN u v = u) || decide (chN u v = subN 0 u)).1
theorem ratB_def (u v : Nat) : ratB u v = (decide (chN u v = u) || decide (chN u v = subN 0 u)) := congrFun (congrFun (stk fun u v => decide (chN u v = u) || decide (chN u v = subN 0 u)).2 u) v
theorem dec_feN {a b : Nat} (ha : a < p25519) (hb : b < p25519) : decide (feN a = feN b) = decide (a = b) := decide_eq_decide.mpr (feN_eq ha hb)
theorem zero_el : El (List.replicate 5 0) 0 := ⟨0, 0, 0, 0, 0, rfl, ⟨by decide, by decide, by decide, by decide, by decide⟩, by decide⟩
theorem bif_lt (c : Bool) {a b : Nat} (ha : a < p25519) (hb : b < p25519) : (bif c then a else b) < p25519 := by
  cases c
  · exact hb
  · exact ha
theorem ratN_lt {u : Nat} (v : Nat) : ratN u v < p25519 := by
  rw [ratN_def]
  unfold ratR
  have h1 := absN_lt (v := rtN u v) (mulN_lt _ _)
  have h2 := absN_lt (v := mulN (rtN u v) iN) (mulN_lt _ _)
  exact bif_lt _ h1 (bif_lt _ h2 (bif_lt _ h2 h1))
theorem sel4 {R : Type} (c1 c2 c3 : Bool) (a b : Nat) (k : List DV → Option R) :
    (bif c1 then bif true then k [.v (.one (.ints .u8 32 (feN a))), .v (.one (.bool true))] else none else bif c2 then bif true then k [.v (.one (.ints .u8 32 (feN b))), .v (.one (.bool true))] else none else bif c3 then bif true then k [.v (.one (.ints .u8 32 (feN b))), .v (.one (.bool false))] else none else bif true then k [.v (.one (.ints .u8 32 (feN a))), .v (.one (.bool false))] else none) =
      k [.v (.one (.ints .u8 32 (feN (bif c1 then a else bif c2 then b else bif c3 then b else a)))), .v (.one (.bool (c1 || c2)))] := by
  cases c1 <;> cases c2 <;> cases c3 <;> rfl

theorem f35_num {R : Type} (x : List Int) (y : List Int) (hx : (okB x) = true) (hy : (okB y) = true) (k : List DV → Option R) : f35_raw 0 x y k = k [.v (.one (.ints .u8 32 (feN (ratN (vB x) (vB y))))), .v (.one (.bool (ratB (vB x) (vB y))))] := by
  have hu := load_vB hx
  have hv := load_vB hy
  have h3 := times_N (times_N hv hv) hv
  have hr : El _ (rtN (vB x) (vB y)) := times_N (times_N hu h3) (pow_lit (e := 7237005577332262213973186563042994240829374041602535252466099000494570602493) (times_N (times_N (times_N hu h3) h3) hv) (by decide))
  have hc : El _ (chN (vB x) (vB y)) := times_N (times_N hr hr) hv
  have hn : El _ (subN 0 (vB x)) := minus_N zero_el hu
  have hi : El (loadL (feN iN)) iN := by
    have := load_vB (okB_feN iN)
    rwa [vB_feN (by decide)] at this
  have hri : El _ (mulN (rtN (vB x) (vB y)) iN) := times_N hr hi
  have hni : El _ (mulN (subN 0 (vB x)) iN) := times_N hn hi
  rw [ratN_def, ratB_def]
  unfold f35_raw ratR
  rw [fe_num hc, fe_num hr, fe_num hu, fe_num hn, fe_num hri, fe_num hni]
  rw [dec_feN hc.lt hu.lt, dec_feN hc.lt hn.lt, dec_feN hc.lt hni.lt, okB_feN, okB_feN, vB_feN hr.lt, vB_feN hri.lt]
  exact sel4 _ _ _ _ _ k
noncomputable def I35 : (R : Type) → List DV → (List DV → Option R) → Option R := fun _ ds k => match ds with
  | [.v (.one (.ints .u8 32 x)), .v (.one (.ints .u8 32 y))] => bif okB x && okB y then k [.v (.one (.ints .u8 32 (feN (ratN (vB x) (vB y))))), .v (.one (.bool (ratB (vB x) (vB y))))] else none
  | _ => none
theorem c35 : Contract Try.prog 35 { sig := S35, impl := I35 } := by
  refine Contract.refine fun R ds k r h => ⟨_, f35_contract 0 GH_ok, ?_⟩
  unfold I35 at h
  split at h
  · rename_i x y
    rcases hc : okB x && okB y with _ | _
    · rw [hc] at h; cases h
    · rw [hc, cond_true] at h
      simp only [Bool.and_eq_true] at hc
      rw [f35_raw_eq, f35_num x y hc.1 hc.2]; exact h
  · cases h

noncomputable def GI : Ctx := [(66, { sig := S66, impl := I66 }), (70, { sig := S70, impl := I70 }), (72, { sig := S72, impl := I72 }), (73, { sig := S73, impl := I73 }), (74, { sig := S74, impl := I74 }), (75, { sig := S75, impl := I75 }), (94, { sig := S94, impl := I94 }), (97, { sig := S97, impl := I97 }), (13, { sig := S13, impl := I13 }), (15, { sig := S15, impl := I15 }), (18, { sig := S18, impl := I18 }), (21, { sig := S21, impl := I21 }), (23, { sig := S23, impl := I23 }), (24, { sig := S24, impl := I24 }), (25, { sig := S25, impl := I25 }), (30, { sig := S30, impl := I30 }), (41, { sig := S41, impl := I41 }), (43, { sig := S43, impl := I43 }), (45, { sig := S45, impl := I45 }), (53, { sig := S53, impl := I53 }), (22, { sig := S22, impl := I22 }), (42, { sig := S42, impl := I42 }), (48, { sig := S48, impl := I48 }), (55, { sig := S55, impl := I55 }), (32, { sig := S32, impl := I32 }), (37, { sig := S37, impl := I37 }), (39, { sig := S39, impl := I39 }), (35, { sig := S35, impl := I35 })]
theorem GI_ok : CtxOk Try.prog GI := ctxOk_cons ok66 rfl c66 (ctxOk_cons ok70 rfl c70 (ctxOk_cons ok72 rfl c72 (ctxOk_cons ok73 rfl c73 (ctxOk_cons ok74 rfl c74 (ctxOk_cons ok75 rfl c75 (ctxOk_cons ok94 rfl c94 (ctxOk_cons ok97 rfl c97 (ctxOk_cons ok13 rfl c13 (ctxOk_cons ok15 rfl c15 (ctxOk_cons ok18 rfl c18 (ctxOk_cons ok21 rfl c21 (ctxOk_cons ok23 rfl c23 (ctxOk_cons ok24 rfl c24 (ctxOk_cons ok25 rfl c25 (ctxOk_cons ok30 rfl c30 (ctxOk_cons ok41 rfl c41 (ctxOk_cons ok43 rfl c43 (ctxOk_cons ok45 rfl c45 (ctxOk_cons ok53 rfl c53 (ctxOk_cons ok22 rfl c22 (ctxOk_cons ok42 rfl c42 (ctxOk_cons ok48 rfl c48 (ctxOk_cons ok55 rfl c55 (ctxOk_cons ok32 rfl c32 (ctxOk_cons ok37 rfl c37 (ctxOk_cons ok39 rfl c39 (ctxOk_cons ok35 rfl c35 ctxOk_nil)))))))))))))))))))))))))))
end Go.Proofs.Ytcgolglcjfknpaa

/- What rime/rimelaw01.alive comes to. MADE BY PROGRAM (wip/tools/mkfn.py, EngGen.lean). -/
namespace Go.Proofs.Ytcgolglcjfknpaa
open Go Go.Eng
set_option maxRecDepth 100000
set_option linter.unusedVariables false

noncomputable def f17_raw {R : Type} (N : Nat)  (k : List DV → Option R) : Option R :=
 bif okB (feN (Int.toNat 4)) && okB (feN (Int.toNat 1)) then
 let v0 : List Int := (List.replicate 32 0).set 0 2;
 let v1 : List Int := (List.replicate 32 0).set 0 3;
 let v2 : List Int := (List.replicate 32 0).set 0 6;
 bif Decidable.decide (feN (mulN (vB v0) (vB v1)) = v2) then
 let v3 : Bool := bif Bool.true then Decidable.decide (feN (ratN (vB (feN (Int.toNat 4))) (vB (feN (Int.toNat 1)))) = v0) else Bool.false;
 bif v3 then
 let v4 : Bool := bif Bool.true then ratB (vB (feN (Int.toNat 4))) (vB (feN (Int.toNat 1))) else Bool.false;
 bif v4 then
 let v5 : Bool := bif Bool.true then legI (vB v0) == -1 else Bool.false;
 bif v5 then
 let v6 : List Int := (List.replicate 32 0).set 0 1;
 let v7 : Bool := bif Bool.true then (feN (subN 0 (vB v6))).getD (Int.toNat 0) 0 == 236 else Bool.false;
 k [DV.v (SV.one (At.bool v7))]
 else k [DV.v (SV.one (At.bool Bool.false))]
 else k [DV.v (SV.one (At.bool Bool.false))]
 else k [DV.v (SV.one (At.bool Bool.false))]
 else k [DV.v (SV.one (At.bool Bool.false))]
else Option.none


noncomputable def E17 (N : Nat) : Env := { Θ := Th, Γ := GI, K := K17, ν := N17, fuel := 60, lp := [] }


theorem f17_contract (N : Nat) (hΓ : CtxOk Try.prog GI) : Contract Try.prog 17 { sig := S17, impl := fun _ ds k => call (E17 N) S17 33 B17 R17 ds k } :=
  call_contract (E := E17 N) thOk hΓ mixed ok17.look ok17.body ok17.n ok17.rv ok17.name rfl (by decide) (loopsOk_of (l := []) (by kernel_rfl) trivial)
theorem f17_raw_eq {R : Type} (N : Nat)  (k : List DV → Option R) : call (E17 N) S17 33 B17 R17 [] k = f17_raw N  k := by kernel_rfl
end Go.Proofs.Ytcgolglcjfknpaa

/- the small example that each law begins with. -/
namespace Go.Proofs.Ytcgolglcjfknpaa
open Go Go.Eng
set_option maxRecDepth 100000

theorem lit1 : (List.replicate 32 (0 : Int)).set 0 1 = feN 1 := by rw [feN_def]; decide
theorem lit2 : (List.replicate 32 (0 : Int)).set 0 2 = feN 2 := by rw [feN_def]; decide
theorem lit3 : (List.replicate 32 (0 : Int)).set 0 3 = feN 3 := by rw [feN_def]; decide
theorem lit6 : (List.replicate 32 (0 : Int)).set 0 6 = feN 6 := by rw [feN_def]; decide
theorem rt41 : rtN 4 1 = 39362322753415011913614158609977084030892133031847780325488042146247659569504 := by unfold rtN; simp only [mulN_def, pw_pm]; decide +kernel
theorem ch41 : chN 4 1 = p25519 - 4 := by unfold chN; rw [rt41]; simp only [mulN_def]; decide
theorem sub04 : subN 0 4 = p25519 - 4 := by rw [subN_def]; decide
theorem rat41 : ratN 4 1 = 2 := by
  rw [ratN_def]; unfold ratR
  rw [ch41, sub04, rt41, decide_eq_false (show ¬ p25519 - 4 = 4 by decide), cond_false, decide_eq_true rfl, cond_true, absN_def, mulN_def, subN_def]
  decide
theorem ratb41 : ratB 4 1 = true := by rw [ratB_def, ch41, sub04, decide_eq_true (rfl : p25519 - 4 = p25519 - 4), Bool.or_true]
theorem leg2 : legI 2 = -1 := by
  rw [legI_def]; unfold legR; rw [pw_pm]; decide +kernel
theorem neg1 : (feN (subN 0 1)).getD (Int.toNat 0) 0 = 236 := by rw [feN_def, subN_def]; decide

theorem f17_num {R : Type}   (k : List DV → Option R) : f17_raw 0  k = k [.v (.one (.bool true))] := by
  unfold f17_raw
  dsimp only
  rw [lit1, lit2, lit3, lit6]
  simp only [okB_feN, cond_true, Bool.and_self]
  rw [vB_feN (v := 2) (by decide), vB_feN (v := 3) (by decide), vB_feN (v := Int.toNat 4) (by decide), vB_feN (v := Int.toNat 1) (by decide), vB_feN (v := 1) (by decide)]
  rw [show mulN 2 3 = 6 by rw [mulN_def]; decide, show ratN (Int.toNat 4) (Int.toNat 1) = 2 from rat41, show ratB (Int.toNat 4) (Int.toNat 1) = true from ratb41, leg2, neg1]
  rw [decide_eq_true (rfl : feN 6 = feN 6), decide_eq_true (rfl : feN 2 = feN 2)]
  rfl
noncomputable def I17 : (R : Type) → List DV → (List DV → Option R) → Option R := fun _ ds k => match ds with
  | [] => k [.v (.one (.bool true))]
  | _ => none
theorem c17 : Contract Try.prog 17 { sig := S17, impl := I17 } := by
  refine Contract.refine fun R ds k r h => ⟨_, f17_contract 0 GI_ok, ?_⟩
  unfold I17 at h
  split at h
  · rw [f17_raw_eq, f17_num]; exact h
  · cases h

noncomputable def GJ : Ctx := [(17, { sig := S17, impl := I17 }), (66, { sig := S66, impl := I66 }), (70, { sig := S70, impl := I70 }), (72, { sig := S72, impl := I72 }), (73, { sig := S73, impl := I73 }), (74, { sig := S74, impl := I74 }), (75, { sig := S75, impl := I75 }), (94, { sig := S94, impl := I94 }), (97, { sig := S97, impl := I97 }), (13, { sig := S13, impl := I13 }), (15, { sig := S15, impl := I15 }), (18, { sig := S18, impl := I18 }), (21, { sig := S21, impl := I21 }), (23, { sig := S23, impl := I23 }), (24, { sig := S24, impl := I24 }), (25, { sig := S25, impl := I25 }), (30, { sig := S30, impl := I30 }), (41, { sig := S41, impl := I41 }), (43, { sig := S43, impl := I43 }), (45, { sig := S45, impl := I45 }), (53, { sig := S53, impl := I53 }), (22, { sig := S22, impl := I22 }), (42, { sig := S42, impl := I42 }), (48, { sig := S48, impl := I48 }), (55, { sig := S55, impl := I55 }), (32, { sig := S32, impl := I32 }), (37, { sig := S37, impl := I37 }), (39, { sig := S39, impl := I39 }), (35, { sig := S35, impl := I35 })]
theorem GJ_ok : CtxOk Try.prog GJ := ctxOk_cons ok17 rfl c17 (ctxOk_cons ok66 rfl c66 (ctxOk_cons ok70 rfl c70 (ctxOk_cons ok72 rfl c72 (ctxOk_cons ok73 rfl c73 (ctxOk_cons ok74 rfl c74 (ctxOk_cons ok75 rfl c75 (ctxOk_cons ok94 rfl c94 (ctxOk_cons ok97 rfl c97 (ctxOk_cons ok13 rfl c13 (ctxOk_cons ok15 rfl c15 (ctxOk_cons ok18 rfl c18 (ctxOk_cons ok21 rfl c21 (ctxOk_cons ok23 rfl c23 (ctxOk_cons ok24 rfl c24 (ctxOk_cons ok25 rfl c25 (ctxOk_cons ok30 rfl c30 (ctxOk_cons ok41 rfl c41 (ctxOk_cons ok43 rfl c43 (ctxOk_cons ok45 rfl c45 (ctxOk_cons ok53 rfl c53 (ctxOk_cons ok22 rfl c22 (ctxOk_cons ok42 rfl c42 (ctxOk_cons ok48 rfl c48 (ctxOk_cons ok55 rfl c55 (ctxOk_cons ok32 rfl c32 (ctxOk_cons ok37 rfl c37 (ctxOk_cons ok39 rfl c39 (ctxOk_cons ok35 rfl c35 ctxOk_nil))))))))))))))))))))))))))))
end Go.Proofs.Ytcgolglcjfknpaa

/- The starts of the laws. -/
namespace Go.Proofs.Ytcgolglcjfknpaa
open Go Go.Eng
/-- no function, but a word to the engine: an 'and' is followed where it says yes -/
def noFI : FI := { sig := { ps := [], rs := [] }, impl := fun _ _ _ => none }
theorem ctxOk_prune {Γ : Ctx} (h : CtxOk Try.prog Γ) : CtxOk Try.prog ((999999, noFI) :: Γ) := by
  intro g fi hg
  unfold findF at hg
  split at hg
  · injection hg with hg; subst hg
    refine ⟨fun R ds k r hr => ?_, rfl⟩
    cases (show (none : Option R) = some r from hr)
  · exact h g fi hg
noncomputable def GK : Ctx := (999999, noFI) :: GJ
theorem GK_ok : CtxOk Try.prog GK := ctxOk_prune GJ_ok
def start3 (n : Nat) (x y z : List Int) : AS :=
  { n := n, lo := 0, tmps := [(0, .s (.one (.ints .u8 32 x))), (1, .s (.one (.ints .u8 32 y))), (2, .s (.one (.ints .u8 32 z)))], items := [] }
def start2 (n : Nat) (x y : List Int) : AS :=
  { n := n, lo := 0, tmps := [(0, .s (.one (.ints .u8 32 x))), (1, .s (.one (.ints .u8 32 y)))], items := [] }
end Go.Proofs.Ytcgolglcjfknpaa

/- What the rows of the field's laws need. -/
namespace Go.Proofs.Ytcgolglcjfknpaa
open Go Go.Eng Go.ChangeShapes Go.WideShapes Go.RowKit
set_option maxRecDepth 100000
theorem own0 : ownKnob Try.prog.godebug = none := by kernel_rfl
theorem laidOut : laidOutB Try.prog = true := by kernel_rfl
theorem wf_u8 {y : Int} (h : (Lit.int .u8 y).wf = true) : 0 ≤ y ∧ y < 256 := by
  have := bounds_u8 h; omega
theorem okB_row {x : List Int} (hl : x.length = 32) (hw : ∀ y ∈ x, (Lit.int .u8 y).wf = true) : okB x = true := by
  unfold okB
  rw [decide_eq_true hl, Bool.true_and, List.all_eq_true]
  intro b hb
  have := wf_u8 (hw b hb)
  rw [Bool.and_eq_true]
  exact ⟨decide_eq_true this.1, decide_eq_true this.2⟩
end Go.Proofs.Ytcgolglcjfknpaa

/- What the rows of the field's laws need, further. -/
namespace Go.Proofs.Ytcgolglcjfknpaa
open Go Go.Eng Go.ChangeShapes Go.WideShapes Go.RowKit
set_option maxRecDepth 100000
theorem okW_row {x : List Int} (hl : x.length = 5) (hw : ∀ y ∈ x, (Lit.int .u64 y).wf = true) : okW x = true := by
  unfold okW
  rw [decide_eq_true hl, Bool.true_and, List.all_eq_true]
  intro b hb
  have := bounds_u64 (hw b hb)
  rw [Bool.and_eq_true]
  exact ⟨decide_eq_true (by omega), decide_eq_true (by omega)⟩
theorem okE_row {x : List Int} {len : Nat} (hm : len < 9223372036854775808) (hl : x.length = len * 1) (hw : ∀ y ∈ x, (Lit.int .u8 y).wf = true) : okE x = true := by
  unfold okE
  rw [decide_eq_true (by omega), Bool.true_and, List.all_eq_true]
  intro b hb
  have := wf_u8 (hw b hb)
  rw [Bool.and_eq_true]
  exact ⟨decide_eq_true this.1, decide_eq_true this.2⟩
theorem elB (H : Type) (enc : TypeId × Value → H) : IntEl H enc Try.prog 5 .u8 1 := intEl_int Try.underlying5 (by kernel_rfl)
end Go.Proofs.Ytcgolglcjfknpaa

/- What the rows of the field's laws need, where sizes are bounded. -/
namespace Go.Proofs.Ytcgolglcjfknpaa
open Go Go.Eng Go.ChangeShapes Go.WideShapes Go.RowKit
set_option maxRecDepth 100000
theorem bulk_one {H : Type} (d : DataW H) : 1 ≤ Rows.uptoBulk d := by
  cases d with
  | lit l => cases l <;> simp [Rows.uptoBulk]
  | nil => simp [Rows.uptoBulk]
  | ptr d => simp [Rows.uptoBulk]
  | slice elems spare => simp [Rows.uptoBulk]
  | agg parts => simp [Rows.uptoBulk]
  | iface t d => simp [Rows.uptoBulk]
  | map entries => simp [Rows.uptoBulk]
  | held h => simp [Rows.uptoBulk]

theorem bulk_length {H : Type} (l : List (DataW H)) : l.length ≤ Rows.uptoBulkAll l := by
  induction l with
  | nil => simp [Rows.uptoBulkAll]
  | cons x r ih => have := bulk_one x; simp only [Rows.uptoBulkAll, List.length_cons]; omega

theorem bulk_slice {H : Type} {d : DataW H} {len : Nat} (h : (d = .nil ∧ len = 0) ∨ ∃ elems spare, d = .slice elems spare ∧ elems.length = len) : len ≤ Rows.uptoBulk d := by
  rcases h with ⟨rfl, rfl⟩ | ⟨elems, spare, rfl, rfl⟩
  · exact Nat.zero_le _
  · have := bulk_length elems
    simp only [Rows.uptoBulk]; omega

theorem bulk_bound {H : Type} {l : List (DataW H)} (hk : Rows.uptoSmall H l = true) : Rows.uptoBulkAll l ≤ 1048576 := of_decide_eq_true hk
theorem elFe (H : Type) (enc : TypeId × Value → H) : IntEl H enc Try.prog 23 .u8 32 := intEl_array Try.underlying23 (by kernel_rfl) (by omega) (intEl_int Try.underlying5 (by kernel_rfl))
end Go.Proofs.Ytcgolglcjfknpaa

/- The engine: what a piece of code does not look at stays as it is. -/
namespace Go.Eng
open Go

def partI (K : List Nat) : List (Nat × Item) → List (Nat × Item)
  | [] => []
  | (n, it) :: l => match memN n K with | true => (n, it) :: partI K l | false => partI K l
def partO (K : List Nat) : List (Nat × Item) → List (Nat × Item)
  | [] => []
  | (n, it) :: l => match memN n K with | true => partO K l | false => (n, it) :: partO K l

theorem find_partI {K : List Nat} {n : Nat} : ∀ {l : List (Nat × Item)}, findI n (partI K l) = if n ∈ K then findI n l else none
  | [] => by simp [partI, findI]
  | (u, it) :: l => by
    simp only [partI]
    split
    · rename_i h
      rw [findI_cons, findI_cons, find_partI (l := l)]
      by_cases e : n = u
      · subst e; simp [memN_iff.1 h]
      · simp [e]
    · rename_i h
      rw [findI_cons, find_partI (l := l)]
      by_cases e : n = u
      · subst e; simp [memN_false.1 h]
      · simp [e]
theorem find_partO {K : List Nat} {n : Nat} : ∀ {l : List (Nat × Item)}, findI n (partO K l) = if n ∈ K then none else findI n l
  | [] => by simp [partO, findI]
  | (u, it) :: l => by
    simp only [partO]
    split
    · rename_i h
      rw [findI_cons, find_partO (l := l)]
      by_cases e : n = u
      · subst e; simp [memN_iff.1 h]
      · simp [e]
    · rename_i h
      rw [findI_cons, findI_cons, find_partO (l := l)]
      by_cases e : n = u
      · subst e; simp [memN_false.1 h]
      · simp [e]
theorem names_partI {K : List Nat} {n : Nat} : ∀ {l : List (Nat × Item)}, n ∈ putNames (partI K l) → n ∈ putNames l ∧ n ∈ K
  | [], h => by cases h
  | (u, it) :: l, h => by
    simp only [partI] at h
    split at h
    · rename_i hk
      rcases List.mem_cons.1 h with e | h
      · subst e; exact ⟨.head _, memN_iff.1 hk⟩
      · have := names_partI h; exact ⟨.tail _ this.1, this.2⟩
    · have := names_partI h; exact ⟨.tail _ this.1, this.2⟩
theorem names_partO {K : List Nat} {n : Nat} : ∀ {l : List (Nat × Item)}, n ∈ putNames (partO K l) → n ∈ putNames l ∧ n ∉ K
  | [], h => by cases h
  | (u, it) :: l, h => by
    simp only [partO] at h
    split at h
    · have := names_partO h; exact ⟨.tail _ this.1, this.2⟩
    · rename_i hk
      rcases List.mem_cons.1 h with e | h
      · subst e; exact ⟨.head _, memN_false.1 hk⟩
      · have := names_partO h; exact ⟨.tail _ this.1, this.2⟩
theorem nodup_partI {K : List Nat} : ∀ {l : List (Nat × Item)}, Nodup' l → Nodup' (partI K l)
  | [], _ => trivial
  | (u, it) :: l, ⟨h1, h2⟩ => by
    simp only [partI]
    split
    · exact ⟨fun h => h1 (names_partI h).1, nodup_partI h2⟩
    · exact nodup_partI h2
theorem nodup_partO {K : List Nat} : ∀ {l : List (Nat × Item)}, Nodup' l → Nodup' (partO K l)
  | [], _ => trivial
  | (u, it) :: l, ⟨h1, h2⟩ => by
    simp only [partO]
    split
    · exact nodup_partO h2
    · exact ⟨fun h => h1 (names_partO h).1, nodup_partO h2⟩

/-- values that may stand beside what stays -/
def sideA (Fr : List (Nat × Item)) : At → Bool
  | .ptr n b o z => match findI n Fr with
    | none => true
    | some it => match o, it with | .z, .obj _ => true | _, _ => false
  | a => disj a.names (putNames Fr)
def sideV (Fr : List (Nat × Item)) : AV → Bool
  | .s (.one a) => sideA Fr a
  | v => disj v.names (putNames Fr)
def sideT (Fr : List (Nat × Item)) : List (Nat × AV) → Bool
  | [] => true
  | (_, v) :: l => sideV Fr v && sideT Fr l
/-- what is not its own was there before -/
def sideI (lo : Nat) (is : List (Nat × Item)) : List (Nat × Item) → Bool
  | [] => true
  | (n, it) :: l => (match it.own? with | true => true | false => memN n (putNames is) && (Nat.blt n lo || Nat.ble hiN n)) && sideI lo is l

def pinsN (lo : Nat) : List Nat → Bool
  | [] => true
  | n :: l => (Nat.blt n lo || Nat.ble hiN n) && pinsN lo l

theorem pinsN_mem {lo n : Nat} : ∀ {l : List Nat}, pinsN lo l = true → n ∈ l → n < lo ∨ hiN ≤ n
  | m :: l, h, hm => by
    simp only [pinsN, Bool.and_eq_true, Bool.or_eq_true] at h
    rcases List.mem_cons.1 hm with e | hm
    · subst e
      rcases h.1 with h | h
      · left
        have := ble_iff.1 (show Nat.ble (n + 1) lo = true from h); omega
      · right; exact ble_iff.1 h
    · exact pinsN_mem h.2 hm

theorem sideT_mem {Fr : List (Nat × Item)} {t : Nat} {v : AV} : ∀ {l : List (Nat × AV)}, sideT Fr l = true → (t, v) ∈ l → sideV Fr v = true
  | (u, x) :: l, h, hm => by
    simp only [sideT, Bool.and_eq_true] at h
    rcases List.mem_cons.1 hm with e | hm
    · injection e with e1 e2; subst e2; exact h.1
    · exact sideT_mem h.2 hm
theorem sideI_mem {lo : Nat} {is : List (Nat × Item)} {n : Nat} {it : Item} : ∀ {l : List (Nat × Item)}, sideI lo is l = true → (n, it) ∈ l → it.owned = false → n ∈ putNames is ∧ (n < lo ∨ hiN ≤ n)
  | (u, x) :: l, h, hm, ho => by
    simp only [sideI, Bool.and_eq_true] at h
    rcases List.mem_cons.1 hm with e | hm
    · injection e with e1 e2; subst e1; subst e2
      have h1 := h.1
      cases it with
      | view k es xs =>
        simp only [Item.own?, Bool.and_eq_true, Bool.or_eq_true] at h1
        refine ⟨memN_iff.1 h1.1, ?_⟩
        rcases h1.2 with h | h
        · left
          have := ble_iff.1 (show Nat.ble (n + 1) lo = true from h); omega
        · right; exact ble_iff.1 h
      | _ => cases ho
    · exact sideI_mem h.2 hm ho

theorem nodup_apart {l m : List (Nat × Item)} : Nodup' (l ++ m) → Nodup' l ∧ Nodup' m ∧ ∀ n ∈ putNames l, n ∉ putNames m := by
  induction l with
  | nil => intro h; exact ⟨trivial, h, by simp [putNames]⟩
  | cons x l ih =>
    obtain ⟨u, v⟩ := x
    rintro ⟨h1, h2⟩
    obtain ⟨g1, g2, g3⟩ := ih h2
    have h1 : u ∉ putNames (l ++ m) := h1
    rw [putNames_append, List.mem_append, not_or] at h1
    refine ⟨⟨h1.1, g1⟩, g2, fun n hn => ?_⟩
    rcases List.mem_cons.1 hn with e | hn
    · subst e; exact h1.2
    · exact g3 n hn

theorem find_app {l m : List (Nat × Item)} {n : Nat} {it : Item} (h : findI n (l ++ m) = some it) : findI n l = some it ∨ (findI n l = none ∧ findI n m = some it) := by
  rw [findI_append] at h
  cases hl : findI n l with
  | some x => rw [hl] at h; exact .inl h
  | none => rw [hl] at h; exact .inr ⟨rfl, h⟩

theorem none_of {l : List (Nat × Item)} {n : Nat} (h : findI n l = none) : n ∉ putNames l := findI_none_iff.1 h

theorem find_names {l : List (Nat × Item)} {n : Nat} {it : Item} (h : findI n l = some it) : n ∈ putNames l := putNames_iff.2 ⟨it, findI_mem h⟩

theorem reaches_frame {P : Program} {c : Code} {s1 s' : AS} {e : X} (h : Reaches P c s1 e s') {Fr : List (Nat × Item)} (hlo : s'.lo = s1.lo) (hnd : Nodup' (s1.items ++ Fr)) (hnd' : Nodup' (s'.items ++ Fr))
    (hpin : pinsN s1.lo (putNames Fr) = true) (hcl : allIn (putSays' Fr) (putNames Fr) = true) (ht : sideT Fr s'.tmps = true) (hi : disj (putSays' s'.items) (putNames Fr) = true) (hv : sideI s'.lo s1.items s'.items = true) :
    Reaches P c { s1 with items := s1.items ++ Fr } e { s' with items := s'.items ++ Fr } := by
  refine reaches_iff.2 fun w0 Mu ρ a w Q hs hQ => ?_
  obtain ⟨n1, n2, n3⟩ := nodup_apart hnd
  obtain ⟨n1', n2', n3'⟩ := nodup_apart hnd'
  rw [disj_iff] at hi
  rw [allIn_iff] at hcl
  -- the whole at the start
  have hI1 : ∀ n it, s1.I n = some it → AS.I { s1 with items := s1.items ++ Fr } n = some it := by
    intro n it h
    show findI n (s1.items ++ Fr) = some it
    rw [findI_append, show findI n s1.items = some it from h]
  have hIF : ∀ n it, findI n Fr = some it → AS.I { s1 with items := s1.items ++ Fr } n = some it := by
    intro n it h
    show findI n (s1.items ++ Fr) = some it
    rw [findI_append, findI_none (fun hm => n3 n hm (find_names h))]; exact h
  have hS1 : ∀ n, s1.S n = AS.S { s1 with items := s1.items ++ Fr } n ∨ s1.S n = none := by
    intro n
    unfold AS.S
    cases hh : s1.I n with
    | none => exact .inr rfl
    | some it => left; rw [hI1 n it hh]
  let Mu1 : MuT := { blk := fun b => ∃ n it p, s1.I n = some it ∧ it.owned = true ∧ ρ.loc n = some p ∧ p.1 = b, loc := ρ.loc, tot := ρ.tot, sh := s1.S }
  have hs1 : Sim w Mu1 ρ s1 a w := by
    refine ⟨hs.defers, n1, hs.size, ?_, ?_, ?_, ?_, ?_, Nat.le_refl _, fun _ _ _ => rfl, fun n _ => ⟨rfl, rfl, .inl rfl⟩, rfl, rfl⟩
    · intro t
      exact (hs.rel t).frame fun n _ => ⟨rfl, rfl, hS1 n⟩
    · intro n it hh
      exact (hs.hold n it (hI1 n it hh)).frame ⟨rfl, rfl⟩ (fun m _ => ⟨rfl, rfl, hS1 m⟩) (fun _ _ => rfl)
    · intro n it p hh ho hp; exact .inr ⟨n, it, p, hh, ho, hp, rfl⟩
    · intro n m it it' p q h1 h2 ho hne hp hq; exact hs.sep n m it it' p q (hI1 _ _ h1) (hI1 _ _ h2) ho hne hp hq
    · intro n it p h1 hp; exact hs.lt n it p (hI1 _ _ h1) hp
  refine reaches_iff.1 h w Mu1 ρ a w Q hs1 fun a' w' ρ' hs' => hQ a' w' ρ' ?_
  -- the whole at the end
  have hFpin : ∀ n, n ∈ putNames Fr → ρ'.loc n = ρ.loc n ∧ ρ'.tot n = ρ.tot n := by
    intro n hn
    have := hs'.pin n (by rw [hlo]; exact pinsN_mem hpin hn)
    exact ⟨this.1, this.2.1⟩
  have hI' : ∀ n it, AS.I { s' with items := s'.items ++ Fr } n = some it → s'.I n = some it ∨ (n ∉ putNames s'.items ∧ findI n Fr = some it) := by
    intro n it hh
    rcases find_app (show findI n (s'.items ++ Fr) = some it from hh) with h1 | ⟨h1, h2⟩
    · exact .inl h1
    · exact .inr ⟨none_of h1, h2⟩
  have hSout : ∀ n, n ∉ putNames Fr → AS.S { s' with items := s'.items ++ Fr } n = s'.S n := by
    intro n hn
    unfold AS.S
    show (findI n (s'.items ++ Fr)).map Item.shape = (findI n s'.items).map Item.shape
    rw [findI_append]
    cases hh : findI n s'.items with
    | some it => rfl
    | none => rw [findI_none hn]
  have hSin : ∀ n, n ∈ putNames Fr → AS.S { s' with items := s'.items ++ Fr } n = AS.S { s1 with items := s1.items ++ Fr } n := by
    intro n hn
    unfold AS.S
    show (findI n (s'.items ++ Fr)).map Item.shape = (findI n (s1.items ++ Fr)).map Item.shape
    rw [findI_append, findI_append, findI_none (fun hm => n3 n hm hn), findI_none (fun hm => n3' n hm hn)]
  have hne : ∀ n m p q it, n ∈ putNames s1.items → s1.I n = some it → it.owned = true → ρ.loc n = some p → m ∈ putNames Fr → ρ.loc m = some q → p.1 ≠ q.1 := by
    intro n m p q it hn h1 ho hp hm hq
    obtain ⟨it', h2⟩ := putNames_iff.1 hm
    cases hf : findI m Fr with
    | none => exact absurd hm (none_of hf)
    | some jt => exact hs.sep n m it jt p q (hI1 n it h1) (hIF m jt hf) ho (fun e => n3 n hn (e ▸ hm)) hp hq
  have hagree : ∀ n, n ∉ putNames Fr → Agree ρ' ρ' s'.S (AS.S { s' with items := s'.items ++ Fr }) n := fun n hn => ⟨rfl, rfl, .inl (hSout n hn)⟩
  have hFheap : ∀ n q, n ∈ putNames Fr → ρ.loc n = some q → w'.heap[q.1]? = w.heap[q.1]? ∧ q.1 < w.heap.size := by
    intro n q hn hq
    have hlt : q.1 < w.heap.size := by
      cases hf : findI n Fr with
      | none => exact absurd hn (none_of hf)
      | some jt => exact hs.lt n jt q (hIF n jt hf) hq
    refine ⟨hs'.frame q.1 hlt ?_, hlt⟩
    rintro ⟨m, it, p, h1, h2, h3, h4⟩
    exact hne m n p q it (find_names h1) h1 h2 h3 hn hq h4
  refine ⟨hs'.defers, hnd', hs'.size, ?_, ?_, ?_, ?_, ?_, Nat.le_trans hs.mono hs'.mono, ?_, ?_, ?_⟩
  · intro t
    show RelV ρ' _ (findT t s'.tmps) _
    have hr := hs'.rel t
    rcases findT_mem (t := t) (l := s'.tmps) with e | hm
    · rw [e]; exact relDead _ _ _
    · have hsd := sideT_mem ht hm
      change RelV ρ' s'.S (findT t s'.tmps) _ at hr
      revert hr hsd
      generalize findT t s'.tmps = v
      intro hsd hr
      have plain : disj v.names (putNames Fr) = true → RelV ρ' (AS.S { s' with items := s'.items ++ Fr }) v (a'.tmps.getD t undef) :=
        fun hd => hr.frame fun n hn => hagree n (disj_iff.1 hd n hn)
      unfold sideV at hsd
      split at hsd
      · rename_i at0
        unfold sideA at hsd
        split at hsd
        · rename_i n b o z
          split at hsd
          · rename_i hf
            exact hr.frame fun m hm => by
              have : m = n := by simpa [AV.names, SV.names, At.names] using hm
              subst this; exact hagree m (none_of hf)
          · rename_i it hf
            split at hsd
            · rename_i l
              simp only [RelV, RelSV, RelAt] at hr ⊢
              obtain ⟨p, r1, r2, r3⟩ := hr
              refine ⟨p, r1, r2, ?_⟩
              intro sh hsh L hL
              rw [hSin n (find_names hf)] at hsh
              have : AS.S { s1 with items := s1.items ++ Fr } n = some (Item.obj l).shape := S_of (hIF n _ hf)
              rw [this] at hsh
              injection hsh with hsh
              subst hsh
              intro hc; simp [Item.shape, Shape.isObj] at hc
            · cases hsd
        · exact plain hsd
      · exact plain hsd
  · intro n it hh
    rcases hI' n it hh with h1 | ⟨h1, h2⟩
    · refine (hs'.hold n it h1).frame ⟨rfl, rfl⟩ (fun m hm => hagree m (hi m (putSays'_mem (findI_mem h1) hm))) (fun _ _ => rfl)
    · have hnF := find_names h2
      have hl := hFpin n hnF
      refine (hs.hold n it (hIF n it h2)).frame hl (fun m hm => ?_) (fun p hp => (hFheap n p hnF hp).1)
      have hmF := hcl m (putSays'_mem (findI_mem h2) hm)
      exact ⟨(hFpin m hmF).1, (hFpin m hmF).2, .inl (hSin m hmF)⟩
  · intro n it p hh ho hp
    rcases hI' n it hh with h1 | ⟨h1, h2⟩
    · rcases hs'.own n it p h1 ho hp with g | ⟨m, jt, q, g1, g2, g3, g4⟩
      · exact .inl (Nat.le_trans hs.mono g)
      · rw [← g4]; exact hs.own m jt q (hI1 m jt g1) g2 g3
    · rw [(hFpin n (find_names h2)).1] at hp
      exact hs.own n it p (hIF n it h2) ho hp
  · intro n m it it' p q hh hh' ho hnm hp hq
    rcases hI' n it hh with h1 | ⟨h1, h2⟩
    · rcases hI' m it' hh' with k1 | ⟨k1, k2⟩
      · exact hs'.sep n m it it' p q h1 k1 ho hnm hp hq
      · have hmF := find_names k2
        rw [(hFpin m hmF).1] at hq
        have hlt := (hFheap m q hmF hq).2
        rcases hs'.own n it p h1 ho hp with g | ⟨n', jt, q', g1, g2, g3, g4⟩
        · omega
        · rw [← g4]; exact hne n' m q' q jt (find_names g1) g1 g2 g3 hmF hq
    · have hnF := find_names h2
      rw [(hFpin n hnF).1] at hp
      rcases hI' m it' hh' with k1 | ⟨k1, k2⟩
      · have hlt := (hFheap n p hnF hp).2
        cases ho' : it'.owned with
        | true =>
          rcases hs'.own m it' q k1 ho' hq with g | ⟨n', jt, q', g1, g2, g3, g4⟩
          · omega
          · rw [← g4]; exact (hne n' n q' p jt (find_names g1) g1 g2 g3 hnF hp).symm
        | false =>
          obtain ⟨hm1, hpm⟩ := sideI_mem hv (findI_mem k1) ho'
          cases hf : findI m s1.items with
          | none => exact absurd hm1 (none_of hf)
          | some jt =>
            have hq' : ρ.loc m = some q := by
              have e : ρ'.loc m = ρ.loc m := (hs'.pin m hpm).1
              rw [← e]; exact hq
            exact hs.sep n m it jt p q (hIF n it h2) (hI1 m jt hf) ho hnm hp hq'
      · rw [(hFpin m (find_names k2)).1] at hq
        exact hs.sep n m it it' p q (hIF n it h2) (hIF m it' k2) ho hnm hp hq
  · intro n it p hh hp
    rcases hI' n it hh with h1 | ⟨h1, h2⟩
    · exact hs'.lt n it p h1 hp
    · rw [(hFpin n (find_names h2)).1] at hp
      exact Nat.lt_of_lt_of_le (hFheap n p (find_names h2) hp).2 hs'.mono
  · intro b hb hnb
    rw [hs'.frame b (Nat.lt_of_lt_of_le hb hs.mono) ?_]
    · exact hs.frame b hb hnb
    · rintro ⟨m, it, p, h1, h2, h3, h4⟩
      rcases hs.own m it p (hI1 m it h1) h2 h3 with g | g
      · omega
      · exact hnb (h4 ▸ g)
  · intro n hn
    have hn' : n < s'.lo ∨ hiN ≤ n := hn
    obtain ⟨g1, g2, g3⟩ := hs'.pin n hn'
    obtain ⟨k1, k2, k3⟩ := hs.pin n (by rw [← hlo]; exact hn')
    refine ⟨g1.trans k1, g2.trans k2, ?_⟩
    by_cases hF : n ∈ putNames Fr
    · rw [hSin n hF]; exact k3
    · rw [hSout n hF]
      rcases g3 with g3 | g3
      · rw [g3]
        rcases hS1 n with e | e
        · change s1.S n = _ ∨ s1.S n = none; rw [e]; exact k3
        · exact .inr e
      · exact .inr g3
  · exact ⟨hs'.still.1.trans hs.still.1, hs'.still.2.trans hs.still.2⟩

/-! ### loops -/

theorem loop_reach {P : Program} {E : Env} (hΘ : TypesOk P E.Θ) (hΓ : CtxOk P E.Γ) (hm : P.follows .mixedOrders = true) {ν : Nrm} {σ : Shp} {id : Nat} {body : Code} {F : (R : Type) → List Leaf → (X → AS → Option R) → Option R}
    (hlp : LoopsOk P E.lp body) (h : ∀ R ls k r, F R ls k = some r → ∃ fuel, roundsOf E ν id body k fuel (fill σ ls) = some r) {R : Type} {ls : List Leaf} {k : X → AS → Option R} {r : R} (hk : F R ls k = some r) :
    ∃ e s', k e s' = some r ∧ Reaches P (.block id (.loop body)) (fill σ ls) e s' := by
  obtain ⟨fuel, hf⟩ := h R ls k r hk
  have hb : ∀ (s : AS) (k : X → AS → Option R) (r : R), exec E body s k = some r → ∃ e s', k e s' = some r ∧ Reaches P body s e s' := (exec_sound hΘ hΓ hm body hlp).1
  obtain ⟨e, s'', h1, h2⟩ := iter_rounds hb _ _ _ hf
  obtain ⟨he, n, hw⟩ := rounds_wp h2
  have hl : ∀ w0 Mu ρ a w (Q : Exit → Act → World → Prop), Sim w0 Mu ρ (fill σ ls) a w → (∀ a' w' ρ', Sim w0 Mu ρ' s'' a' w' → Exit.inBlock id Q e.out a' w') → (Code.block id (.loop body)).wp P Q a w := by
    intro w0 Mu ρ a w Q hs hQ
    exact wp_block (wp_loop_rounds n (hw w0 Mu ρ a w _ hs hQ))
  cases e with
  | normal => exact absurd rfl he
  | ret => exact ⟨.ret, s'', h1, fun w0 Mu ρ a w Q hs hQ => hl w0 Mu ρ a w Q hs hQ⟩
  | exit i =>
    simp only at h1
    split at h1
    · rename_i e
      have e := beqT e; subst e
      refine ⟨.normal, s'', h1, fun w0 Mu ρ a w Q hs hQ => hl w0 Mu ρ a w Q hs fun a' w' ρ' hs' => ?_⟩
      simp only [X.out, Exit.inBlock, if_true]; exact hQ a' w' ρ' hs'
    · rename_i e
      have e := beqN e
      refine ⟨.exit i, s'', h1, fun w0 Mu ρ a w Q hs hQ => hl w0 Mu ρ a w Q hs fun a' w' ρ' hs' => ?_⟩
      simp only [X.out, Exit.inBlock, if_neg e]; exact hQ a' w' ρ' hs'

def extraN (K : List Nat) (lo : Nat) : List (Nat × Item) → List Nat
  | [] => []
  | (n, _) :: l => match (Nat.blt n lo || Nat.ble hiN n) && !(memN n K) with | true => n :: extraN K lo l | false => extraN K lo l

def backOk (Fr is : List (Nat × Item)) (lo : Nat) (s' : AS) : Bool :=
  Nat.beq s'.lo lo && (nodupN (putNames s'.items ++ putNames Fr) && (sideT Fr s'.tmps && (disj (putSays' s'.items) (putNames Fr) && sideI s'.lo is s'.items)))

/-- a loop, from what it makes of the leaves at its head; what else hangs on what was handed in stays -/
def mkLF (ν : Nrm) (σ : Shp) (F : (R : Type) → List Leaf → (X → AS → Option R) → Option R) : LoopFn := fun R s k =>
  match nrm { slots := ν.slots, items := ν.items ++ extraN (ν.items ++ rowNames ν.slots) s.lo s.items } s with
  | some s2 => match proj σ { n := s2.n, lo := s2.lo, tmps := s2.tmps, items := partO (extraN (ν.items ++ rowNames ν.slots) s.lo s.items) s2.items } with
    | some ls => match pinsN s2.lo (putNames (partI (extraN (ν.items ++ rowNames ν.slots) s.lo s.items) s2.items)) && allIn (putSays' (partI (extraN (ν.items ++ rowNames ν.slots) s.lo s.items) s2.items)) (putNames (partI (extraN (ν.items ++ rowNames ν.slots) s.lo s.items) s2.items)) with
      | true => F R ls fun e s' => match backOk (partI (extraN (ν.items ++ rowNames ν.slots) s.lo s.items) s2.items) (partO (extraN (ν.items ++ rowNames ν.slots) s.lo s.items) s2.items) s2.lo s' with
        | true => k e { n := s'.n, lo := s'.lo, tmps := s'.tmps, items := s'.items ++ partI (extraN (ν.items ++ rowNames ν.slots) s.lo s.items) s2.items }
        | false => none
      | false => none
    | none => none
  | none => none

theorem loopOkF_of {P : Program} {E : Env} (hΘ : TypesOk P E.Θ) (hΓ : CtxOk P E.Γ) (hm : P.follows .mixedOrders = true) {ν : Nrm} {σ : Shp} {id : Nat} {body : Code} {F : (R : Type) → List Leaf → (X → AS → Option R) → Option R}
    (hlp : LoopsOk P E.lp body) (h : ∀ R ls k r, F R ls k = some r → ∃ fuel, roundsOf E ν id body k fuel (fill σ ls) = some r) : LoopOk P (mkLF ν σ F) id body := by
  intro R s k r hk
  unfold mkLF at hk
  generalize hX : extraN (ν.items ++ rowNames ν.slots) s.lo s.items = X at hk
  split at hk
  · rename_i s2 hn
    split at hk
    · rename_i ls hp
      split at hk
      · rename_i hb
        rw [Bool.and_eq_true] at hb
        obtain ⟨e, s', h1, h2⟩ := loop_reach hΘ hΓ hm hlp h hk
        rw [proj_fill hp] at h2
        split at h1
        · rename_i hbk
          simp only [backOk, Bool.and_eq_true] at hbk
          obtain ⟨b1, b2, b3, b4, b5⟩ := hbk
          refine ⟨e, _, h1, reaches_iff.2 fun w0 Mu ρ a w Q hs hQ => ?_⟩
          obtain ⟨ρ2, hs2⟩ := hs.nrm hn
          have hnd := hs2.nd
          have hnd2 : Nodup' (partO X s2.items ++ partI X s2.items) := nodup_append (nodup_partO hnd) (nodup_partI hnd) fun n h1 h2 => (names_partO h1).2 (names_partI h2).2
          have heq : Eqv s2 { n := s2.n, lo := s2.lo, tmps := s2.tmps, items := partO X s2.items ++ partI X s2.items } := by
            refine ⟨rfl, rfl, rfl, ?_⟩
            funext n
            show findI n s2.items = findI n (partO X s2.items ++ partI X s2.items)
            rw [findI_append, find_partO, find_partI]
            by_cases h : n ∈ X
            · simp [h]
            · simp only [h, if_false]
              cases findI n s2.items <;> rfl
          have hs3 := hs2.eqv heq hnd2
          refine reaches_iff.1 (reaches_frame h2 (beqT b1) hnd2 (nodup'_of ?_) hb.1 hb.2 b3 b4 b5) w0 Mu ρ2 a w Q hs3 hQ
          rw [putNames_append]; exact nodupN_iff.1 b2
        · cases h1
      · cases hk
    · cases hk
  · cases hk

/-! ### a function that is handed all -/

def svAVs : List SV → List AV
  | [] => []
  | v :: l => .s v :: svAVs l

def retN {R : Type} (Θ : Types) (np : Nat) (rv : List ResultVar) (k : List DV → Option R) (e : X) (s : AS) : Option R :=
  match e with
  | .exit _ => none
  | _ => match Nat.beq s.lo np with
   | false => none
   | true => match resSV Θ s rv with
    | some vs => k [.fr (svAVs vs) s.items]
    | none => none

def callN {R : Type} (E : Env) (np n : Nat) (body : Code) (rv : List ResultVar) (ds : List DV) (k : List DV → Option R) : Option R :=
  match ds with
  | [.fr avs its] => match Nat.beq avs.length np && Nat.ble np n with
    | true => exec E body { n := n, lo := np, tmps := numT 0 avs, items := its } (retN E.Θ np rv k)
    | false => none
  | _ => none

theorem svAVs_length : ∀ {l : List SV}, (svAVs l).length = l.length
  | [] => rfl
  | _ :: l => by simp [svAVs, svAVs_length (l := l)]
theorem svAVs_get : ∀ {l : List SV} {t : Nat}, (svAVs l)[t]? = (l[t]?).map AV.s
  | [], t => rfl
  | v :: l, 0 => rfl
  | v :: l, t + 1 => by simp [svAVs, svAVs_get (l := l)]

theorem inl_contract {P : Program} {E : Env} (hΘ : TypesOk P E.Θ) (hΓ : CtxOk P E.Γ) (hm : P.follows .mixedOrders = true) {g n np : Nat} {fn : Func} {body : Code} {rv : List ResultVar} (ok : FnOk P g fn n body rv) (hlp : LoopsOk P E.lp body) :
    Contract P g { sig := { ps := [], rs := [] }, impl := fun _ ds k => callN E np n body rv ds k, kind := .inl np } := by
  intro R ds k r h
  simp only at h
  unfold callN at h
  split at h
  · rename_i avs its
    split at h
    · rename_i hnp
      rw [Bool.and_eq_true] at hnp
      have hlen := beqT hnp.1
      have hle := ble_iff.1 hnp.2
      obtain ⟨e, s', h1, h2⟩ := (exec_sound hΘ hΓ hm body hlp).1 _ _ _ h
      have key : ∃ vs, (∀ i, e ≠ .exit i) ∧ resSV E.Θ s' rv = some vs ∧ k [.fr (svAVs vs) s'.items] = some r ∧ s'.lo = np := by
        unfold retN at h1
        split at h1
        · cases h1
        · rename_i he
          split at h1
          · cases h1
          · rename_i hlo
            split at h1
            · rename_i vs hvs
              exact ⟨vs, fun i h => he i h, hvs, h1, beqT hlo⟩
            · cases h1
      obtain ⟨vs, he, hvs, hk, hlo⟩ := key
      refine ⟨_, hk, ?_⟩
      intro avs' its' e1
      injection e1 with e1 _; injection e1 with e1 e2; subst e1; subst e2
      refine ⟨_, _, rfl, fun w Mu ρ xs hxl hs0 => ⟨⟨fn, ok.look, by rw [ok.body]; rfl, ok.name⟩, ?_⟩⟩
      have hn := ok.n
      subst hn
      refine calls_of_wp ok.look ok.body ?_
      have hs1 : Sim w Mu ρ { n := fn.ntmps, lo := np, tmps := numT 0 avs, items := its } { tmps := xs.toArray ++ Array.replicate (fn.ntmps - xs.toArray.size) undef, defers := [] } w := by
        refine ⟨rfl, hs0.nd, by simp; omega, ?_, hs0.hold, hs0.own, hs0.sep, hs0.lt, hs0.mono, hs0.frame, hs0.pin, hs0.still⟩
        intro t
        have hr := hs0.rel t
        by_cases ht : t < xs.length
        · have e : (xs.toArray ++ Array.replicate (fn.ntmps - xs.toArray.size) undef).getD t undef = xs.toArray.getD t undef := by
            rw [Array.getD_eq_getD_getElem?, Array.getElem?_append_left (by simpa using ht), Array.getD_eq_getD_getElem?]
          show RelV ρ _ _ ((xs.toArray ++ Array.replicate (fn.ntmps - xs.toArray.size) undef).getD t undef)
          rw [e]; exact hr
        · have e : AS.T { n := fn.ntmps, lo := np, tmps := numT 0 avs, items := its } t = .s (.one .dead) := by
            show findT t (numT 0 avs) = _
            rw [numT_find avs 0 t (Nat.zero_le _), Nat.sub_zero, List.getElem?_eq_none (by omega)]; rfl
          rw [e]; exact relDead _ _ _
      refine reaches_iff.1 h2 w Mu ρ _ _ _ hs1 ?_
      intro a' w' ρ' hs
      obtain ⟨Xs, x1, x2, x3, x4⟩ := resSV_spec hΘ hs hvs
      have hpost : a'.defers = [] ∧ ∃ v, (results fn a'.tmps).run P w' = .ok v w' ∧ ∃ Xs ρ', Ending.returned v = .returned (resVal Xs) ∧ Xs.length = (svAVs vs).length ∧
          Sim w Mu ρ' { n := (svAVs vs).length, lo := np, tmps := numT 0 (svAVs vs), items := s'.items } { tmps := Xs.toArray, defers := [] } w' := by
        refine ⟨hs.defers, resVal Xs, results_eq fn _ _ (by rw [ok.rv]; exact x4), Xs, ρ', rfl, by rw [svAVs_length]; omega, ?_⟩
        refine ⟨rfl, hs.nd, by rw [svAVs_length]; simp; omega, ?_, hs.hold, hs.own, hs.sep, hs.lt, hs.mono, hs.frame, by rw [← hlo]; exact hs.pin, hs.still⟩
        intro t
        show RelV ρ' _ (findT t (numT 0 (svAVs vs))) _
        rw [numT_find _ 0 t (Nat.zero_le _), Nat.sub_zero, svAVs_get]
        by_cases ht : t < vs.length
        · have hv := List.getElem?_eq_getElem ht
          have hX := List.getElem?_eq_getElem (l := Xs) (i := t) (by omega)
          have e : (Xs.toArray).getD t undef = Xs[t]'(by omega) := by
            rw [Array.getD_eq_getD_getElem?]; simp [hX]
          rw [hv]
          show RelV ρ' _ (.s vs[t]) ((Xs.toArray).getD t undef)
          rw [e]
          exact x3 t _ _ hv hX
        · rw [List.getElem?_eq_none (by omega)]; exact relDead _ _ _
      cases e with
      | normal => exact hpost
      | ret => exact hpost
      | exit i => exact absurd rfl (he i)
    · cases h
  · cases h

end Go.Eng

/- What the engine is told of this seat. MADE BY PROGRAM (wip/tools/facts.py). -/
namespace Go.Proofs.Ytcgolglcjfknpaa
open Go Go.Eng

set_option maxRecDepth 100000

def Th2 : Types := [(3, ⟨.int .i64, 1, 8, [.int .i64 0]⟩),
  (4, ⟨.bool, 1, 1, [.bool false]⟩),
  (5, ⟨.int .u8, 1, 1, [.int .u8 0]⟩),
  (23, ⟨.array 32 5, 32, 32, [.ints .u8 32 (List.replicate 32 0)]⟩),
  (32, ⟨.slice 5, 1, 24, [.nils]⟩),
  (39, ⟨.slice 32, 1, 24, [.nils]⟩),
  (40, ⟨.slice 100, 1, 24, [.nils]⟩),
  (41, ⟨.slice 102, 1, 24, [.nils]⟩),
  (42, ⟨.slice 65, 1, 24, [.nils]⟩),
  (43, ⟨.slice 104, 1, 24, [.nils]⟩),
  (44, ⟨.slice 106, 1, 24, [.nils]⟩),
  (45, ⟨.slice 108, 1, 24, [.nils]⟩),
  (46, ⟨.slice 110, 1, 24, [.nils]⟩),
  (47, ⟨.slice 112, 1, 24, [.nils]⟩),
  (48, ⟨.slice 114, 1, 24, [.nils]⟩),
  (49, ⟨.slice 116, 1, 24, [.nils]⟩),
  (50, ⟨.slice 118, 1, 24, [.nils]⟩),
  (51, ⟨.slice 120, 1, 24, [.nils]⟩),
  (52, ⟨.slice 122, 1, 24, [.nils]⟩),
  (53, ⟨.slice 124, 1, 24, [.nils]⟩),
  (55, ⟨.struct [(39, 0), (39, 1), (40, 2), (40, 3), (41, 4), (41, 5), (42, 6), (42, 7), (43, 8), (43, 9), (44, 10), (44, 11), (45, 12), (45, 13), (46, 14), (46, 15), (47, 16), (47, 17), (48, 18), (48, 19), (49, 20), (49, 21), (50, 22), (50, 23), (51, 24), (51, 25), (52, 26), (52, 27), (53, 28), (53, 29)], 30, 720, [.nils, .nils, .nils, .nils, .nils, .nils, .nils, .nils, .nils, .nils, .nils, .nils, .nils, .nils, .nils, .nils, .nils, .nils, .nils, .nils, .nils, .nils, .nils, .nils, .nils, .nils, .nils, .nils, .nils, .nils]⟩),
  (65, ⟨.slice 23, 1, 24, [.nils]⟩),
  (91, ⟨.int .u64, 1, 8, [.int .u64 0]⟩),
  (100, ⟨.slice 3, 1, 24, [.nils]⟩),
  (102, ⟨.slice 140, 1, 24, [.nils]⟩),
  (104, ⟨.slice 141, 1, 24, [.nils]⟩),
  (106, ⟨.slice 142, 1, 24, [.nils]⟩),
  (108, ⟨.slice 143, 1, 24, [.nils]⟩),
  (110, ⟨.slice 144, 1, 24, [.nils]⟩),
  (112, ⟨.slice 146, 1, 24, [.nils]⟩),
  (114, ⟨.slice 147, 1, 24, [.nils]⟩),
  (116, ⟨.slice 148, 1, 24, [.nils]⟩),
  (118, ⟨.slice 150, 1, 24, [.nils]⟩),
  (120, ⟨.slice 152, 1, 24, [.nils]⟩),
  (122, ⟨.slice 154, 1, 24, [.nils]⟩),
  (124, ⟨.slice 156, 1, 24, [.nils]⟩),
  (140, ⟨.int .u32, 1, 4, [.int .u32 0]⟩),
  (141, ⟨.array 32 5, 32, 32, [.ints .u8 32 (List.replicate 32 0)]⟩),
  (142, ⟨.array 32 5, 32, 32, [.ints .u8 32 (List.replicate 32 0)]⟩),
  (143, ⟨.array 32 5, 32, 32, [.ints .u8 32 (List.replicate 32 0)]⟩),
  (144, ⟨.array 32 5, 32, 32, [.ints .u8 32 (List.replicate 32 0)]⟩),
  (146, ⟨.struct [(3, 0), (141, 1)], 33, 40, [.int .i64 0, .ints .u8 32 (List.replicate 32 0)]⟩),
  (147, ⟨.struct [(3, 0), (141, 1)], 33, 40, [.int .i64 0, .ints .u8 32 (List.replicate 32 0)]⟩),
  (148, ⟨.struct [(3, 0), (141, 1)], 33, 40, [.int .i64 0, .ints .u8 32 (List.replicate 32 0)]⟩),
  (150, ⟨.struct [(3, 0), (142, 1), (142, 33)], 65, 72, [.int .i64 0, .ints .u8 32 (List.replicate 32 0), .ints .u8 32 (List.replicate 32 0)]⟩),
  (152, ⟨.struct [(3, 0), (142, 1)], 33, 40, [.int .i64 0, .ints .u8 32 (List.replicate 32 0)]⟩),
  (154, ⟨.struct [(3, 0), (3, 1), (141, 2)], 34, 48, [.int .i64 0, .int .i64 0, .ints .u8 32 (List.replicate 32 0)]⟩),
  (156, ⟨.struct [(3, 0), (3, 1)], 2, 16, [.int .i64 0, .int .i64 0]⟩)]

theorem thOk2 : TypesOk Try.prog Th2 := tysB_ok (by kernel_rfl)

/-- what hangs on a pointer that was handed in -/
def hiL : List Nat := [0, hiN, hiN + 1, hiN + 2, hiN + 3, hiN + 4, hiN + 5, hiN + 6, hiN + 7, hiN + 8, hiN + 9, hiN + 10, hiN + 11]

/-- (*rime/rimeplain.Given).Bytes -/
noncomputable def B27 : Code := (Try.f27.body.getD .skip)
def S27 : Sig := { ps := [.mt, .view .u8 1], rs := [.fresh .u8 1] }
def R27 : List ResultVar := [.tmp 4]
def K27 : List Nat := [0, 1, 4, 5, 6, 7, 15, 26]
def N27_2 : Nrm := { slots := [.tmp 0, .tmp 1, .tmp 5, .tmp 7], items := [1, 11] }
def N27_0 : Nrm := { slots := [.tmp 0, .tmp 1, .tmp 5, .tmp 6], items := [1, 11] }
noncomputable def B27_2 : Code := bodyIn 2 (loopsIn B27)
noncomputable def B27_0 : Code := bodyIn 0 (loopsIn B27)
def N27 : Nrms := [(2, N27_2), (0, N27_0)]
theorem ok27 : FnOk Try.prog 27 Try.f27 61 B27 R27 := ⟨by kernel_rfl, by kernel_rfl, by kernel_rfl, by kernel_rfl, by decide +kernel⟩

/-- (*rime/rimeplain.Given).Intact -/
noncomputable def B34 : Code := (Try.f34.body.getD .skip)
def S34 : Sig := { ps := [.mt], rs := [.val] }
def R34 : List ResultVar := [.tmp 2]
def K34 : List Nat := [0, 2, 3, 4, 5, 6, 7, 8, 9, 10, 11, 12, 13, 14, 15, 16, 17, 24, 42, 49, 67, 74, 92, 99, 117, 124, 142, 149, 167, 174, 192, 199, 217, 224, 242, 249, 267, 274, 292, 299, 317, 324, 342, 349, 367, 374, 392]
def N34_28 : Nrm := { slots := [.tmp 0, .tmp 17], items := hiL }
def N34_26 : Nrm := { slots := [.tmp 0, .tmp 16], items := hiL }
def N34_24 : Nrm := { slots := [.tmp 0, .tmp 15], items := hiL }
def N34_22 : Nrm := { slots := [.tmp 0, .tmp 14], items := hiL }
def N34_20 : Nrm := { slots := [.tmp 0, .tmp 13], items := hiL }
def N34_18 : Nrm := { slots := [.tmp 0, .tmp 12], items := hiL }
def N34_16 : Nrm := { slots := [.tmp 0, .tmp 11], items := hiL }
def N34_14 : Nrm := { slots := [.tmp 0, .tmp 10], items := hiL }
def N34_12 : Nrm := { slots := [.tmp 0, .tmp 9], items := hiL }
def N34_10 : Nrm := { slots := [.tmp 0, .tmp 8], items := hiL }
def N34_8 : Nrm := { slots := [.tmp 0, .tmp 7], items := hiL }
def N34_6 : Nrm := { slots := [.tmp 0, .tmp 6], items := hiL }
def N34_4 : Nrm := { slots := [.tmp 0, .tmp 5], items := hiL }
def N34_2 : Nrm := { slots := [.tmp 0, .tmp 4], items := hiL }
def N34_0 : Nrm := { slots := [.tmp 0, .tmp 3], items := hiL }
noncomputable def B34_28 : Code := bodyIn 28 (loopsIn B34)
noncomputable def B34_26 : Code := bodyIn 26 (loopsIn B34)
noncomputable def B34_24 : Code := bodyIn 24 (loopsIn B34)
noncomputable def B34_22 : Code := bodyIn 22 (loopsIn B34)
noncomputable def B34_20 : Code := bodyIn 20 (loopsIn B34)
noncomputable def B34_18 : Code := bodyIn 18 (loopsIn B34)
noncomputable def B34_16 : Code := bodyIn 16 (loopsIn B34)
noncomputable def B34_14 : Code := bodyIn 14 (loopsIn B34)
noncomputable def B34_12 : Code := bodyIn 12 (loopsIn B34)
noncomputable def B34_10 : Code := bodyIn 10 (loopsIn B34)
noncomputable def B34_8 : Code := bodyIn 8 (loopsIn B34)
noncomputable def B34_6 : Code := bodyIn 6 (loopsIn B34)
noncomputable def B34_4 : Code := bodyIn 4 (loopsIn B34)
noncomputable def B34_2 : Code := bodyIn 2 (loopsIn B34)
noncomputable def B34_0 : Code := bodyIn 0 (loopsIn B34)
def N34 : Nrms := [(28, N34_28), (26, N34_26), (24, N34_24), (22, N34_22), (20, N34_20), (18, N34_18), (16, N34_16), (14, N34_14), (12, N34_12), (10, N34_10), (8, N34_8), (6, N34_6), (4, N34_4), (2, N34_2), (0, N34_0)]
theorem ok34 : FnOk Try.prog 34 Try.f34 393 B34 R34 := ⟨by kernel_rfl, by kernel_rfl, by kernel_rfl, by kernel_rfl, by decide +kernel⟩

/-- rime/rimeplain.markBytes -/
noncomputable def B78 : Code := (Try.f78.body.getD .skip)
def S78 : Sig := { ps := [.val, .val], rs := [.val] }
def R78 : List ResultVar := [.tmp 4]
def K78 : List Nat := [0, 1, 4]
def N78 : Nrms := []
theorem ok78 : FnOk Try.prog 78 Try.f78 12 B78 R78 := ⟨by kernel_rfl, by kernel_rfl, by kernel_rfl, by kernel_rfl, by decide +kernel⟩

/-- rime/rimeplain.CopyBytes -/
noncomputable def B79 : Code := (Try.f79.body.getD .skip)
def S79 : Sig := { ps := [.view .u8 1], rs := [.fresh .u8 1] }
def R79 : List ResultVar := [.tmp 2]
def K79 : List Nat := [0, 2, 3]
def N79 : Nrms := []
theorem ok79 : FnOk Try.prog 79 Try.f79 8 B79 R79 := ⟨by kernel_rfl, by kernel_rfl, by kernel_rfl, by kernel_rfl, by decide +kernel⟩

/-- rime/rimeplain.SameBytes -/
noncomputable def B80 : Code := (Try.f80.body.getD .skip)
def S80 : Sig := { ps := [.view .u8 1, .view .u8 1], rs := [.val] }
def R80 : List ResultVar := [.tmp 4]
def K80 : List Nat := [0, 1, 4, 5, 10, 14, 25]
def N80_0 : Nrm := { slots := [.tmp 0, .tmp 1, .tmp 5], items := [0, 1] }
noncomputable def B80_0 : Code := bodyIn 0 (loopsIn B80)
def N80 : Nrms := [(0, N80_0)]
theorem ok80 : FnOk Try.prog 80 Try.f80 26 B80 R80 := ⟨by kernel_rfl, by kernel_rfl, by kernel_rfl, by kernel_rfl, by decide +kernel⟩

/-- (*rime/rimeplain.Given).Fes -/
noncomputable def B58 : Code := (Try.f58.body.getD .skip)
def S58 : Sig := { ps := [.mt, .view .u8 32], rs := [.fresh .u8 32] }
def R58 : List ResultVar := [.tmp 4]
def K58 : List Nat := [0, 1, 4, 5, 6, 7, 15, 26]
def N58_2 : Nrm := { slots := [.tmp 0, .tmp 1, .tmp 5, .tmp 7], items := [1, 11] }
def N58_0 : Nrm := { slots := [.tmp 0, .tmp 1, .tmp 5, .tmp 6], items := [1, 11] }
noncomputable def B58_2 : Code := bodyIn 2 (loopsIn B58)
noncomputable def B58_0 : Code := bodyIn 0 (loopsIn B58)
def N58 : Nrms := [(2, N58_2), (0, N58_0)]
theorem ok58 : FnOk Try.prog 58 Try.f58 61 B58 R58 := ⟨by kernel_rfl, by kernel_rfl, by kernel_rfl, by kernel_rfl, by decide +kernel⟩

/-- rime/rimeplain.markFes -/
noncomputable def B101 : Code := (Try.f101.body.getD .skip)
def S101 : Sig := { ps := [.val, .val], rs := [.val] }
def R101 : List ResultVar := [.cell 4 23]
def K101 : List Nat := [0, 1, 4]
def N101 : Nrms := []
theorem ok101 : FnOk Try.prog 101 Try.f101 16 B101 R101 := ⟨by kernel_rfl, by kernel_rfl, by kernel_rfl, by kernel_rfl, by decide +kernel⟩

end Go.Proofs.Ytcgolglcjfknpaa

