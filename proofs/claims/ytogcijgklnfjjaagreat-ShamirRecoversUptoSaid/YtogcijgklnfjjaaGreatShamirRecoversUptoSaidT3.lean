/- A part of the proof: ShamirRecovers: for any shares, place and threshold whose data stay within 1,048,576: Interpolate, Recover and Consistent answer as the document. -/
import Derived.Test.YtogcijgklnfjjaaGreatShamirRecoversUptoSaidT2
set_option linter.unusedVariables false
set_option linter.unusedSimpArgs false

namespace Go.Proofs.YtogcijgklnfjjaaGreat
noncomputable section
open Go Go.Eng
set_option maxRecDepth 100000
set_option linter.unusedVariables false
def f114_raw {R : Type} (N : Nat) (x : List Int) (k : List DV → Option R) : Option R :=
 let v0 := IntKind.i64.wrap (Int.tdiv 0 8);
let v1 := IntKind.i64.wrap (8 * Int.tmod 0 8);
let v2 := shrI .u64 (x.getD (mulE v0.toNat 1) 0) v1;
let v3 := IntKind.u8.wrap v2;
let v4 := (List.replicate 32 0).set (mulE (Int.toNat 0) 1) v3;
let v5 := IntKind.i64.wrap (0 + 1);
let v6 := IntKind.i64.wrap (v5.tdiv 8);
let v7 := IntKind.i64.wrap (8 * v5.tmod 8);
let v8 := shrI .u64 (x.getD (mulE v6.toNat 1) 0) v7;
let v9 := IntKind.u8.wrap v8;
let v10 := v4.set (mulE v5.toNat 1) v9;
let v11 := IntKind.i64.wrap (v5 + 1);
let v12 := IntKind.i64.wrap (v11.tdiv 8);
let v13 := IntKind.i64.wrap (8 * v11.tmod 8);
let v14 := shrI .u64 (x.getD (mulE v12.toNat 1) 0) v13;
let v15 := IntKind.u8.wrap v14;
let v16 := v10.set (mulE v11.toNat 1) v15;
let v17 := IntKind.i64.wrap (v11 + 1);
let v18 := IntKind.i64.wrap (v17.tdiv 8);
let v19 := IntKind.i64.wrap (8 * v17.tmod 8);
let v20 := shrI .u64 (x.getD (mulE v18.toNat 1) 0) v19;
let v21 := IntKind.u8.wrap v20;
let v22 := v16.set (mulE v17.toNat 1) v21;
let v23 := IntKind.i64.wrap (v17 + 1);
let v24 := IntKind.i64.wrap (v23.tdiv 8);
let v25 := IntKind.i64.wrap (8 * v23.tmod 8);
let v26 := shrI .u64 (x.getD (mulE v24.toNat 1) 0) v25;
let v27 := IntKind.u8.wrap v26;
let v28 := v22.set (mulE v23.toNat 1) v27;
let v29 := IntKind.i64.wrap (v23 + 1);
let v30 := IntKind.i64.wrap (v29.tdiv 8);
let v31 := IntKind.i64.wrap (8 * v29.tmod 8);
let v32 := shrI .u64 (x.getD (mulE v30.toNat 1) 0) v31;
let v33 := IntKind.u8.wrap v32;
let v34 := v28.set (mulE v29.toNat 1) v33;
let v35 := IntKind.i64.wrap (v29 + 1);
let v36 := IntKind.i64.wrap (v35.tdiv 8);
let v37 := IntKind.i64.wrap (8 * v35.tmod 8);
let v38 := shrI .u64 (x.getD (mulE v36.toNat 1) 0) v37;
let v39 := IntKind.u8.wrap v38;
let v40 := v34.set (mulE v35.toNat 1) v39;
let v41 := IntKind.i64.wrap (v35 + 1);
let v42 := IntKind.i64.wrap (v41.tdiv 8);
let v43 := IntKind.i64.wrap (8 * v41.tmod 8);
let v44 := shrI .u64 (x.getD (mulE v42.toNat 1) 0) v43;
let v45 := IntKind.u8.wrap v44;
let v46 := v40.set (mulE v41.toNat 1) v45;
let v47 := IntKind.i64.wrap (v41 + 1);
let v48 := IntKind.i64.wrap (v47.tdiv 8);
let v49 := IntKind.i64.wrap (8 * v47.tmod 8);
let v50 := shrI .u64 (x.getD (mulE v48.toNat 1) 0) v49;
let v51 := IntKind.u8.wrap v50;
let v52 := v46.set (mulE v47.toNat 1) v51;
let v53 := IntKind.i64.wrap (v47 + 1);
let v54 := IntKind.i64.wrap (v53.tdiv 8);
let v55 := IntKind.i64.wrap (8 * v53.tmod 8);
let v56 := shrI .u64 (x.getD (mulE v54.toNat 1) 0) v55;
let v57 := IntKind.u8.wrap v56;
let v58 := v52.set (mulE v53.toNat 1) v57;
let v59 := IntKind.i64.wrap (v53 + 1);
let v60 := IntKind.i64.wrap (v59.tdiv 8);
let v61 := IntKind.i64.wrap (8 * v59.tmod 8);
let v62 := shrI .u64 (x.getD (mulE v60.toNat 1) 0) v61;
let v63 := IntKind.u8.wrap v62;
let v64 := v58.set (mulE v59.toNat 1) v63;
let v65 := IntKind.i64.wrap (v59 + 1);
let v66 := IntKind.i64.wrap (v65.tdiv 8);
let v67 := IntKind.i64.wrap (8 * v65.tmod 8);
let v68 := shrI .u64 (x.getD (mulE v66.toNat 1) 0) v67;
let v69 := IntKind.u8.wrap v68;
let v70 := v64.set (mulE v65.toNat 1) v69;
let v71 := IntKind.i64.wrap (v65 + 1);
let v72 := IntKind.i64.wrap (v71.tdiv 8);
let v73 := IntKind.i64.wrap (8 * v71.tmod 8);
let v74 := shrI .u64 (x.getD (mulE v72.toNat 1) 0) v73;
let v75 := IntKind.u8.wrap v74;
let v76 := v70.set (mulE v71.toNat 1) v75;
let v77 := IntKind.i64.wrap (v71 + 1);
let v78 := IntKind.i64.wrap (v77.tdiv 8);
let v79 := IntKind.i64.wrap (8 * v77.tmod 8);
let v80 := shrI .u64 (x.getD (mulE v78.toNat 1) 0) v79;
let v81 := IntKind.u8.wrap v80;
let v82 := v76.set (mulE v77.toNat 1) v81;
let v83 := IntKind.i64.wrap (v77 + 1);
let v84 := IntKind.i64.wrap (v83.tdiv 8);
let v85 := IntKind.i64.wrap (8 * v83.tmod 8);
let v86 := shrI .u64 (x.getD (mulE v84.toNat 1) 0) v85;
let v87 := IntKind.u8.wrap v86;
let v88 := v82.set (mulE v83.toNat 1) v87;
let v89 := IntKind.i64.wrap (v83 + 1);
let v90 := IntKind.i64.wrap (v89.tdiv 8);
let v91 := IntKind.i64.wrap (8 * v89.tmod 8);
let v92 := shrI .u64 (x.getD (mulE v90.toNat 1) 0) v91;
let v93 := IntKind.u8.wrap v92;
let v94 := v88.set (mulE v89.toNat 1) v93;
let v95 := IntKind.i64.wrap (v89 + 1);
let v96 := IntKind.i64.wrap (v95.tdiv 8);
let v97 := IntKind.i64.wrap (8 * v95.tmod 8);
let v98 := shrI .u64 (x.getD (mulE v96.toNat 1) 0) v97;
let v99 := IntKind.u8.wrap v98;
let v100 := v94.set (mulE v95.toNat 1) v99;
let v101 := IntKind.i64.wrap (v95 + 1);
let v102 := IntKind.i64.wrap (v101.tdiv 8);
let v103 := IntKind.i64.wrap (8 * v101.tmod 8);
let v104 := shrI .u64 (x.getD (mulE v102.toNat 1) 0) v103;
let v105 := IntKind.u8.wrap v104;
let v106 := v100.set (mulE v101.toNat 1) v105;
let v107 := IntKind.i64.wrap (v101 + 1);
let v108 := IntKind.i64.wrap (v107.tdiv 8);
let v109 := IntKind.i64.wrap (8 * v107.tmod 8);
let v110 := shrI .u64 (x.getD (mulE v108.toNat 1) 0) v109;
let v111 := IntKind.u8.wrap v110;
let v112 := v106.set (mulE v107.toNat 1) v111;
let v113 := IntKind.i64.wrap (v107 + 1);
let v114 := IntKind.i64.wrap (v113.tdiv 8);
let v115 := IntKind.i64.wrap (8 * v113.tmod 8);
let v116 := shrI .u64 (x.getD (mulE v114.toNat 1) 0) v115;
let v117 := IntKind.u8.wrap v116;
let v118 := v112.set (mulE v113.toNat 1) v117;
let v119 := IntKind.i64.wrap (v113 + 1);
let v120 := IntKind.i64.wrap (v119.tdiv 8);
let v121 := IntKind.i64.wrap (8 * v119.tmod 8);
let v122 := shrI .u64 (x.getD (mulE v120.toNat 1) 0) v121;
let v123 := IntKind.u8.wrap v122;
let v124 := v118.set (mulE v119.toNat 1) v123;
let v125 := IntKind.i64.wrap (v119 + 1);
let v126 := IntKind.i64.wrap (v125.tdiv 8);
let v127 := IntKind.i64.wrap (8 * v125.tmod 8);
let v128 := shrI .u64 (x.getD (mulE v126.toNat 1) 0) v127;
let v129 := IntKind.u8.wrap v128;
let v130 := v124.set (mulE v125.toNat 1) v129;
let v131 := IntKind.i64.wrap (v125 + 1);
let v132 := IntKind.i64.wrap (v131.tdiv 8);
let v133 := IntKind.i64.wrap (8 * v131.tmod 8);
let v134 := shrI .u64 (x.getD (mulE v132.toNat 1) 0) v133;
let v135 := IntKind.u8.wrap v134;
let v136 := v130.set (mulE v131.toNat 1) v135;
let v137 := IntKind.i64.wrap (v131 + 1);
let v138 := IntKind.i64.wrap (v137.tdiv 8);
let v139 := IntKind.i64.wrap (8 * v137.tmod 8);
let v140 := shrI .u64 (x.getD (mulE v138.toNat 1) 0) v139;
let v141 := IntKind.u8.wrap v140;
let v142 := v136.set (mulE v137.toNat 1) v141;
let v143 := IntKind.i64.wrap (v137 + 1);
let v144 := IntKind.i64.wrap (v143.tdiv 8);
let v145 := IntKind.i64.wrap (8 * v143.tmod 8);
let v146 := shrI .u64 (x.getD (mulE v144.toNat 1) 0) v145;
let v147 := IntKind.u8.wrap v146;
let v148 := v142.set (mulE v143.toNat 1) v147;
let v149 := IntKind.i64.wrap (v143 + 1);
let v150 := IntKind.i64.wrap (v149.tdiv 8);
let v151 := IntKind.i64.wrap (8 * v149.tmod 8);
let v152 := shrI .u64 (x.getD (mulE v150.toNat 1) 0) v151;
let v153 := IntKind.u8.wrap v152;
let v154 := v148.set (mulE v149.toNat 1) v153;
let v155 := IntKind.i64.wrap (v149 + 1);
let v156 := IntKind.i64.wrap (v155.tdiv 8);
let v157 := IntKind.i64.wrap (8 * v155.tmod 8);
let v158 := shrI .u64 (x.getD (mulE v156.toNat 1) 0) v157;
let v159 := IntKind.u8.wrap v158;
let v160 := v154.set (mulE v155.toNat 1) v159;
let v161 := IntKind.i64.wrap (v155 + 1);
let v162 := IntKind.i64.wrap (v161.tdiv 8);
let v163 := IntKind.i64.wrap (8 * v161.tmod 8);
let v164 := shrI .u64 (x.getD (mulE v162.toNat 1) 0) v163;
let v165 := IntKind.u8.wrap v164;
let v166 := v160.set (mulE v161.toNat 1) v165;
let v167 := IntKind.i64.wrap (v161 + 1);
let v168 := IntKind.i64.wrap (v167.tdiv 8);
let v169 := IntKind.i64.wrap (8 * v167.tmod 8);
let v170 := shrI .u64 (x.getD (mulE v168.toNat 1) 0) v169;
let v171 := IntKind.u8.wrap v170;
let v172 := v166.set (mulE v167.toNat 1) v171;
let v173 := IntKind.i64.wrap (v167 + 1);
let v174 := IntKind.i64.wrap (v173.tdiv 8);
let v175 := IntKind.i64.wrap (8 * v173.tmod 8);
let v176 := shrI .u64 (x.getD (mulE v174.toNat 1) 0) v175;
let v177 := IntKind.u8.wrap v176;
let v178 := v172.set (mulE v173.toNat 1) v177;
let v179 := IntKind.i64.wrap (v173 + 1);
let v180 := IntKind.i64.wrap (v179.tdiv 8);
let v181 := IntKind.i64.wrap (8 * v179.tmod 8);
let v182 := shrI .u64 (x.getD (mulE v180.toNat 1) 0) v181;
let v183 := IntKind.u8.wrap v182;
let v184 := v178.set (mulE v179.toNat 1) v183;
let v185 := IntKind.i64.wrap (v179 + 1);
let v186 := IntKind.i64.wrap (v185.tdiv 8);
let v187 := IntKind.i64.wrap (8 * v185.tmod 8);
let v188 := shrI .u64 (x.getD (mulE v186.toNat 1) 0) v187;
let v189 := IntKind.u8.wrap v188;
let v190 := v184.set (mulE v185.toNat 1) v189;
k [.v (.one (.ints .u8 32 v190))]
def E114 (N : Nat) : Env := { Θ := Th, Γ := [], K := K114, ν := N114, fuel := 60, lp := [] }
theorem f114_contract (N : Nat) (hΓ : CtxOk Tryz.prog []) : Contract Tryz.prog 114 { sig := S114, impl := fun _ ds k => call (E114 N) S114 21 B114 R114 ds k } :=
 call_contract (E := E114 N) thOk hΓ mixed ok114.look ok114.body ok114.n ok114.rv ok114.name rfl (by decide) (loopsOk_of (l := [(0, B114_0)]) (by kernel_rfl) (allOk_skip rfl trivial))
theorem f114_raw_eq {R : Type} (N : Nat) (x : List Int) (k : List DV → Option R) : call (E114 N) S114 21 B114 R114 [.v (.one (.ints .u64 4 x))] k = f114_raw N x k := by kernel_rfl
def f159_raw {R : Type} (N : Nat) (x : List Int) (k : List DV → Option R) : Option R :=
 let v0 := IntKind.i64.wrap (Int.tdiv 0 8);
let v1 := IntKind.u64.wrap (x.getD (mulE (Int.toNat 0) 1) 0);
let v2 := IntKind.i64.wrap (8 * Int.tmod 0 8);
let v3 := shlI .u64 v1 v2;
let v4 := orI .u64 ((List.replicate 4 0).getD (mulE v0.toNat 1) 0) v3;
let v5 : List Int := (List.replicate 4 0).set (mulE v0.toNat 1) v4;
let v6 := IntKind.i64.wrap (0 + 1);
let v7 := IntKind.i64.wrap (v6.tdiv 8);
let v8 := IntKind.u64.wrap (x.getD (mulE v6.toNat 1) 0);
let v9 := IntKind.i64.wrap (8 * v6.tmod 8);
let v10 := shlI .u64 v8 v9;
let v11 := orI .u64 (v5.getD (mulE v7.toNat 1) 0) v10;
let v12 := v5.set (mulE v7.toNat 1) v11;
let v13 := IntKind.i64.wrap (v6 + 1);
let v14 := IntKind.i64.wrap (v13.tdiv 8);
let v15 := IntKind.u64.wrap (x.getD (mulE v13.toNat 1) 0);
let v16 := IntKind.i64.wrap (8 * v13.tmod 8);
let v17 := shlI .u64 v15 v16;
let v18 := orI .u64 (v12.getD (mulE v14.toNat 1) 0) v17;
let v19 := v12.set (mulE v14.toNat 1) v18;
let v20 := IntKind.i64.wrap (v13 + 1);
let v21 := IntKind.i64.wrap (v20.tdiv 8);
let v22 := IntKind.u64.wrap (x.getD (mulE v20.toNat 1) 0);
let v23 := IntKind.i64.wrap (8 * v20.tmod 8);
let v24 := shlI .u64 v22 v23;
let v25 := orI .u64 (v19.getD (mulE v21.toNat 1) 0) v24;
let v26 := v19.set (mulE v21.toNat 1) v25;
let v27 := IntKind.i64.wrap (v20 + 1);
let v28 := IntKind.i64.wrap (v27.tdiv 8);
let v29 := IntKind.u64.wrap (x.getD (mulE v27.toNat 1) 0);
let v30 := IntKind.i64.wrap (8 * v27.tmod 8);
let v31 := shlI .u64 v29 v30;
let v32 := orI .u64 (v26.getD (mulE v28.toNat 1) 0) v31;
let v33 := v26.set (mulE v28.toNat 1) v32;
let v34 := IntKind.i64.wrap (v27 + 1);
let v35 := IntKind.i64.wrap (v34.tdiv 8);
let v36 := IntKind.u64.wrap (x.getD (mulE v34.toNat 1) 0);
let v37 := IntKind.i64.wrap (8 * v34.tmod 8);
let v38 := shlI .u64 v36 v37;
let v39 := orI .u64 (v33.getD (mulE v35.toNat 1) 0) v38;
let v40 := v33.set (mulE v35.toNat 1) v39;
let v41 := IntKind.i64.wrap (v34 + 1);
let v42 := IntKind.i64.wrap (v41.tdiv 8);
let v43 := IntKind.u64.wrap (x.getD (mulE v41.toNat 1) 0);
let v44 := IntKind.i64.wrap (8 * v41.tmod 8);
let v45 := shlI .u64 v43 v44;
let v46 := orI .u64 (v40.getD (mulE v42.toNat 1) 0) v45;
let v47 := v40.set (mulE v42.toNat 1) v46;
let v48 := IntKind.i64.wrap (v41 + 1);
let v49 := IntKind.i64.wrap (v48.tdiv 8);
let v50 := IntKind.u64.wrap (x.getD (mulE v48.toNat 1) 0);
let v51 := IntKind.i64.wrap (8 * v48.tmod 8);
let v52 := shlI .u64 v50 v51;
let v53 := orI .u64 (v47.getD (mulE v49.toNat 1) 0) v52;
let v54 := v47.set (mulE v49.toNat 1) v53;
let v55 := IntKind.i64.wrap (v48 + 1);
let v56 := IntKind.i64.wrap (v55.tdiv 8);
let v57 := IntKind.u64.wrap (x.getD (mulE v55.toNat 1) 0);
let v58 := IntKind.i64.wrap (8 * v55.tmod 8);
let v59 := shlI .u64 v57 v58;
let v60 := orI .u64 (v54.getD (mulE v56.toNat 1) 0) v59;
let v61 := v54.set (mulE v56.toNat 1) v60;
let v62 := IntKind.i64.wrap (v55 + 1);
let v63 := IntKind.i64.wrap (v62.tdiv 8);
let v64 := IntKind.u64.wrap (x.getD (mulE v62.toNat 1) 0);
let v65 := IntKind.i64.wrap (8 * v62.tmod 8);
let v66 := shlI .u64 v64 v65;
let v67 := orI .u64 (v61.getD (mulE v63.toNat 1) 0) v66;
let v68 := v61.set (mulE v63.toNat 1) v67;
let v69 := IntKind.i64.wrap (v62 + 1);
let v70 := IntKind.i64.wrap (v69.tdiv 8);
let v71 := IntKind.u64.wrap (x.getD (mulE v69.toNat 1) 0);
let v72 := IntKind.i64.wrap (8 * v69.tmod 8);
let v73 := shlI .u64 v71 v72;
let v74 := orI .u64 (v68.getD (mulE v70.toNat 1) 0) v73;
let v75 := v68.set (mulE v70.toNat 1) v74;
let v76 := IntKind.i64.wrap (v69 + 1);
let v77 := IntKind.i64.wrap (v76.tdiv 8);
let v78 := IntKind.u64.wrap (x.getD (mulE v76.toNat 1) 0);
let v79 := IntKind.i64.wrap (8 * v76.tmod 8);
let v80 := shlI .u64 v78 v79;
let v81 := orI .u64 (v75.getD (mulE v77.toNat 1) 0) v80;
let v82 := v75.set (mulE v77.toNat 1) v81;
let v83 := IntKind.i64.wrap (v76 + 1);
let v84 := IntKind.i64.wrap (v83.tdiv 8);
let v85 := IntKind.u64.wrap (x.getD (mulE v83.toNat 1) 0);
let v86 := IntKind.i64.wrap (8 * v83.tmod 8);
let v87 := shlI .u64 v85 v86;
let v88 := orI .u64 (v82.getD (mulE v84.toNat 1) 0) v87;
let v89 := v82.set (mulE v84.toNat 1) v88;
let v90 := IntKind.i64.wrap (v83 + 1);
let v91 := IntKind.i64.wrap (v90.tdiv 8);
let v92 := IntKind.u64.wrap (x.getD (mulE v90.toNat 1) 0);
let v93 := IntKind.i64.wrap (8 * v90.tmod 8);
let v94 := shlI .u64 v92 v93;
let v95 := orI .u64 (v89.getD (mulE v91.toNat 1) 0) v94;
let v96 := v89.set (mulE v91.toNat 1) v95;
let v97 := IntKind.i64.wrap (v90 + 1);
let v98 := IntKind.i64.wrap (v97.tdiv 8);
let v99 := IntKind.u64.wrap (x.getD (mulE v97.toNat 1) 0);
let v100 := IntKind.i64.wrap (8 * v97.tmod 8);
let v101 := shlI .u64 v99 v100;
let v102 := orI .u64 (v96.getD (mulE v98.toNat 1) 0) v101;
let v103 := v96.set (mulE v98.toNat 1) v102;
let v104 := IntKind.i64.wrap (v97 + 1);
let v105 := IntKind.i64.wrap (v104.tdiv 8);
let v106 := IntKind.u64.wrap (x.getD (mulE v104.toNat 1) 0);
let v107 := IntKind.i64.wrap (8 * v104.tmod 8);
let v108 := shlI .u64 v106 v107;
let v109 := orI .u64 (v103.getD (mulE v105.toNat 1) 0) v108;
let v110 := v103.set (mulE v105.toNat 1) v109;
let v111 := IntKind.i64.wrap (v104 + 1);
let v112 := IntKind.i64.wrap (v111.tdiv 8);
let v113 := IntKind.u64.wrap (x.getD (mulE v111.toNat 1) 0);
let v114 := IntKind.i64.wrap (8 * v111.tmod 8);
let v115 := shlI .u64 v113 v114;
let v116 := orI .u64 (v110.getD (mulE v112.toNat 1) 0) v115;
let v117 := v110.set (mulE v112.toNat 1) v116;
let v118 := IntKind.i64.wrap (v111 + 1);
let v119 := IntKind.i64.wrap (v118.tdiv 8);
let v120 := IntKind.u64.wrap (x.getD (mulE v118.toNat 1) 0);
let v121 := IntKind.i64.wrap (8 * v118.tmod 8);
let v122 := shlI .u64 v120 v121;
let v123 := orI .u64 (v117.getD (mulE v119.toNat 1) 0) v122;
let v124 := v117.set (mulE v119.toNat 1) v123;
let v125 := IntKind.i64.wrap (v118 + 1);
let v126 := IntKind.i64.wrap (v125.tdiv 8);
let v127 := IntKind.u64.wrap (x.getD (mulE v125.toNat 1) 0);
let v128 := IntKind.i64.wrap (8 * v125.tmod 8);
let v129 := shlI .u64 v127 v128;
let v130 := orI .u64 (v124.getD (mulE v126.toNat 1) 0) v129;
let v131 := v124.set (mulE v126.toNat 1) v130;
let v132 := IntKind.i64.wrap (v125 + 1);
let v133 := IntKind.i64.wrap (v132.tdiv 8);
let v134 := IntKind.u64.wrap (x.getD (mulE v132.toNat 1) 0);
let v135 := IntKind.i64.wrap (8 * v132.tmod 8);
let v136 := shlI .u64 v134 v135;
let v137 := orI .u64 (v131.getD (mulE v133.toNat 1) 0) v136;
let v138 := v131.set (mulE v133.toNat 1) v137;
let v139 := IntKind.i64.wrap (v132 + 1);
let v140 := IntKind.i64.wrap (v139.tdiv 8);
let v141 := IntKind.u64.wrap (x.getD (mulE v139.toNat 1) 0);
let v142 := IntKind.i64.wrap (8 * v139.tmod 8);
let v143 := shlI .u64 v141 v142;
let v144 := orI .u64 (v138.getD (mulE v140.toNat 1) 0) v143;
let v145 := v138.set (mulE v140.toNat 1) v144;
let v146 := IntKind.i64.wrap (v139 + 1);
let v147 := IntKind.i64.wrap (v146.tdiv 8);
let v148 := IntKind.u64.wrap (x.getD (mulE v146.toNat 1) 0);
let v149 := IntKind.i64.wrap (8 * v146.tmod 8);
let v150 := shlI .u64 v148 v149;
let v151 := orI .u64 (v145.getD (mulE v147.toNat 1) 0) v150;
let v152 := v145.set (mulE v147.toNat 1) v151;
let v153 := IntKind.i64.wrap (v146 + 1);
let v154 := IntKind.i64.wrap (v153.tdiv 8);
let v155 := IntKind.u64.wrap (x.getD (mulE v153.toNat 1) 0);
let v156 := IntKind.i64.wrap (8 * v153.tmod 8);
let v157 := shlI .u64 v155 v156;
let v158 := orI .u64 (v152.getD (mulE v154.toNat 1) 0) v157;
let v159 := v152.set (mulE v154.toNat 1) v158;
let v160 := IntKind.i64.wrap (v153 + 1);
let v161 := IntKind.i64.wrap (v160.tdiv 8);
let v162 := IntKind.u64.wrap (x.getD (mulE v160.toNat 1) 0);
let v163 := IntKind.i64.wrap (8 * v160.tmod 8);
let v164 := shlI .u64 v162 v163;
let v165 := orI .u64 (v159.getD (mulE v161.toNat 1) 0) v164;
let v166 := v159.set (mulE v161.toNat 1) v165;
let v167 := IntKind.i64.wrap (v160 + 1);
let v168 := IntKind.i64.wrap (v167.tdiv 8);
let v169 := IntKind.u64.wrap (x.getD (mulE v167.toNat 1) 0);
let v170 := IntKind.i64.wrap (8 * v167.tmod 8);
let v171 := shlI .u64 v169 v170;
let v172 := orI .u64 (v166.getD (mulE v168.toNat 1) 0) v171;
let v173 := v166.set (mulE v168.toNat 1) v172;
let v174 := IntKind.i64.wrap (v167 + 1);
let v175 := IntKind.i64.wrap (v174.tdiv 8);
let v176 := IntKind.u64.wrap (x.getD (mulE v174.toNat 1) 0);
let v177 := IntKind.i64.wrap (8 * v174.tmod 8);
let v178 := shlI .u64 v176 v177;
let v179 := orI .u64 (v173.getD (mulE v175.toNat 1) 0) v178;
let v180 := v173.set (mulE v175.toNat 1) v179;
let v181 := IntKind.i64.wrap (v174 + 1);
let v182 := IntKind.i64.wrap (v181.tdiv 8);
let v183 := IntKind.u64.wrap (x.getD (mulE v181.toNat 1) 0);
let v184 := IntKind.i64.wrap (8 * v181.tmod 8);
let v185 := shlI .u64 v183 v184;
let v186 := orI .u64 (v180.getD (mulE v182.toNat 1) 0) v185;
let v187 := v180.set (mulE v182.toNat 1) v186;
let v188 := IntKind.i64.wrap (v181 + 1);
let v189 := IntKind.i64.wrap (v188.tdiv 8);
let v190 := IntKind.u64.wrap (x.getD (mulE v188.toNat 1) 0);
let v191 := IntKind.i64.wrap (8 * v188.tmod 8);
let v192 := shlI .u64 v190 v191;
let v193 := orI .u64 (v187.getD (mulE v189.toNat 1) 0) v192;
let v194 := v187.set (mulE v189.toNat 1) v193;
let v195 := IntKind.i64.wrap (v188 + 1);
let v196 := IntKind.i64.wrap (v195.tdiv 8);
let v197 := IntKind.u64.wrap (x.getD (mulE v195.toNat 1) 0);
let v198 := IntKind.i64.wrap (8 * v195.tmod 8);
let v199 := shlI .u64 v197 v198;
let v200 := orI .u64 (v194.getD (mulE v196.toNat 1) 0) v199;
let v201 := v194.set (mulE v196.toNat 1) v200;
let v202 := IntKind.i64.wrap (v195 + 1);
let v203 := IntKind.i64.wrap (v202.tdiv 8);
let v204 := IntKind.u64.wrap (x.getD (mulE v202.toNat 1) 0);
let v205 := IntKind.i64.wrap (8 * v202.tmod 8);
let v206 := shlI .u64 v204 v205;
let v207 := orI .u64 (v201.getD (mulE v203.toNat 1) 0) v206;
let v208 := v201.set (mulE v203.toNat 1) v207;
let v209 := IntKind.i64.wrap (v202 + 1);
let v210 := IntKind.i64.wrap (v209.tdiv 8);
let v211 := IntKind.u64.wrap (x.getD (mulE v209.toNat 1) 0);
let v212 := IntKind.i64.wrap (8 * v209.tmod 8);
let v213 := shlI .u64 v211 v212;
let v214 := orI .u64 (v208.getD (mulE v210.toNat 1) 0) v213;
let v215 := v208.set (mulE v210.toNat 1) v214;
let v216 := IntKind.i64.wrap (v209 + 1);
let v217 := IntKind.i64.wrap (v216.tdiv 8);
let v218 := IntKind.u64.wrap (x.getD (mulE v216.toNat 1) 0);
let v219 := IntKind.i64.wrap (8 * v216.tmod 8);
let v220 := shlI .u64 v218 v219;
let v221 := orI .u64 (v215.getD (mulE v217.toNat 1) 0) v220;
let v222 := v215.set (mulE v217.toNat 1) v221;
k [.v (.one (.ints .u64 4 v222))]
def E159 (N : Nat) : Env := { Θ := Th, Γ := [], K := K159, ν := N159, fuel := 60, lp := [] }
theorem f159_contract (N : Nat) (hΓ : CtxOk Tryz.prog []) : Contract Tryz.prog 159 { sig := S159, impl := fun _ ds k => call (E159 N) S159 24 B159 R159 ds k } :=
 call_contract (E := E159 N) thOk hΓ mixed ok159.look ok159.body ok159.n ok159.rv ok159.name rfl (by decide) (loopsOk_of (l := [(0, B159_0)]) (by kernel_rfl) (allOk_skip rfl trivial))
theorem f159_raw_eq {R : Type} (N : Nat) (x : List Int) (k : List DV → Option R) : call (E159 N) S159 24 B159 R159 [.v (.one (.ints .u8 32 x))] k = f159_raw N x k := by kernel_rfl
def maHi (x y z c : Int) : Int := IntKind.u64.wrap (IntKind.u64.wrap (mulHi x y + addHi (mulLo x y) z 0) + addHi (addLo (mulLo x y) z 0) c 0)
def maLo (x y z c : Int) : Int := addLo (addLo (mulLo x y) z 0) c 0
def I190 : (R : Type) → List DV → (List DV → Option R) → Option R := fun _ ds k => match ds with
 | [.v (.one (.int .u64 x)), .v (.one (.int .u64 y)), .v (.one (.int .u64 z)), .v (.one (.int .u64 c))] => k [.v (.one (.int .u64 (maHi x y z c))), .v (.one (.int .u64 (maLo x y z c)))]
 | _ => none
theorem c190 : Contract Tryz.prog 190 { sig := S190, impl := I190 } := by
 refine Contract.refine fun R ds k r h => ⟨_, f190_contract 0 G102_ok, ?_⟩
 unfold I190 at h
 split at h
 ·
  rw [f190_raw_eq]; exact h
 ·
  cases h
theorem subHi_01 (x y c : Int) : (decide (subHi x y c = 0) || decide (subHi x y c = 1)) = true := by
 unfold subHi
 cases Nat.blt x.toNat (y.toNat + c.toNat) <;> rfl
def lessB : List Int → List Int → Int → Int
 | x :: xs, y :: ys, c => lessB xs ys (subHi x y c)
 | _, _, c => c
def lessD : List Int → List Int → Int → List Int
 | x :: xs, y :: ys, c => subLo x y c :: lessD xs ys (subHi x y c)
 | _, _, _ => []
def w4 (x : List Int) : List Int := [x.getD 0 0, x.getD 1 0, x.getD 2 0, x.getD 3 0]
def lessL (x y : List Int) : List Int := lessD (w4 x) (w4 y) 0
def under (x y : List Int) : Int := lessB (w4 x) (w4 y) 0
theorem f131_spec {R : Type} (x y : List Int) (k : List DV → Option R) : f131_raw 0 x y k = k [.v (.one (.ints .u64 4 (lessL x y))), .v (.one (.int .u64 (under x y)))] := by
 unfold f131_raw
 simp only [subHi_01, cond_true]
 rfl
def I131 : (R : Type) → List DV → (List DV → Option R) → Option R := fun _ ds k => match ds with
 | [.v (.one (.ints .u64 4 x)), .v (.one (.ints .u64 4 y))] => k [.v (.one (.ints .u64 4 (lessL x y))), .v (.one (.int .u64 (under x y)))]
 | _ => none
theorem c131 : Contract Tryz.prog 131 { sig := S131, impl := I131 } := by
 refine Contract.refine fun R ds k r h => ⟨_, f131_contract 0 G56_ok, ?_⟩
 unfold I131 at h
 split at h
 ·
  rw [f131_raw_eq, f131_spec]; exact h
 ·
  cases h
def backR (x : List Int) : List Int := ansL (f114_raw 0 x some) 0
theorem f114_spec {R : Type} (x : List Int) (k : List DV → Option R) : f114_raw 0 x k = k [.v (.one (.ints .u8 32 (backR x)))] := by kernel_rfl
def backS : { f : List Int → List Int // ∀ x, f x = backR x } := Classical.choice ⟨⟨backR, fun _ => rfl⟩⟩
def backL (x : List Int) : List Int := backS.1 x
theorem backL_eq (x : List Int) : backL x = backR x := backS.2 x
def I114 : (R : Type) → List DV → (List DV → Option R) → Option R := fun _ ds k => match ds with
 | [.v (.one (.ints .u64 4 x))] => k [.v (.one (.ints .u8 32 (backL x)))]
 | _ => none
theorem c114 : Contract Tryz.prog 114 { sig := S114, impl := I114 } := by
 refine Contract.refine fun R ds k r h => ⟨_, f114_contract 0 ctxOk_nil, ?_⟩
 unfold I114 at h
 split at h
 ·
  rw [f114_raw_eq, f114_spec, ← backL_eq]; exact h
 ·
  cases h
def fromR (x : List Int) : List Int := ansL (f159_raw 0 x some) 0
theorem f159_spec {R : Type} (x : List Int) (k : List DV → Option R) : f159_raw 0 x k = k [.v (.one (.ints .u64 4 (fromR x)))] := by kernel_rfl
def fromS : { f : List Int → List Int // ∀ x, f x = fromR x } := Classical.choice ⟨⟨fromR, fun _ => rfl⟩⟩
def fromL (x : List Int) : List Int := fromS.1 x
theorem fromL_eq (x : List Int) : fromL x = fromR x := fromS.2 x
def I159 : (R : Type) → List DV → (List DV → Option R) → Option R := fun _ ds k => match ds with
 | [.v (.one (.ints .u8 32 x))] => k [.v (.one (.ints .u64 4 (fromL x)))]
 | _ => none
theorem c159 : Contract Tryz.prog 159 { sig := S159, impl := I159 } := by
 refine Contract.refine fun R ds k r h => ⟨_, f159_contract 0 ctxOk_nil, ?_⟩
 unfold I159 at h
 split at h
 ·
  rw [f159_raw_eq, f159_spec, ← fromL_eq]; exact h
 ·
  cases h
def G79 : Ctx := [(132, { sig := S132, impl := I132 }), (131, { sig := S131, impl := I131 })]
theorem G79_ok : CtxOk Tryz.prog G79 := ctxOk_cons ok132 rfl c132 (ctxOk_cons ok131 rfl c131 ctxOk_nil)
def f158_raw {R : Type} (N : Nat) (x : List Int) (k : List DV → Option R) : Option R :=
 bif under x ordW == 0 then k [.v (.one (.ints .u64 4 (lessL x ordW)))] else k [.v (.one (.ints .u64 4 x))]
def E158 (N : Nat) : Env := { Θ := Th, Γ := G79, K := K158, ν := N158, fuel := 20, lp := [] }
theorem f158_contract (N : Nat) (hΓ : CtxOk Tryz.prog G79) : Contract Tryz.prog 158 { sig := S158, impl := fun _ ds k => call (E158 N) S158 15 B158 R158 ds k } :=
 call_contract (E := E158 N) thOk hΓ mixed ok158.look ok158.body ok158.n ok158.rv ok158.name rfl (by decide) (loopsOk_of (l := []) (by kernel_rfl) trivial)
theorem f158_raw_eq {R : Type} (N : Nat) (x : List Int) (k : List DV → Option R) : call (E158 N) S158 15 B158 R158 [.v (.one (.ints .u64 4 x))] k = f158_raw N x k := by kernel_rfl
def lowL (x : List Int) : List Int := bif under x ordW == 0 then lessL x ordW else x
def I158 : (R : Type) → List DV → (List DV → Option R) → Option R := fun _ ds k => match ds with
 | [.v (.one (.ints .u64 4 x))] => k [.v (.one (.ints .u64 4 (lowL x)))]
 | _ => none
theorem c158 : Contract Tryz.prog 158 { sig := S158, impl := I158 } := by
 refine Contract.refine fun R ds k r h => ⟨_, f158_contract 0 G79_ok, ?_⟩
 unfold I158 at h
 split at h
 ·
  rename_i x
  rw [f158_raw_eq]
  unfold f158_raw
  unfold lowL at h
  cases hc : under x ordW == 0 with
  | true => rw [hc] at h; exact h
  | false => rw [hc] at h; exact h
 ·
  cases h
def G54 : Ctx := [(157, { sig := SV33, impl := IAdd64 }), (158, { sig := S158, impl := I158 })]
theorem G54_ok : CtxOk Tryz.prog G54 := ctxOk_ext rfl c157 (ctxOk_cons ok158 rfl c158 ctxOk_nil)
def G82 : Ctx := [(132, { sig := S132, impl := I132 }), (157, { sig := SV33, impl := IAdd64 }), (158, { sig := S158, impl := I158 }), (190, { sig := S190, impl := I190 })]
theorem G82_ok : CtxOk Tryz.prog G82 := ctxOk_cons ok132 rfl c132 (ctxOk_ext rfl c157 (ctxOk_cons ok158 rfl c158 (ctxOk_cons ok190 rfl c190 ctxOk_nil)))
def G55 : Ctx := [(158, { sig := S158, impl := I158 }), (159, { sig := S159, impl := I159 })]
theorem G55_ok : CtxOk Tryz.prog G55 := ctxOk_cons ok158 rfl c158 (ctxOk_cons ok159 rfl c159 ctxOk_nil)
def f179_raw {R : Type} (N : Nat) (x y : List Int) (k : List DV → Option R) : Option R :=
 let v0 : List Int := (List.replicate 6 0).set (mulE (Int.toNat 0) 1) (maLo (x.getD (mulE (Int.toNat 0) 1) 0) (y.getD (mulE (Int.toNat 0) 1) 0) ((List.replicate 6 0).getD (mulE (Int.toNat 0) 1) 0) 0);
let v1 := IntKind.i64.wrap (0 + 1);
let v2 := v0.set (mulE v1.toNat 1) (maLo (x.getD (mulE (Int.toNat 0) 1) 0) (y.getD (mulE v1.toNat 1) 0) (v0.getD (mulE v1.toNat 1) 0) (maHi (x.getD (mulE (Int.toNat 0) 1) 0) (y.getD (mulE (Int.toNat 0) 1) 0) ((List.replicate 6 0).getD (mulE (Int.toNat 0) 1) 0) 0));
let v3 := IntKind.i64.wrap (v1 + 1);
let v4 := v2.set (mulE v3.toNat 1) (maLo (x.getD (mulE (Int.toNat 0) 1) 0) (y.getD (mulE v3.toNat 1) 0) (v2.getD (mulE v3.toNat 1) 0) (maHi (x.getD (mulE (Int.toNat 0) 1) 0) (y.getD (mulE v1.toNat 1) 0) (v0.getD (mulE v1.toNat 1) 0) (maHi (x.getD (mulE (Int.toNat 0) 1) 0) (y.getD (mulE (Int.toNat 0) 1) 0) ((List.replicate 6 0).getD (mulE (Int.toNat 0) 1) 0) 0)));
let v5 := IntKind.i64.wrap (v3 + 1);
let v6 := v4.set (mulE v5.toNat 1) (maLo (x.getD (mulE (Int.toNat 0) 1) 0) (y.getD (mulE v5.toNat 1) 0) (v4.getD (mulE v5.toNat 1) 0) (maHi (x.getD (mulE (Int.toNat 0) 1) 0) (y.getD (mulE v3.toNat 1) 0) (v2.getD (mulE v3.toNat 1) 0) (maHi (x.getD (mulE (Int.toNat 0) 1) 0) (y.getD (mulE v1.toNat 1) 0) (v0.getD (mulE v1.toNat 1) 0) (maHi (x.getD (mulE (Int.toNat 0) 1) 0) (y.getD (mulE (Int.toNat 0) 1) 0) ((List.replicate 6 0).getD (mulE (Int.toNat 0) 1) 0) 0))));
let v7 := v6.set (mulE (Int.toNat 4) 1) (addLo (v6.getD (mulE (Int.toNat 4) 1) 0) (maHi (x.getD (mulE (Int.toNat 0) 1) 0) (y.getD (mulE v5.toNat 1) 0) (v4.getD (mulE v5.toNat 1) 0) (maHi (x.getD (mulE (Int.toNat 0) 1) 0) (y.getD (mulE v3.toNat 1) 0) (v2.getD (mulE v3.toNat 1) 0) (maHi (x.getD (mulE (Int.toNat 0) 1) 0) (y.getD (mulE v1.toNat 1) 0) (v0.getD (mulE v1.toNat 1) 0) (maHi (x.getD (mulE (Int.toNat 0) 1) 0) (y.getD (mulE (Int.toNat 0) 1) 0) ((List.replicate 6 0).getD (mulE (Int.toNat 0) 1) 0) 0)))) 0);
let v8 := v7.set (mulE (Int.toNat 5) 1) (addHi (v6.getD (mulE (Int.toNat 4) 1) 0) (maHi (x.getD (mulE (Int.toNat 0) 1) 0) (y.getD (mulE v5.toNat 1) 0) (v4.getD (mulE v5.toNat 1) 0) (maHi (x.getD (mulE (Int.toNat 0) 1) 0) (y.getD (mulE v3.toNat 1) 0) (v2.getD (mulE v3.toNat 1) 0) (maHi (x.getD (mulE (Int.toNat 0) 1) 0) (y.getD (mulE v1.toNat 1) 0) (v0.getD (mulE v1.toNat 1) 0) (maHi (x.getD (mulE (Int.toNat 0) 1) 0) (y.getD (mulE (Int.toNat 0) 1) 0) ((List.replicate 6 0).getD (mulE (Int.toNat 0) 1) 0) 0)))) 0);
let v9 := IntKind.i64.wrap (1 - 1);
let v10 := IntKind.u64.wrap (v8.getD (mulE (Int.toNat 0) 1) 0 * 15183074304973897243);
let v11 := v8.set (mulE v9.toNat 1) (maLo v10 (ordW.getD (mulE (Int.toNat 1) 1) 0) (v8.getD (mulE (Int.toNat 1) 1) 0) (maHi v10 (ordW.getD (mulE (Int.toNat 0) 1) 0) (v8.getD (mulE (Int.toNat 0) 1) 0) 0));
let v12 := IntKind.i64.wrap (1 + 1);
let v13 := IntKind.i64.wrap (v12 - 1);
let v14 := v11.set (mulE v13.toNat 1) (maLo v10 (ordW.getD (mulE v12.toNat 1) 0) (v11.getD (mulE v12.toNat 1) 0) (maHi v10 (ordW.getD (mulE (Int.toNat 1) 1) 0) (v8.getD (mulE (Int.toNat 1) 1) 0) (maHi v10 (ordW.getD (mulE (Int.toNat 0) 1) 0) (v8.getD (mulE (Int.toNat 0) 1) 0) 0)));
let v15 := IntKind.i64.wrap (v12 + 1);
let v16 := IntKind.i64.wrap (v15 - 1);
let v17 := v14.set (mulE v16.toNat 1) (maLo v10 (ordW.getD (mulE v15.toNat 1) 0) (v14.getD (mulE v15.toNat 1) 0) (maHi v10 (ordW.getD (mulE v12.toNat 1) 0) (v11.getD (mulE v12.toNat 1) 0) (maHi v10 (ordW.getD (mulE (Int.toNat 1) 1) 0) (v8.getD (mulE (Int.toNat 1) 1) 0) (maHi v10 (ordW.getD (mulE (Int.toNat 0) 1) 0) (v8.getD (mulE (Int.toNat 0) 1) 0) 0))));
let v18 := v17.set (mulE (Int.toNat 3) 1) (addLo (v17.getD (mulE (Int.toNat 4) 1) 0) (maHi v10 (ordW.getD (mulE v15.toNat 1) 0) (v14.getD (mulE v15.toNat 1) 0) (maHi v10 (ordW.getD (mulE v12.toNat 1) 0) (v11.getD (mulE v12.toNat 1) 0) (maHi v10 (ordW.getD (mulE (Int.toNat 1) 1) 0) (v8.getD (mulE (Int.toNat 1) 1) 0) (maHi v10 (ordW.getD (mulE (Int.toNat 0) 1) 0) (v8.getD (mulE (Int.toNat 0) 1) 0) 0)))) 0);
let v19 := IntKind.u64.wrap (v18.getD (mulE (Int.toNat 5) 1) 0 + addHi (v17.getD (mulE (Int.toNat 4) 1) 0) (maHi v10 (ordW.getD (mulE v15.toNat 1) 0) (v14.getD (mulE v15.toNat 1) 0) (maHi v10 (ordW.getD (mulE v12.toNat 1) 0) (v11.getD (mulE v12.toNat 1) 0) (maHi v10 (ordW.getD (mulE (Int.toNat 1) 1) 0) (v8.getD (mulE (Int.toNat 1) 1) 0) (maHi v10 (ordW.getD (mulE (Int.toNat 0) 1) 0) (v8.getD (mulE (Int.toNat 0) 1) 0) 0)))) 0);
let v20 := v18.set (mulE (Int.toNat 4) 1) v19;
let v21 := v20.set (mulE (Int.toNat 0) 1) (maLo (x.getD (mulE v1.toNat 1) 0) (y.getD (mulE (Int.toNat 0) 1) 0) (v20.getD (mulE (Int.toNat 0) 1) 0) 0);
let v22 := v21.set (mulE v1.toNat 1) (maLo (x.getD (mulE v1.toNat 1) 0) (y.getD (mulE v1.toNat 1) 0) (v21.getD (mulE v1.toNat 1) 0) (maHi (x.getD (mulE v1.toNat 1) 0) (y.getD (mulE (Int.toNat 0) 1) 0) (v20.getD (mulE (Int.toNat 0) 1) 0) 0));
let v23 := v22.set (mulE v3.toNat 1) (maLo (x.getD (mulE v1.toNat 1) 0) (y.getD (mulE v3.toNat 1) 0) (v22.getD (mulE v3.toNat 1) 0) (maHi (x.getD (mulE v1.toNat 1) 0) (y.getD (mulE v1.toNat 1) 0) (v21.getD (mulE v1.toNat 1) 0) (maHi (x.getD (mulE v1.toNat 1) 0) (y.getD (mulE (Int.toNat 0) 1) 0) (v20.getD (mulE (Int.toNat 0) 1) 0) 0)));
let v24 := v23.set (mulE v5.toNat 1) (maLo (x.getD (mulE v1.toNat 1) 0) (y.getD (mulE v5.toNat 1) 0) (v23.getD (mulE v5.toNat 1) 0) (maHi (x.getD (mulE v1.toNat 1) 0) (y.getD (mulE v3.toNat 1) 0) (v22.getD (mulE v3.toNat 1) 0) (maHi (x.getD (mulE v1.toNat 1) 0) (y.getD (mulE v1.toNat 1) 0) (v21.getD (mulE v1.toNat 1) 0) (maHi (x.getD (mulE v1.toNat 1) 0) (y.getD (mulE (Int.toNat 0) 1) 0) (v20.getD (mulE (Int.toNat 0) 1) 0) 0))));
let v25 := v24.set (mulE (Int.toNat 4) 1) (addLo (v24.getD (mulE (Int.toNat 4) 1) 0) (maHi (x.getD (mulE v1.toNat 1) 0) (y.getD (mulE v5.toNat 1) 0) (v23.getD (mulE v5.toNat 1) 0) (maHi (x.getD (mulE v1.toNat 1) 0) (y.getD (mulE v3.toNat 1) 0) (v22.getD (mulE v3.toNat 1) 0) (maHi (x.getD (mulE v1.toNat 1) 0) (y.getD (mulE v1.toNat 1) 0) (v21.getD (mulE v1.toNat 1) 0) (maHi (x.getD (mulE v1.toNat 1) 0) (y.getD (mulE (Int.toNat 0) 1) 0) (v20.getD (mulE (Int.toNat 0) 1) 0) 0)))) 0);
let v26 := v25.set (mulE (Int.toNat 5) 1) (addHi (v24.getD (mulE (Int.toNat 4) 1) 0) (maHi (x.getD (mulE v1.toNat 1) 0) (y.getD (mulE v5.toNat 1) 0) (v23.getD (mulE v5.toNat 1) 0) (maHi (x.getD (mulE v1.toNat 1) 0) (y.getD (mulE v3.toNat 1) 0) (v22.getD (mulE v3.toNat 1) 0) (maHi (x.getD (mulE v1.toNat 1) 0) (y.getD (mulE v1.toNat 1) 0) (v21.getD (mulE v1.toNat 1) 0) (maHi (x.getD (mulE v1.toNat 1) 0) (y.getD (mulE (Int.toNat 0) 1) 0) (v20.getD (mulE (Int.toNat 0) 1) 0) 0)))) 0);
let v27 := IntKind.u64.wrap (v26.getD (mulE (Int.toNat 0) 1) 0 * 15183074304973897243);
let v28 := v26.set (mulE v9.toNat 1) (maLo v27 (ordW.getD (mulE (Int.toNat 1) 1) 0) (v26.getD (mulE (Int.toNat 1) 1) 0) (maHi v27 (ordW.getD (mulE (Int.toNat 0) 1) 0) (v26.getD (mulE (Int.toNat 0) 1) 0) 0));
let v29 := v28.set (mulE v13.toNat 1) (maLo v27 (ordW.getD (mulE v12.toNat 1) 0) (v28.getD (mulE v12.toNat 1) 0) (maHi v27 (ordW.getD (mulE (Int.toNat 1) 1) 0) (v26.getD (mulE (Int.toNat 1) 1) 0) (maHi v27 (ordW.getD (mulE (Int.toNat 0) 1) 0) (v26.getD (mulE (Int.toNat 0) 1) 0) 0)));
let v30 := v29.set (mulE v16.toNat 1) (maLo v27 (ordW.getD (mulE v15.toNat 1) 0) (v29.getD (mulE v15.toNat 1) 0) (maHi v27 (ordW.getD (mulE v12.toNat 1) 0) (v28.getD (mulE v12.toNat 1) 0) (maHi v27 (ordW.getD (mulE (Int.toNat 1) 1) 0) (v26.getD (mulE (Int.toNat 1) 1) 0) (maHi v27 (ordW.getD (mulE (Int.toNat 0) 1) 0) (v26.getD (mulE (Int.toNat 0) 1) 0) 0))));
let v31 := v30.set (mulE (Int.toNat 3) 1) (addLo (v30.getD (mulE (Int.toNat 4) 1) 0) (maHi v27 (ordW.getD (mulE v15.toNat 1) 0) (v29.getD (mulE v15.toNat 1) 0) (maHi v27 (ordW.getD (mulE v12.toNat 1) 0) (v28.getD (mulE v12.toNat 1) 0) (maHi v27 (ordW.getD (mulE (Int.toNat 1) 1) 0) (v26.getD (mulE (Int.toNat 1) 1) 0) (maHi v27 (ordW.getD (mulE (Int.toNat 0) 1) 0) (v26.getD (mulE (Int.toNat 0) 1) 0) 0)))) 0);
let v32 := IntKind.u64.wrap (v31.getD (mulE (Int.toNat 5) 1) 0 + addHi (v30.getD (mulE (Int.toNat 4) 1) 0) (maHi v27 (ordW.getD (mulE v15.toNat 1) 0) (v29.getD (mulE v15.toNat 1) 0) (maHi v27 (ordW.getD (mulE v12.toNat 1) 0) (v28.getD (mulE v12.toNat 1) 0) (maHi v27 (ordW.getD (mulE (Int.toNat 1) 1) 0) (v26.getD (mulE (Int.toNat 1) 1) 0) (maHi v27 (ordW.getD (mulE (Int.toNat 0) 1) 0) (v26.getD (mulE (Int.toNat 0) 1) 0) 0)))) 0);
let v33 := v31.set (mulE (Int.toNat 4) 1) v32;
let v34 := v33.set (mulE (Int.toNat 0) 1) (maLo (x.getD (mulE v3.toNat 1) 0) (y.getD (mulE (Int.toNat 0) 1) 0) (v33.getD (mulE (Int.toNat 0) 1) 0) 0);
let v35 := v34.set (mulE v1.toNat 1) (maLo (x.getD (mulE v3.toNat 1) 0) (y.getD (mulE v1.toNat 1) 0) (v34.getD (mulE v1.toNat 1) 0) (maHi (x.getD (mulE v3.toNat 1) 0) (y.getD (mulE (Int.toNat 0) 1) 0) (v33.getD (mulE (Int.toNat 0) 1) 0) 0));
let v36 := v35.set (mulE v3.toNat 1) (maLo (x.getD (mulE v3.toNat 1) 0) (y.getD (mulE v3.toNat 1) 0) (v35.getD (mulE v3.toNat 1) 0) (maHi (x.getD (mulE v3.toNat 1) 0) (y.getD (mulE v1.toNat 1) 0) (v34.getD (mulE v1.toNat 1) 0) (maHi (x.getD (mulE v3.toNat 1) 0) (y.getD (mulE (Int.toNat 0) 1) 0) (v33.getD (mulE (Int.toNat 0) 1) 0) 0)));
let v37 := v36.set (mulE v5.toNat 1) (maLo (x.getD (mulE v3.toNat 1) 0) (y.getD (mulE v5.toNat 1) 0) (v36.getD (mulE v5.toNat 1) 0) (maHi (x.getD (mulE v3.toNat 1) 0) (y.getD (mulE v3.toNat 1) 0) (v35.getD (mulE v3.toNat 1) 0) (maHi (x.getD (mulE v3.toNat 1) 0) (y.getD (mulE v1.toNat 1) 0) (v34.getD (mulE v1.toNat 1) 0) (maHi (x.getD (mulE v3.toNat 1) 0) (y.getD (mulE (Int.toNat 0) 1) 0) (v33.getD (mulE (Int.toNat 0) 1) 0) 0))));
let v38 := v37.set (mulE (Int.toNat 4) 1) (addLo (v37.getD (mulE (Int.toNat 4) 1) 0) (maHi (x.getD (mulE v3.toNat 1) 0) (y.getD (mulE v5.toNat 1) 0) (v36.getD (mulE v5.toNat 1) 0) (maHi (x.getD (mulE v3.toNat 1) 0) (y.getD (mulE v3.toNat 1) 0) (v35.getD (mulE v3.toNat 1) 0) (maHi (x.getD (mulE v3.toNat 1) 0) (y.getD (mulE v1.toNat 1) 0) (v34.getD (mulE v1.toNat 1) 0) (maHi (x.getD (mulE v3.toNat 1) 0) (y.getD (mulE (Int.toNat 0) 1) 0) (v33.getD (mulE (Int.toNat 0) 1) 0) 0)))) 0);
let v39 := v38.set (mulE (Int.toNat 5) 1) (addHi (v37.getD (mulE (Int.toNat 4) 1) 0) (maHi (x.getD (mulE v3.toNat 1) 0) (y.getD (mulE v5.toNat 1) 0) (v36.getD (mulE v5.toNat 1) 0) (maHi (x.getD (mulE v3.toNat 1) 0) (y.getD (mulE v3.toNat 1) 0) (v35.getD (mulE v3.toNat 1) 0) (maHi (x.getD (mulE v3.toNat 1) 0) (y.getD (mulE v1.toNat 1) 0) (v34.getD (mulE v1.toNat 1) 0) (maHi (x.getD (mulE v3.toNat 1) 0) (y.getD (mulE (Int.toNat 0) 1) 0) (v33.getD (mulE (Int.toNat 0) 1) 0) 0)))) 0);
let v40 := IntKind.u64.wrap (v39.getD (mulE (Int.toNat 0) 1) 0 * 15183074304973897243);
let v41 := v39.set (mulE v9.toNat 1) (maLo v40 (ordW.getD (mulE (Int.toNat 1) 1) 0) (v39.getD (mulE (Int.toNat 1) 1) 0) (maHi v40 (ordW.getD (mulE (Int.toNat 0) 1) 0) (v39.getD (mulE (Int.toNat 0) 1) 0) 0));
let v42 := v41.set (mulE v13.toNat 1) (maLo v40 (ordW.getD (mulE v12.toNat 1) 0) (v41.getD (mulE v12.toNat 1) 0) (maHi v40 (ordW.getD (mulE (Int.toNat 1) 1) 0) (v39.getD (mulE (Int.toNat 1) 1) 0) (maHi v40 (ordW.getD (mulE (Int.toNat 0) 1) 0) (v39.getD (mulE (Int.toNat 0) 1) 0) 0)));
let v43 := v42.set (mulE v16.toNat 1) (maLo v40 (ordW.getD (mulE v15.toNat 1) 0) (v42.getD (mulE v15.toNat 1) 0) (maHi v40 (ordW.getD (mulE v12.toNat 1) 0) (v41.getD (mulE v12.toNat 1) 0) (maHi v40 (ordW.getD (mulE (Int.toNat 1) 1) 0) (v39.getD (mulE (Int.toNat 1) 1) 0) (maHi v40 (ordW.getD (mulE (Int.toNat 0) 1) 0) (v39.getD (mulE (Int.toNat 0) 1) 0) 0))));
let v44 := v43.set (mulE (Int.toNat 3) 1) (addLo (v43.getD (mulE (Int.toNat 4) 1) 0) (maHi v40 (ordW.getD (mulE v15.toNat 1) 0) (v42.getD (mulE v15.toNat 1) 0) (maHi v40 (ordW.getD (mulE v12.toNat 1) 0) (v41.getD (mulE v12.toNat 1) 0) (maHi v40 (ordW.getD (mulE (Int.toNat 1) 1) 0) (v39.getD (mulE (Int.toNat 1) 1) 0) (maHi v40 (ordW.getD (mulE (Int.toNat 0) 1) 0) (v39.getD (mulE (Int.toNat 0) 1) 0) 0)))) 0);
let v45 := IntKind.u64.wrap (v44.getD (mulE (Int.toNat 5) 1) 0 + addHi (v43.getD (mulE (Int.toNat 4) 1) 0) (maHi v40 (ordW.getD (mulE v15.toNat 1) 0) (v42.getD (mulE v15.toNat 1) 0) (maHi v40 (ordW.getD (mulE v12.toNat 1) 0) (v41.getD (mulE v12.toNat 1) 0) (maHi v40 (ordW.getD (mulE (Int.toNat 1) 1) 0) (v39.getD (mulE (Int.toNat 1) 1) 0) (maHi v40 (ordW.getD (mulE (Int.toNat 0) 1) 0) (v39.getD (mulE (Int.toNat 0) 1) 0) 0)))) 0);
let v46 := v44.set (mulE (Int.toNat 4) 1) v45;
let v47 := v46.set (mulE (Int.toNat 0) 1) (maLo (x.getD (mulE v5.toNat 1) 0) (y.getD (mulE (Int.toNat 0) 1) 0) (v46.getD (mulE (Int.toNat 0) 1) 0) 0);
let v48 := v47.set (mulE v1.toNat 1) (maLo (x.getD (mulE v5.toNat 1) 0) (y.getD (mulE v1.toNat 1) 0) (v47.getD (mulE v1.toNat 1) 0) (maHi (x.getD (mulE v5.toNat 1) 0) (y.getD (mulE (Int.toNat 0) 1) 0) (v46.getD (mulE (Int.toNat 0) 1) 0) 0));
let v49 := v48.set (mulE v3.toNat 1) (maLo (x.getD (mulE v5.toNat 1) 0) (y.getD (mulE v3.toNat 1) 0) (v48.getD (mulE v3.toNat 1) 0) (maHi (x.getD (mulE v5.toNat 1) 0) (y.getD (mulE v1.toNat 1) 0) (v47.getD (mulE v1.toNat 1) 0) (maHi (x.getD (mulE v5.toNat 1) 0) (y.getD (mulE (Int.toNat 0) 1) 0) (v46.getD (mulE (Int.toNat 0) 1) 0) 0)));
let v50 := v49.set (mulE v5.toNat 1) (maLo (x.getD (mulE v5.toNat 1) 0) (y.getD (mulE v5.toNat 1) 0) (v49.getD (mulE v5.toNat 1) 0) (maHi (x.getD (mulE v5.toNat 1) 0) (y.getD (mulE v3.toNat 1) 0) (v48.getD (mulE v3.toNat 1) 0) (maHi (x.getD (mulE v5.toNat 1) 0) (y.getD (mulE v1.toNat 1) 0) (v47.getD (mulE v1.toNat 1) 0) (maHi (x.getD (mulE v5.toNat 1) 0) (y.getD (mulE (Int.toNat 0) 1) 0) (v46.getD (mulE (Int.toNat 0) 1) 0) 0))));
let v51 := v50.set (mulE (Int.toNat 4) 1) (addLo (v50.getD (mulE (Int.toNat 4) 1) 0) (maHi (x.getD (mulE v5.toNat 1) 0) (y.getD (mulE v5.toNat 1) 0) (v49.getD (mulE v5.toNat 1) 0) (maHi (x.getD (mulE v5.toNat 1) 0) (y.getD (mulE v3.toNat 1) 0) (v48.getD (mulE v3.toNat 1) 0) (maHi (x.getD (mulE v5.toNat 1) 0) (y.getD (mulE v1.toNat 1) 0) (v47.getD (mulE v1.toNat 1) 0) (maHi (x.getD (mulE v5.toNat 1) 0) (y.getD (mulE (Int.toNat 0) 1) 0) (v46.getD (mulE (Int.toNat 0) 1) 0) 0)))) 0);
let v52 := v51.set (mulE (Int.toNat 5) 1) (addHi (v50.getD (mulE (Int.toNat 4) 1) 0) (maHi (x.getD (mulE v5.toNat 1) 0) (y.getD (mulE v5.toNat 1) 0) (v49.getD (mulE v5.toNat 1) 0) (maHi (x.getD (mulE v5.toNat 1) 0) (y.getD (mulE v3.toNat 1) 0) (v48.getD (mulE v3.toNat 1) 0) (maHi (x.getD (mulE v5.toNat 1) 0) (y.getD (mulE v1.toNat 1) 0) (v47.getD (mulE v1.toNat 1) 0) (maHi (x.getD (mulE v5.toNat 1) 0) (y.getD (mulE (Int.toNat 0) 1) 0) (v46.getD (mulE (Int.toNat 0) 1) 0) 0)))) 0);
let v53 := IntKind.u64.wrap (v52.getD (mulE (Int.toNat 0) 1) 0 * 15183074304973897243);
let v54 := v52.set (mulE v9.toNat 1) (maLo v53 (ordW.getD (mulE (Int.toNat 1) 1) 0) (v52.getD (mulE (Int.toNat 1) 1) 0) (maHi v53 (ordW.getD (mulE (Int.toNat 0) 1) 0) (v52.getD (mulE (Int.toNat 0) 1) 0) 0));
let v55 := v54.set (mulE v13.toNat 1) (maLo v53 (ordW.getD (mulE v12.toNat 1) 0) (v54.getD (mulE v12.toNat 1) 0) (maHi v53 (ordW.getD (mulE (Int.toNat 1) 1) 0) (v52.getD (mulE (Int.toNat 1) 1) 0) (maHi v53 (ordW.getD (mulE (Int.toNat 0) 1) 0) (v52.getD (mulE (Int.toNat 0) 1) 0) 0)));
let v56 := v55.set (mulE v16.toNat 1) (maLo v53 (ordW.getD (mulE v15.toNat 1) 0) (v55.getD (mulE v15.toNat 1) 0) (maHi v53 (ordW.getD (mulE v12.toNat 1) 0) (v54.getD (mulE v12.toNat 1) 0) (maHi v53 (ordW.getD (mulE (Int.toNat 1) 1) 0) (v52.getD (mulE (Int.toNat 1) 1) 0) (maHi v53 (ordW.getD (mulE (Int.toNat 0) 1) 0) (v52.getD (mulE (Int.toNat 0) 1) 0) 0))));
let v57 := v56.set (mulE (Int.toNat 3) 1) (addLo (v56.getD (mulE (Int.toNat 4) 1) 0) (maHi v53 (ordW.getD (mulE v15.toNat 1) 0) (v55.getD (mulE v15.toNat 1) 0) (maHi v53 (ordW.getD (mulE v12.toNat 1) 0) (v54.getD (mulE v12.toNat 1) 0) (maHi v53 (ordW.getD (mulE (Int.toNat 1) 1) 0) (v52.getD (mulE (Int.toNat 1) 1) 0) (maHi v53 (ordW.getD (mulE (Int.toNat 0) 1) 0) (v52.getD (mulE (Int.toNat 0) 1) 0) 0)))) 0);
let v58 := IntKind.u64.wrap (v57.getD (mulE (Int.toNat 5) 1) 0 + addHi (v56.getD (mulE (Int.toNat 4) 1) 0) (maHi v53 (ordW.getD (mulE v15.toNat 1) 0) (v55.getD (mulE v15.toNat 1) 0) (maHi v53 (ordW.getD (mulE v12.toNat 1) 0) (v54.getD (mulE v12.toNat 1) 0) (maHi v53 (ordW.getD (mulE (Int.toNat 1) 1) 0) (v52.getD (mulE (Int.toNat 1) 1) 0) (maHi v53 (ordW.getD (mulE (Int.toNat 0) 1) 0) (v52.getD (mulE (Int.toNat 0) 1) 0) 0)))) 0);
let v59 := v57.set (mulE (Int.toNat 4) 1) v58;
let v60 : List Int := (List.replicate 4 0).set 0 (v59.getD (mulE (Int.toNat 0) 1) 0);
let v61 := v60.set 1 (v59.getD (mulE (Int.toNat 1) 1) 0);
let v62 := v61.set 2 (v59.getD (mulE (Int.toNat 2) 1) 0);
let v63 := v62.set 3 (v59.getD (mulE (Int.toNat 3) 1) 0);
k [.v (.one (.ints .u64 4 (lowL v63)))]
def E179 (N : Nat) : Env := { Θ := Th, Γ := G82, K := K179, ν := N179, fuel := 40, lp := [] }
theorem f179_contract (N : Nat) (hΓ : CtxOk Tryz.prog G82) : Contract Tryz.prog 179 { sig := S179, impl := fun _ ds k => call (E179 N) S179 101 B179 R179 ds k } :=
 call_contract (E := E179 N) thOk hΓ mixed ok179.look ok179.body ok179.n ok179.rv ok179.name rfl (by decide) (loopsOk_of (l := [(0, B179_0), (2, B179_2), (4, B179_4)]) (by kernel_rfl) (allOk_skip rfl (allOk_skip rfl (allOk_skip rfl trivial))))
theorem f179_raw_eq {R : Type} (N : Nat) (x y : List Int) (k : List DV → Option R) : call (E179 N) S179 101 B179 R179 [.v (.one (.ints .u64 4 x)), .v (.one (.ints .u64 4 y))] k = f179_raw N x y k := by kernel_rfl
def f115_raw {R : Type} (N : Nat) (x y : List Int) (k : List DV → Option R) : Option R :=
 bif decide (addHi (x.getD (mulE (Int.toNat 0) 1) 0) (y.getD (mulE (Int.toNat 0) 1) 0) 0 = 0) || decide (addHi (x.getD (mulE (Int.toNat 0) 1) 0) (y.getD (mulE (Int.toNat 0) 1) 0) 0 = 1) then
 let v0 := IntKind.i64.wrap (0 + 1);
 bif decide (addHi (x.getD (mulE v0.toNat 1) 0) (y.getD (mulE v0.toNat 1) 0) (addHi (x.getD (mulE (Int.toNat 0) 1) 0) (y.getD (mulE (Int.toNat 0) 1) 0) 0) = 0) || decide (addHi (x.getD (mulE v0.toNat 1) 0) (y.getD (mulE v0.toNat 1) 0) (addHi (x.getD (mulE (Int.toNat 0) 1) 0) (y.getD (mulE (Int.toNat 0) 1) 0) 0) = 1) then
 let v1 := IntKind.i64.wrap (v0 + 1);
 bif decide (addHi (x.getD (mulE v1.toNat 1) 0) (y.getD (mulE v1.toNat 1) 0) (addHi (x.getD (mulE v0.toNat 1) 0) (y.getD (mulE v0.toNat 1) 0) (addHi (x.getD (mulE (Int.toNat 0) 1) 0) (y.getD (mulE (Int.toNat 0) 1) 0) 0)) = 0) || decide (addHi (x.getD (mulE v1.toNat 1) 0) (y.getD (mulE v1.toNat 1) 0) (addHi (x.getD (mulE v0.toNat 1) 0) (y.getD (mulE v0.toNat 1) 0) (addHi (x.getD (mulE (Int.toNat 0) 1) 0) (y.getD (mulE (Int.toNat 0) 1) 0) 0)) = 1) then
 let v2 : List Int := (List.replicate 4 0).set (mulE (Int.toNat 0) 1) (addLo (x.getD (mulE (Int.toNat 0) 1) 0) (y.getD (mulE (Int.toNat 0) 1) 0) 0);
 let v3 := v2.set (mulE v0.toNat 1) (addLo (x.getD (mulE v0.toNat 1) 0) (y.getD (mulE v0.toNat 1) 0) (addHi (x.getD (mulE (Int.toNat 0) 1) 0) (y.getD (mulE (Int.toNat 0) 1) 0) 0));
 let v4 := v3.set (mulE v1.toNat 1) (addLo (x.getD (mulE v1.toNat 1) 0) (y.getD (mulE v1.toNat 1) 0) (addHi (x.getD (mulE v0.toNat 1) 0) (y.getD (mulE v0.toNat 1) 0) (addHi (x.getD (mulE (Int.toNat 0) 1) 0) (y.getD (mulE (Int.toNat 0) 1) 0) 0)));
 let v5 := IntKind.i64.wrap (v1 + 1);
 let v6 := v4.set (mulE v5.toNat 1) (addLo (x.getD (mulE v5.toNat 1) 0) (y.getD (mulE v5.toNat 1) 0) (addHi (x.getD (mulE v1.toNat 1) 0) (y.getD (mulE v1.toNat 1) 0) (addHi (x.getD (mulE v0.toNat 1) 0) (y.getD (mulE v0.toNat 1) 0) (addHi (x.getD (mulE (Int.toNat 0) 1) 0) (y.getD (mulE (Int.toNat 0) 1) 0) 0))));
 k [.v (.one (.ints .u64 4 (lowL v6)))]
 else none
 else none
else none
def E115 (N : Nat) : Env := { Θ := Th, Γ := G54, K := K115, ν := N115, fuel := 20, lp := [] }
theorem f115_contract (N : Nat) (hΓ : CtxOk Tryz.prog G54) : Contract Tryz.prog 115 { sig := S115, impl := fun _ ds k => call (E115 N) S115 27 B115 R115 ds k } :=
 call_contract (E := E115 N) thOk hΓ mixed ok115.look ok115.body ok115.n ok115.rv ok115.name rfl (by decide) (loopsOk_of (l := [(0, B115_0)]) (by kernel_rfl) (allOk_skip rfl trivial))
theorem f115_raw_eq {R : Type} (N : Nat) (x y : List Int) (k : List DV → Option R) : call (E115 N) S115 27 B115 R115 [.v (.one (.ints .u64 4 x)), .v (.one (.ints .u64 4 y))] k = f115_raw N x y k := by kernel_rfl
def f134_raw {R : Type} (N : Nat) (x : List Int) (k : List DV → Option R) : Option R :=
 bif decide (x = List.replicate 4 0) then k [.v (.one (.ints .u64 4 x))] else k [.v (.one (.ints .u64 4 (lessL ordW x)))]
def E134 (N : Nat) : Env := { Θ := Th, Γ := G79, K := K134, ν := N134, fuel := 20, lp := [] }
theorem f134_contract (N : Nat) (hΓ : CtxOk Tryz.prog G79) : Contract Tryz.prog 134 { sig := S134, impl := fun _ ds k => call (E134 N) S134 16 B134 R134 ds k } :=
 call_contract (E := E134 N) thOk hΓ mixed ok134.look ok134.body ok134.n ok134.rv ok134.name rfl (by decide) (loopsOk_of (l := []) (by kernel_rfl) trivial)
theorem f134_raw_eq {R : Type} (N : Nat) (x : List Int) (k : List DV → Option R) : call (E134 N) S134 16 B134 R134 [.v (.one (.ints .u64 4 x))] k = f134_raw N x k := by kernel_rfl
def f116_raw {R : Type} (N : Nat) (x : List Int) (k : List DV → Option R) : Option R :=
 k [.v (.one (.ints .u64 4 (lowL (lowL (lowL (lowL (lowL (lowL (lowL (lowL (lowL (lowL (lowL (lowL (lowL (lowL (lowL (lowL (fromL x)))))))))))))))))))]
def E116 (N : Nat) : Env := { Θ := Th, Γ := G55, K := K116, ν := N116, fuel := 60, lp := [] }
theorem f116_contract (N : Nat) (hΓ : CtxOk Tryz.prog G55) : Contract Tryz.prog 116 { sig := S116, impl := fun _ ds k => call (E116 N) S116 12 B116 R116 ds k } :=
 call_contract (E := E116 N) thOk hΓ mixed ok116.look ok116.body ok116.n ok116.rv ok116.name rfl (by decide) (loopsOk_of (l := [(0, B116_0)]) (by kernel_rfl) (allOk_skip rfl trivial))
theorem f116_raw_eq {R : Type} (N : Nat) (x : List Int) (k : List DV → Option R) : call (E116 N) S116 12 B116 R116 [.v (.one (.ints .u8 32 x))] k = f116_raw N x k := by kernel_rfl
end
end Go.Proofs.YtogcijgklnfjjaaGreat
namespace Go.Eng
noncomputable section
open Go
set_option maxRecDepth 100000
set_option linter.unusedVariables false
theorem wrapMod {k : IntKind} (hk : k.signed = false) (n : Nat) : k.wrap (n : Int) = ((n % 2 ^ k.bits : Nat) : Int) := by
 unfold IntKind.wrap
 simp only [hk, Bool.false_and, Bool.false_eq_true, if_false]
 rfl
theorem wrapFit {k : IntKind} (hk : k.signed = false) {n : Nat} (h : n < 2 ^ k.bits) : k.wrap (n : Int) = (n : Int) := by
 rw [wrapMod hk, Nat.mod_eq_of_lt h]
theorem w64 {n : Nat} (h : n < 18446744073709551616) : IntKind.u64.wrap (n : Int) = (n : Int) := wrapFit rfl h
theorem w32 {n : Nat} (h : n < 4294967296) : IntKind.u32.wrap (n : Int) = (n : Int) := wrapFit rfl h
theorem w8 {n : Nat} (h : n < 256) : IntKind.u8.wrap (n : Int) = (n : Int) := wrapFit rfl h
theorem wm64 (n : Nat) : IntKind.u64.wrap (n : Int) = ((n % 18446744073709551616 : Nat) : Int) := wrapMod rfl n
theorem wm32 (n : Nat) : IntKind.u32.wrap (n : Int) = ((n % 4294967296 : Nat) : Int) := wrapMod rfl n
theorem wm8 (n : Nat) : IntKind.u8.wrap (n : Int) = ((n % 256 : Nat) : Int) := wrapMod rfl n
theorem wi64 {n : Nat} (h : n < 9223372036854775808) : IntKind.i64.wrap (n : Int) = (n : Int) := by
 simp [IntKind.wrap, IntKind.bits, IntKind.signed]; omega
theorem shrN {k : IntKind} {m : Nat} (hm : m ≤ k.bits) (n : Nat) : shrI k (n : Int) (m : Int) = ((n / 2 ^ m : Nat) : Int) := by
 unfold shrI
 rw [Int.toNat_natCast, Nat.min_eq_left hm]
 rw [Int.fdiv_eq_ediv_of_nonneg _ (by exact Int.le_of_lt (Int.pow_pos (by decide)))]
 simp
theorem shlN {k : IntKind} (hk : k.signed = false) {m : Nat} (hm : m ≤ k.bits) (n : Nat) : shlI k (n : Int) (m : Int) = ((n * 2 ^ m % 2 ^ k.bits : Nat) : Int) := by
 unfold shlI
 rw [Int.toNat_natCast, Nat.min_eq_left hm]
 rw [show (n : Int) * 2 ^ m = ((n * 2 ^ m : Nat) : Int) by simp, wrapMod hk]
theorem bvNat {w n : Nat} (h : n < 2 ^ w) : (BitVec.ofInt w (n : Int)).toNat = n := by
 rw [BitVec.ofInt_natCast, BitVec.toNat_ofNat, Nat.mod_eq_of_lt h]
theorem andN {k : IntKind} (hk : k.signed = false) {a b : Nat} (ha : a < 2 ^ k.bits) (hb : b < 2 ^ k.bits) : andI k (a : Int) (b : Int) = ((a &&& b : Nat) : Int) := by
 unfold andI
 rw [BitVec.toNat_and, bvNat ha, bvNat hb]
 exact wrapFit hk (Nat.lt_of_le_of_lt Nat.and_le_left ha)
theorem orN {k : IntKind} (hk : k.signed = false) {a b : Nat} (ha : a < 2 ^ k.bits) (hb : b < 2 ^ k.bits) : orI k (a : Int) (b : Int) = ((a ||| b : Nat) : Int) := by
 unfold orI
 rw [BitVec.toNat_or, bvNat ha, bvNat hb]
 exact wrapFit hk (Nat.or_lt_two_pow ha hb)
theorem maskN {k : IntKind} (hk : k.signed = false) {a j : Nat} (ha : a < 2 ^ k.bits) (hj : j ≤ k.bits) : andI k (a : Int) ((2 ^ j - 1 : Nat) : Int) = ((a % 2 ^ j : Nat) : Int) := by
 rw [andN hk ha (Nat.lt_of_lt_of_le (Nat.sub_lt (Nat.two_pow_pos j) (by decide)) (Nat.pow_le_pow_right (by decide) hj)), Nat.and_two_pow_sub_one_eq_mod]
theorem or_addN {a b j : Nat} (hb : b < 2 ^ j) : (a * 2 ^ j) ||| b = a * 2 ^ j + b := by
 rw [Nat.mul_comm, Nat.two_pow_add_eq_or_of_lt hb]
theorem or_addN' {a b j : Nat} (hb : b < 2 ^ j) : b ||| (a * 2 ^ j) = b + a * 2 ^ j := by
 rw [Nat.or_comm, or_addN hb, Nat.add_comm]
def nats (l : List Nat) : List Int := l.map Int.ofNat
theorem nats_getD (l : List Nat) (i : Nat) : (nats l).getD i 0 = ((l.getD i 0 : Nat) : Int) := by
 simp only [nats, List.getD_eq_getElem?_getD, List.getElem?_map]
 cases l[i]? <;> rfl
theorem nats_set (l : List Nat) (i n : Nat) : (nats l).set i (n : Int) = nats (l.set i n) := by
 simp [nats, List.map_set]
theorem nats_length (l : List Nat) : (nats l).length = l.length := by simp [nats]
theorem nats_of {xs : List Int} (h : ∀ x ∈ xs, 0 ≤ x) : ∃ l : List Nat, xs = nats l := by
 induction xs with
 | nil => exact ⟨[], rfl⟩
 | cons x xs ih =>
  obtain ⟨l, e⟩ := ih fun y hy => h y (.tail _ hy)
  have hx := h x (.head _)
  exact ⟨x.toNat :: l, by rw [e]; simp [nats]; omega⟩
def valB (b : Nat) : List Nat → Nat
 | [] => 0
 | x :: l => x + b * valB b l
theorem valB_append (b : Nat) : ∀ (l m : List Nat), valB b (l ++ m) = valB b l + b ^ l.length * valB b m
 | [], m => by simp [valB]
 | x :: l, m => by
  rw [List.cons_append, valB, valB_append b l m, valB, List.length_cons, Nat.pow_succ]
  rw [Nat.mul_add, Nat.add_assoc, ← Nat.mul_assoc b, Nat.mul_comm b (b ^ l.length)]
theorem valB_lt {b : Nat} (hb : 0 < b) : ∀ {l : List Nat}, (∀ x ∈ l, x < b) → valB b l < b ^ l.length
 | [], _ => by simp [valB]
 | x :: l, h => by
  have h1 := h x (.head _)
  have h2 := valB_lt hb (l := l) fun y hy => h y (.tail _ hy)
  rw [valB, List.length_cons, Nat.pow_succ, Nat.mul_comm _ b]
  have h3 : b * (valB b l + 1) ≤ b * b ^ l.length := Nat.mul_le_mul_left b h2
  rw [Nat.mul_add] at h3
  omega
theorem valB_inj {b : Nat} (hb : 0 < b) : ∀ {l m : List Nat}, l.length = m.length → (∀ x ∈ l, x < b) → (∀ x ∈ m, x < b) → valB b l = valB b m → l = m
 | [], [], _, _, _, _ => rfl
 | [], _ :: _, h, _, _, _ => by simp at h
 | _ :: _, [], h, _, _, _ => by simp at h
 | x :: l, y :: m, h, h1, h2, h3 => by
  have hx := h1 x (.head _)
  have hy := h2 y (.head _)
  simp only [valB] at h3
  have e1 : (x + b * valB b l) % b = x := by rw [Nat.add_mul_mod_self_left, Nat.mod_eq_of_lt hx]
  have e2 : (y + b * valB b m) % b = y := by rw [Nat.add_mul_mod_self_left, Nat.mod_eq_of_lt hy]
  have e : x = y := by rw [← e1, ← e2, h3]
  subst e
  have h4 : valB b l = valB b m := Nat.eq_of_mul_eq_mul_left hb (by omega)
  rw [valB_inj hb (by simpa using h) (fun z hz => h1 z (.tail _ hz)) (fun z hz => h2 z (.tail _ hz)) h4]
def digs (b : Nat) : Nat → Nat → List Nat
 | 0, _ => []
 | m + 1, n => n % b :: digs b m (n / b)
theorem digs_length (b : Nat) : ∀ (m n : Nat), (digs b m n).length = m
 | 0, _ => rfl
 | m + 1, n => by simp [digs, digs_length b m]
theorem digs_val (b : Nat) : ∀ (m n : Nat), valB b (digs b m n) = n % b ^ m
 | 0, n => by simp [digs, valB, Nat.mod_one]
 | m + 1, n => by
  rw [digs, valB, digs_val b m, Nat.pow_succ, Nat.mul_comm _ b, Nat.mod_mul]
theorem digs_lt {b : Nat} (hb : 0 < b) : ∀ {m n : Nat}, ∀ x ∈ digs b m n, x < b
 | 0, _, x, h => by cases h
 | m + 1, n, x, h => by
  rcases List.mem_cons.1 h with e | h
  ·
   subst e; exact Nat.mod_lt _ hb
  ·
   exact digs_lt hb x h
theorem digs_of {b : Nat} (hb : 0 < b) {l : List Nat} (h : ∀ x ∈ l, x < b) : digs b l.length (valB b l) = l :=
 valB_inj hb (digs_length _ _ _) (digs_lt hb) h (by rw [digs_val, Nat.mod_eq_of_lt (valB_lt hb h)])

end
end Go.Eng
namespace Go.Eng
theorem getD_mid {α : Type} {A B : List α} {x d : α} {i : Nat} (h : A.length = i) : (A ++ x :: B).getD i d = x := by
 subst h
 simp [List.getD_eq_getElem?_getD]
theorem set_mid {α : Type} {A B : List α} {x y : α} {i : Nat} (h : A.length = i) : (A ++ x :: B).set i y = A ++ y :: B := by
 subst h
 simp
theorem valB_cons (b x : Nat) (l : List Nat) : valB b (x :: l) = x + b * valB b l := rfl
end Go.Eng
namespace Go.Proofs.YtogcijgklnfjjaaGreat
noncomputable section
open Go Go.Eng
set_option maxRecDepth 100000
set_option linter.unusedVariables false
theorem mulLo_nat (x y : Nat) : mulLo (x : Int) (y : Int) = ((x * y % 18446744073709551616 : Nat) : Int) := wm64 (x * y)
theorem mulHi_eq (x y : Int) : mulHi x y =
    (let xl := andI .u64 x 4294967295; let xh := shrI .u64 x 32; let yl := andI .u64 y 4294967295; let yh := shrI .u64 y 32
     let t := IntKind.u64.wrap (IntKind.u64.wrap (xh * yl) + shrI .u64 (IntKind.u64.wrap (xl * yl)) 32)
     IntKind.u64.wrap (IntKind.u64.wrap (IntKind.u64.wrap (xh * yh) + shrI .u64 t 32) + shrI .u64 (IntKind.u64.wrap (andI .u64 t 4294967295 + IntKind.u64.wrap (xl * yh))) 32)) := by kernel_rfl
theorem shr32 (n : Nat) : shrI .u64 (n : Int) 32 = ((n / 4294967296 : Nat) : Int) := shrN (k := .u64) (m := 32) (by decide) n
theorem and32 {n : Nat} (h : n < 18446744073709551616) : andI .u64 (n : Int) 4294967295 = ((n % 4294967296 : Nat) : Int) := maskN (k := .u64) (j := 32) rfl h (by decide)
theorem mul32 {a b : Nat} (ha : a < 4294967296) (hb : b < 4294967296) : a * b ≤ 18446744065119617025 := by
 have : a * b ≤ 4294967295 * 4294967295 := Nat.mul_le_mul (by omega) (by omega)
 omega
theorem mulHi_nat {x y : Nat} (hx : x < 18446744073709551616) (hy : y < 18446744073709551616) : mulHi (x : Int) (y : Int) = ((x * y / 18446744073709551616 : Nat) : Int) := by
 rw [mulHi_eq]
 dsimp only
 rw [and32 hx, and32 hy, shr32, shr32]
 have exy : x * y = (x / 4294967296) * (y / 4294967296) * 18446744073709551616 + ((x / 4294967296) * (y % 4294967296) + (x % 4294967296) * (y / 4294967296)) * 4294967296 + (x % 4294967296) * (y % 4294967296) := by
  have ex := Nat.div_add_mod x 4294967296
  have ey := Nat.div_add_mod y 4294967296
  generalize x / 4294967296 = a at *
  generalize x % 4294967296 = b at *
  generalize y / 4294967296 = c at *
  generalize y % 4294967296 = d at *
  rw [← ex, ← ey, Nat.add_mul, Nat.mul_add, Nat.mul_add]
  have e1 : 4294967296 * a * (4294967296 * c) = a * c * 18446744073709551616 := by
   rw [Nat.mul_mul_mul_comm]; omega
  have e2 : 4294967296 * a * d = a * d * 4294967296 := by rw [Nat.mul_assoc]; omega
  have e3 : b * (4294967296 * c) = b * c * 4294967296 := by rw [Nat.mul_left_comm]; omega
  rw [e1, e2, e3, Nat.add_mul]; omega
 rw [exy]
 have hxh : x / 4294967296 < 4294967296 := by omega
 have hyh : y / 4294967296 < 4294967296 := by omega
 have hxl := Nat.mod_lt x (show 4294967296 > 0 by decide)
 have hyl := Nat.mod_lt y (show 4294967296 > 0 by decide)
 have b1 := mul32 hxl hyl
 have b2 := mul32 hxh hyl
 have b3 := mul32 hxl hyh
 have b4 := mul32 hxh hyh
 generalize x / 4294967296 = a at *
 generalize x % 4294967296 = b at *
 generalize y / 4294967296 = c at *
 generalize y % 4294967296 = d at *
 have w1 : IntKind.u64.wrap ((b : Int) * (d : Int)) = ((b * d : Nat) : Int) := w64 (n := b * d) (by omega)
 have w2 : IntKind.u64.wrap ((a : Int) * (d : Int)) = ((a * d : Nat) : Int) := w64 (n := a * d) (by omega)
 have w3 : IntKind.u64.wrap ((b : Int) * (c : Int)) = ((b * c : Nat) : Int) := w64 (n := b * c) (by omega)
 have w4 : IntKind.u64.wrap ((a : Int) * (c : Int)) = ((a * c : Nat) : Int) := w64 (n := a * c) (by omega)
 rw [w1, w2, w3, w4]
 generalize b * d = P at *
 generalize a * d = Q at *
 generalize b * c = U at *
 generalize a * c = V at *
 rw [shr32, show IntKind.u64.wrap ((Q : Int) + ((P / 4294967296 : Nat) : Int)) = ((Q + P / 4294967296 : Nat) : Int) from w64 (n := Q + P / 4294967296) (by omega)]
 rw [shr32, and32 (by omega)]
 rw [show IntKind.u64.wrap ((V : Int) + (((Q + P / 4294967296) / 4294967296 : Nat) : Int)) = ((V + (Q + P / 4294967296) / 4294967296 : Nat) : Int) from w64 (n := V + (Q + P / 4294967296) / 4294967296) (by omega)]
 rw [show IntKind.u64.wrap ((((Q + P / 4294967296) % 4294967296 : Nat) : Int) + (U : Int)) = (((Q + P / 4294967296) % 4294967296 + U : Nat) : Int) from w64 (n := (Q + P / 4294967296) % 4294967296 + U) (by omega)]
 rw [shr32]
 refine (w64 (n := V + (Q + P / 4294967296) / 4294967296 + ((Q + P / 4294967296) % 4294967296 + U) / 4294967296) (by omega)).trans ?_
 congr 1
 omega
theorem addLo_nat (x y c : Nat) : addLo (x : Int) (y : Int) (c : Int) = (((x + y + c) % 18446744073709551616 : Nat) : Int) := by
 unfold addLo; simp
theorem addHi_nat (x y c : Nat) : addHi (x : Int) (y : Int) (c : Int) = (((x + y + c) / 18446744073709551616 : Nat) : Int) := by
 unfold addHi; simp
theorem ma_nat {x y z c : Nat} (hx : x < 18446744073709551616) (hy : y < 18446744073709551616) (hz : z < 18446744073709551616) (hc : c < 18446744073709551616) :
  maLo (x : Int) (y : Int) (z : Int) (c : Int) = (((x * y + z + c) % 18446744073709551616 : Nat) : Int) ∧ maHi (x : Int) (y : Int) (z : Int) (c : Int) = (((x * y + z + c) / 18446744073709551616 : Nat) : Int) := by
 have hp : x * y ≤ 18446744073709551615 * 18446744073709551615 := Nat.mul_le_mul (by omega) (by omega)
 unfold maLo maHi
 rw [mulLo_nat, mulHi_nat hx hy, show (0 : Int) = ((0 : Nat) : Int) from rfl, addLo_nat, addHi_nat, addLo_nat, addHi_nat]
 generalize x * y = P at *
 rw [show IntKind.u64.wrap (((P / 18446744073709551616 : Nat) : Int) + (((P % 18446744073709551616 + z + 0) / 18446744073709551616 : Nat) : Int)) = ((P / 18446744073709551616 + (P % 18446744073709551616 + z + 0) / 18446744073709551616 : Nat) : Int) from w64 (n := P / 18446744073709551616 + (P % 18446744073709551616 + z + 0) / 18446744073709551616) (by omega)]
 refine ⟨congrArg Int.ofNat (by omega), ?_⟩
 refine (w64 (n := P / 18446744073709551616 + (P % 18446744073709551616 + z + 0) / 18446744073709551616 + ((P % 18446744073709551616 + z + 0) % 18446744073709551616 + c + 0) / 18446744073709551616) (by omega)).trans ?_
 exact congrArg Int.ofNat (by omega)
theorem sub_nat {x y c : Nat} (hx : x < 18446744073709551616) (hy : y < 18446744073709551616) (hc : c ≤ 1) :
  ∃ d b : Nat, subLo (x : Int) (y : Int) (c : Int) = (d : Int) ∧ subHi (x : Int) (y : Int) (c : Int) = (b : Int) ∧ d < 18446744073709551616 ∧ b ≤ 1 ∧ d + y + c = x + 18446744073709551616 * b := by
 refine ⟨(x + 18446744073709551616 - y - c) % 18446744073709551616, if x < y + c then 1 else 0, ?_, ?_, Nat.mod_lt _ (by decide), by split <;> omega, by split <;> omega⟩
 ·
  unfold subLo; simp
 ·
  unfold subHi
  simp only [Int.toNat_natCast]
  by_cases h : x < y + c
  ·
   rw [if_pos h, show Nat.blt x (y + c) = true from Nat.ble_eq_true_of_le h]; rfl
  ·
   rw [if_neg h]
   have : Nat.blt x (y + c) = false := by
    cases e : Nat.blt x (y + c)
    ·
     rfl
    ·
     exact absurd (Nat.le_of_ble_eq_true e) h
   rw [this]; rfl
theorem orW {a b : Nat} (j : Nat) (hj : j ≤ 64) (ha : a < 2 ^ j) : orI .u64 (a : Int) (shlI .u64 (b : Int) (j : Int)) = ((a + b % 2 ^ (64 - j) * 2 ^ j : Nat) : Int) := by
 rw [show shlI .u64 (b : Int) (j : Int) = ((b * 2 ^ j % 2 ^ 64 : Nat) : Int) from shlN (k := .u64) rfl hj b]
 have e : b * 2 ^ j % 2 ^ 64 = b % 2 ^ (64 - j) * 2 ^ j := by
  rw [show (2 : Nat) ^ 64 = 2 ^ (64 - j) * 2 ^ j by rw [← Nat.pow_add]; congr 1; omega, Nat.mul_mod_mul_right]
 have h2 : (2 : Nat) ^ j ≤ 2 ^ 64 := Nat.pow_le_pow_right (by decide) hj
 refine (orN (k := .u64) rfl (Nat.lt_of_lt_of_le ha h2) (Nat.mod_lt _ (Nat.two_pow_pos 64))).trans ?_
 rw [show IntKind.u64.bits = 64 from rfl, e, or_addN' ha]
def bytesW (w0 w1 w2 w3 : Int) : List Int := [IntKind.u8.wrap (shrI .u64 w0 0), IntKind.u8.wrap (shrI .u64 w0 8), IntKind.u8.wrap (shrI .u64 w0 16), IntKind.u8.wrap (shrI .u64 w0 24), IntKind.u8.wrap (shrI .u64 w0 32), IntKind.u8.wrap (shrI .u64 w0 40), IntKind.u8.wrap (shrI .u64 w0 48), IntKind.u8.wrap (shrI .u64 w0 56), IntKind.u8.wrap (shrI .u64 w1 0), IntKind.u8.wrap (shrI .u64 w1 8), IntKind.u8.wrap (shrI .u64 w1 16), IntKind.u8.wrap (shrI .u64 w1 24), IntKind.u8.wrap (shrI .u64 w1 32), IntKind.u8.wrap (shrI .u64 w1 40), IntKind.u8.wrap (shrI .u64 w1 48), IntKind.u8.wrap (shrI .u64 w1 56), IntKind.u8.wrap (shrI .u64 w2 0), IntKind.u8.wrap (shrI .u64 w2 8), IntKind.u8.wrap (shrI .u64 w2 16), IntKind.u8.wrap (shrI .u64 w2 24), IntKind.u8.wrap (shrI .u64 w2 32), IntKind.u8.wrap (shrI .u64 w2 40), IntKind.u8.wrap (shrI .u64 w2 48), IntKind.u8.wrap (shrI .u64 w2 56), IntKind.u8.wrap (shrI .u64 w3 0), IntKind.u8.wrap (shrI .u64 w3 8), IntKind.u8.wrap (shrI .u64 w3 16), IntKind.u8.wrap (shrI .u64 w3 24), IntKind.u8.wrap (shrI .u64 w3 32), IntKind.u8.wrap (shrI .u64 w3 40), IntKind.u8.wrap (shrI .u64 w3 48), IntKind.u8.wrap (shrI .u64 w3 56)]
theorem byteW (w i : Nat) (hi : i ≤ 64) : IntKind.u8.wrap (shrI .u64 (w : Int) (i : Int)) = ((w / 2 ^ i % 256 : Nat) : Int) := by
 rw [shrN (k := .u64) hi, wm8]
theorem digs32 (v : Nat) : digs 256 32 v = [v / 1 % 256, v / 256 % 256, v / 65536 % 256, v / 16777216 % 256, v / 4294967296 % 256, v / 1099511627776 % 256, v / 281474976710656 % 256, v / 72057594037927936 % 256, v / 18446744073709551616 % 256, v / 4722366482869645213696 % 256, v / 1208925819614629174706176 % 256, v / 309485009821345068724781056 % 256, v / 79228162514264337593543950336 % 256, v / 20282409603651670423947251286016 % 256, v / 5192296858534827628530496329220096 % 256, v / 1329227995784915872903807060280344576 % 256, v / 340282366920938463463374607431768211456 % 256, v / 87112285931760246646623899502532662132736 % 256, v / 22300745198530623141535718272648361505980416 % 256, v / 5708990770823839524233143877797980545530986496 % 256, v / 1461501637330902918203684832716283019655932542976 % 256, v / 374144419156711147060143317175368453031918731001856 % 256, v / 95780971304118053647396689196894323976171195136475136 % 256, v / 24519928653854221733733552434404946937899825954937634816 % 256, v / 6277101735386680763835789423207666416102355444464034512896 % 256, v / 1606938044258990275541962092341162602522202993782792835301376 % 256, v / 411376139330301510538742295639337626245683966408394965837152256 % 256, v / 105312291668557186697918027683670432318895095400549111254310977536 % 256, v / 26959946667150639794667015087019630673637144422540572481103610249216 % 256, v / 6901746346790563787434755862277025452451108972170386555162524223799296 % 256, v / 1766847064778384329583297500742918515827483896875618958121606201292619776 % 256, v / 452312848583266388373324160190187140051835877600158453279131187530910662656 % 256] := by
 simp [digs, Nat.div_div_eq_div_mul]
def word8 (x0 x1 x2 x3 x4 x5 x6 x7 : Int) : Int := (orI .u64 (orI .u64 (orI .u64 (orI .u64 (orI .u64 (orI .u64 (orI .u64 (orI .u64 0 (shlI .u64 (IntKind.u64.wrap x0) 0)) (shlI .u64 (IntKind.u64.wrap x1) 8)) (shlI .u64 (IntKind.u64.wrap x2) 16)) (shlI .u64 (IntKind.u64.wrap x3) 24)) (shlI .u64 (IntKind.u64.wrap x4) 32)) (shlI .u64 (IntKind.u64.wrap x5) 40)) (shlI .u64 (IntKind.u64.wrap x6) 48)) (shlI .u64 (IntKind.u64.wrap x7) 56))
theorem word8_nat {x0 x1 x2 x3 x4 x5 x6 x7 : Nat} (h0 : x0 < 256) (h1 : x1 < 256) (h2 : x2 < 256) (h3 : x3 < 256) (h4 : x4 < 256) (h5 : x5 < 256) (h6 : x6 < 256) (h7 : x7 < 256) :
  word8 (x0 : Int) (x1 : Int) (x2 : Int) (x3 : Int) (x4 : Int) (x5 : Int) (x6 : Int) (x7 : Int) = ((x0 * 1 + x1 * 256 + x2 * 65536 + x3 * 16777216 + x4 * 4294967296 + x5 * 1099511627776 + x6 * 281474976710656 + x7 * 72057594037927936 : Nat) : Int) := by
 unfold word8
 rw [w64 (n := x0) (by omega), w64 (n := x1) (by omega), w64 (n := x2) (by omega), w64 (n := x3) (by omega), w64 (n := x4) (by omega), w64 (n := x5) (by omega), w64 (n := x6) (by omega), w64 (n := x7) (by omega)]
 rw [show (0 : Int) = ((0 : Nat) : Int) from rfl]
 rw [show orI .u64 ((0 : Nat) : Int) (shlI .u64 (x0 : Int) ((0 : Nat) : Int)) = ((0 + x0 * 1 : Nat) : Int) from (orW 0 (by decide) (by omega)).trans (congrArg Int.ofNat (show 0 + x0 % 18446744073709551616 * 1 = 0 + x0 * 1 by omega))]
 rw [show orI .u64 ((0 + x0 * 1 : Nat) : Int) (shlI .u64 (x1 : Int) 8) = ((0 + x0 * 1 + x1 * 256 : Nat) : Int) from (orW 8 (by decide) (by omega)).trans (congrArg Int.ofNat (show 0 + x0 * 1 + x1 % 72057594037927936 * 256 = 0 + x0 * 1 + x1 * 256 by omega))]
 rw [show orI .u64 ((0 + x0 * 1 + x1 * 256 : Nat) : Int) (shlI .u64 (x2 : Int) 16) = ((0 + x0 * 1 + x1 * 256 + x2 * 65536 : Nat) : Int) from (orW 16 (by decide) (by omega)).trans (congrArg Int.ofNat (show 0 + x0 * 1 + x1 * 256 + x2 % 281474976710656 * 65536 = 0 + x0 * 1 + x1 * 256 + x2 * 65536 by omega))]
 rw [show orI .u64 ((0 + x0 * 1 + x1 * 256 + x2 * 65536 : Nat) : Int) (shlI .u64 (x3 : Int) 24) = ((0 + x0 * 1 + x1 * 256 + x2 * 65536 + x3 * 16777216 : Nat) : Int) from (orW 24 (by decide) (by omega)).trans (congrArg Int.ofNat (show 0 + x0 * 1 + x1 * 256 + x2 * 65536 + x3 % 1099511627776 * 16777216 = 0 + x0 * 1 + x1 * 256 + x2 * 65536 + x3 * 16777216 by omega))]
 rw [show orI .u64 ((0 + x0 * 1 + x1 * 256 + x2 * 65536 + x3 * 16777216 : Nat) : Int) (shlI .u64 (x4 : Int) 32) = ((0 + x0 * 1 + x1 * 256 + x2 * 65536 + x3 * 16777216 + x4 * 4294967296 : Nat) : Int) from (orW 32 (by decide) (by omega)).trans (congrArg Int.ofNat (show 0 + x0 * 1 + x1 * 256 + x2 * 65536 + x3 * 16777216 + x4 % 4294967296 * 4294967296 = 0 + x0 * 1 + x1 * 256 + x2 * 65536 + x3 * 16777216 + x4 * 4294967296 by omega))]
 rw [show orI .u64 ((0 + x0 * 1 + x1 * 256 + x2 * 65536 + x3 * 16777216 + x4 * 4294967296 : Nat) : Int) (shlI .u64 (x5 : Int) 40) = ((0 + x0 * 1 + x1 * 256 + x2 * 65536 + x3 * 16777216 + x4 * 4294967296 + x5 * 1099511627776 : Nat) : Int) from (orW 40 (by decide) (by omega)).trans (congrArg Int.ofNat (show 0 + x0 * 1 + x1 * 256 + x2 * 65536 + x3 * 16777216 + x4 * 4294967296 + x5 % 16777216 * 1099511627776 = 0 + x0 * 1 + x1 * 256 + x2 * 65536 + x3 * 16777216 + x4 * 4294967296 + x5 * 1099511627776 by omega))]
 rw [show orI .u64 ((0 + x0 * 1 + x1 * 256 + x2 * 65536 + x3 * 16777216 + x4 * 4294967296 + x5 * 1099511627776 : Nat) : Int) (shlI .u64 (x6 : Int) 48) = ((0 + x0 * 1 + x1 * 256 + x2 * 65536 + x3 * 16777216 + x4 * 4294967296 + x5 * 1099511627776 + x6 * 281474976710656 : Nat) : Int) from (orW 48 (by decide) (by omega)).trans (congrArg Int.ofNat (show 0 + x0 * 1 + x1 * 256 + x2 * 65536 + x3 * 16777216 + x4 * 4294967296 + x5 * 1099511627776 + x6 % 65536 * 281474976710656 = 0 + x0 * 1 + x1 * 256 + x2 * 65536 + x3 * 16777216 + x4 * 4294967296 + x5 * 1099511627776 + x6 * 281474976710656 by omega))]
 rw [show orI .u64 ((0 + x0 * 1 + x1 * 256 + x2 * 65536 + x3 * 16777216 + x4 * 4294967296 + x5 * 1099511627776 + x6 * 281474976710656 : Nat) : Int) (shlI .u64 (x7 : Int) 56) = ((0 + x0 * 1 + x1 * 256 + x2 * 65536 + x3 * 16777216 + x4 * 4294967296 + x5 * 1099511627776 + x6 * 281474976710656 + x7 * 72057594037927936 : Nat) : Int) from (orW 56 (by decide) (by omega)).trans (congrArg Int.ofNat (show 0 + x0 * 1 + x1 * 256 + x2 * 65536 + x3 * 16777216 + x4 * 4294967296 + x5 * 1099511627776 + x6 * 281474976710656 + x7 % 256 * 72057594037927936 = 0 + x0 * 1 + x1 * 256 + x2 * 65536 + x3 * 16777216 + x4 * 4294967296 + x5 * 1099511627776 + x6 * 281474976710656 + x7 * 72057594037927936 by omega))]
 congr 1; omega
theorem len32 {l : List Nat} (h : l.length = 32) : ∃ x0 x1 x2 x3 x4 x5 x6 x7 x8 x9 x10 x11 x12 x13 x14 x15 x16 x17 x18 x19 x20 x21 x22 x23 x24 x25 x26 x27 x28 x29 x30 x31, l = [x0, x1, x2, x3, x4, x5, x6, x7, x8, x9, x10, x11, x12, x13, x14, x15, x16, x17, x18, x19, x20, x21, x22, x23, x24, x25, x26, x27, x28, x29, x30, x31] := by
 match l, h with
 | [x0, x1, x2, x3, x4, x5, x6, x7, x8, x9, x10, x11, x12, x13, x14, x15, x16, x17, x18, x19, x20, x21, x22, x23, x24, x25, x26, x27, x28, x29, x30, x31], _ => exact ⟨x0, x1, x2, x3, x4, x5, x6, x7, x8, x9, x10, x11, x12, x13, x14, x15, x16, x17, x18, x19, x20, x21, x22, x23, x24, x25, x26, x27, x28, x29, x30, x31, rfl⟩
def stk {α : Type} (a : α) : { b : α // b = a } := Classical.choice ⟨⟨a, rfl⟩⟩
@[irreducible] def ell : Nat := 7237005577332262213973186563042994240857116359379907606001950938285454250989
def WW : Nat := 18446744073709551616
def okW (x : List Int) : Bool := decide (x.length = 4) && x.all (fun b => decide (0 ≤ b) && decide (b < 18446744073709551616))
def nW (x : List Int) : Nat := valB WW (x.map Int.toNat)
def wN : Nat → List Int := (stk fun v => nats (digs WW 4 v)).1
theorem wN_def (v : Nat) : wN v = nats (digs WW 4 v) := congrFun (stk fun v => nats (digs WW 4 v)).2 v
theorem W4 : WW ^ 4 = 115792089237316195423570985008687907853269984665640564039457584007913129639936 := by decide +kernel
theorem nats_toNat (l : List Nat) : (nats l).map Int.toNat = l := by
 unfold nats; rw [List.map_map]; conv => rhs; rw [← List.map_id l]
 rfl
theorem okW_nats {l : List Nat} (hl : l.length = 4) (h : ∀ b ∈ l, b < WW) : okW (nats l) = true := by
 unfold okW
 rw [nats_length, decide_eq_true hl, Bool.true_and, List.all_eq_true]
 intro b hb
 unfold nats at hb
 obtain ⟨n, hn, rfl⟩ := List.mem_map.mp hb
 have := h n hn
 rw [Bool.and_eq_true]
 exact ⟨decide_eq_true (Int.natCast_nonneg n), decide_eq_true (Int.ofNat_lt.mpr this)⟩
theorem okW_of {x : List Int} (h : okW x = true) : ∃ l : List Nat, x = nats l ∧ l.length = 4 ∧ ∀ b ∈ l, b < WW := by
 unfold okW at h
 rw [Bool.and_eq_true, List.all_eq_true] at h
 obtain ⟨h1, h2⟩ := h
 have h3 : ∀ b ∈ x, 0 ≤ b ∧ b < 18446744073709551616 := fun b hb => by
  have := h2 b hb
  rw [Bool.and_eq_true] at this
  exact ⟨of_decide_eq_true this.1, of_decide_eq_true this.2⟩
 obtain ⟨l, rfl⟩ := nats_of (xs := x) fun b hb => (h3 b hb).1
 refine ⟨l, rfl, by rw [← nats_length]; exact of_decide_eq_true h1, fun b hb => ?_⟩
 exact Int.ofNat_lt.mp (h3 b (List.mem_map.mpr ⟨b, hb, rfl⟩)).2
theorem okW_wN (v : Nat) : okW (wN v) = true := by
 rw [wN_def]; exact okW_nats (digs_length _ _ _) (digs_lt (by decide))
theorem nW_nats (l : List Nat) : nW (nats l) = valB WW l := by unfold nW; rw [nats_toNat]
theorem nW_wN {v : Nat} (h : v < WW ^ 4) : nW (wN v) = v := by rw [wN_def, nW_nats, digs_val, Nat.mod_eq_of_lt h]
theorem wN_nW {x : List Int} (h : okW x = true) : wN (nW x) = x := by
 obtain ⟨l, rfl, h1, h2⟩ := okW_of h
 rw [nW_nats, wN_def, ← h1, digs_of (by decide) h2]
theorem nW_lt {x : List Int} (h : okW x = true) : nW x < WW ^ 4 := by
 obtain ⟨l, rfl, h1, h2⟩ := okW_of h
 rw [nW_nats, ← h1]; exact valB_lt (by decide) h2
theorem wN_of {x : List Int} {l : List Nat} {v : Nat} (e : x = nats l) (h1 : l.length = 4) (h2 : ∀ b ∈ l, b < WW) (hv : valB WW l = v) : x = wN v := by
 rw [e, wN_def, ← hv, ← h1, digs_of (by decide) h2]
theorem nW_inj {a b : Nat} (ha : a < WW ^ 4) (hb : b < WW ^ 4) : wN a = wN b ↔ a = b := by
 constructor
 ·
  intro h; rw [← nW_wN ha, ← nW_wN hb, h]
 ·
  intro h; rw [h]
theorem w4_nats {l : List Nat} (h : l.length = 4) : w4 (nats l) = nats l := by
 match l, h with
 | [a, b, c, d], _ => rfl
theorem less_nat : ∀ (l m : List Nat) (c : Nat), l.length = m.length → (∀ x ∈ l, x < WW) → (∀ x ∈ m, x < WW) → c ≤ 1 →
  ∃ (d : List Nat) (b : Nat), lessD (nats l) (nats m) (c : Int) = nats d ∧ lessB (nats l) (nats m) (c : Int) = (b : Int) ∧ d.length = l.length ∧ (∀ x ∈ d, x < WW) ∧ b ≤ 1 ∧ valB WW d + valB WW m + c = valB WW l + WW ^ l.length * b
 | [], [], c, _, _, _, hc => ⟨[], c, rfl, rfl, rfl, by simp, hc, by simp [valB]⟩
 | x :: l, y :: m, c, hl, h1, h2, hc => by
  obtain ⟨d, b, e1, e2, hd, hb, he⟩ := sub_nat (x := x) (y := y) (c := c) (h1 x (by simp)) (h2 y (by simp)) hc
  obtain ⟨ds, b', g1, g2, g3, g4, g5, g6⟩ := less_nat l m b (by simpa using hl) (fun z hz => h1 z (by simp [hz])) (fun z hz => h2 z (by simp [hz])) hb
  refine ⟨d :: ds, b', ?_, ?_, by simp [g3], ?_, g5, ?_⟩
  ·
   show subLo (x : Int) (y : Int) (c : Int) :: lessD (nats l) (nats m) (subHi (x : Int) (y : Int) (c : Int)) = _
   rw [e1, e2, g1]; rfl
  ·
   show lessB (nats l) (nats m) (subHi (x : Int) (y : Int) (c : Int)) = _
   rw [e2, g2]
  ·
   intro z hz
   rcases List.mem_cons.mp hz with rfl | hz
   ·
    exact hd
   ·
    exact g4 z hz
  ·
   simp only [valB, List.length_cons, Nat.pow_succ]
   rw [Nat.mul_comm (WW ^ l.length) WW, Nat.mul_assoc]
   generalize WW ^ l.length * b' = P at *
   unfold WW at *
   omega
 | [], _ :: _, _, h, _, _, _ => by simp at h
 | _ :: _, [], _, h, _, _, _ => by simp at h
theorem less_num {x y : List Int} (hx : okW x = true) (hy : okW y = true) :
  lessL x y = wN ((nW x + WW ^ 4 - nW y) % WW ^ 4) ∧ under x y = if nW x < nW y then 1 else 0 := by
 have bx := nW_lt hx
 have by_ := nW_lt hy
 obtain ⟨l, rfl, h1, h2⟩ := okW_of hx
 obtain ⟨m, rfl, h3, h4⟩ := okW_of hy
 obtain ⟨d, b, e1, e2, hd, hb, hb1, he⟩ := less_nat l m 0 (by rw [h1, h3]) h2 h4 (by decide)
 unfold lessL under
 rw [w4_nats h1, w4_nats h3]
 rw [show lessD (nats l) (nats m) 0 = nats d from e1, show lessB (nats l) (nats m) 0 = (b : Int) from e2]
 rw [nW_nats] at *
 rw [nW_nats] at *
 have hdl := valB_lt (b := WW) (by decide) hb
 rw [hd] at hdl
 rw [h1] at hdl he
 generalize valB WW l = A at *
 generalize valB WW m = B at *
 have hh : d.length = 4 := by rw [hd, h1]
 rcases (show b = 0 ∨ b = 1 by omega) with rfl | rfl
 ·
  rw [Nat.mul_zero] at he
  have hlt : ¬ A < B := by omega
  rw [if_neg hlt]
  refine ⟨wN_of rfl hh hb ?_, rfl⟩
  rw [show A + WW ^ 4 - B = (A - B) + WW ^ 4 by omega, Nat.add_mod_right, Nat.mod_eq_of_lt (by omega)]
  omega
 ·
  rw [Nat.mul_one] at he
  have hlt : A < B := by omega
  rw [if_pos hlt]
  refine ⟨wN_of rfl hh hb ?_, rfl⟩
  rw [Nat.mod_eq_of_lt (by omega)]
  omega
theorem ordW_ok : okW ordW = true := by decide
theorem ordW_num : nW ordW = ell := by decide +kernel
theorem ell_lt : ell < WW ^ 4 := by decide +kernel
theorem radW_ok : okW radW = true := by decide
theorem radW_num : nW radW = WW ^ 8 % ell := by decide +kernel
def lw (v : Nat) : Nat := if v < ell then v else v - ell
theorem lw_lt (v : Nat) : lw v ≤ v := by unfold lw; split <;> omega
theorem low_num {x : List Int} (hx : okW x = true) : lowL x = wN (lw (nW x)) := by
 have h := less_num hx ordW_ok
 have hb := nW_lt hx
 unfold lowL lw
 rw [h.1, h.2, ordW_num]
 by_cases hlt : nW x < ell
 ·
  rw [if_pos hlt, if_pos hlt]
  exact (wN_nW hx).symm
 ·
  have e : (nW x + WW ^ 4 - ell) % WW ^ 4 = nW x - ell := by
   rw [show nW x + WW ^ 4 - ell = (nW x - ell) + WW ^ 4 by omega, Nat.add_mod_right, Nat.mod_eq_of_lt (by omega)]
  rw [if_neg hlt, if_neg hlt, show ((0 : Int) == 0) = true from rfl, cond_true, e]
theorem low_wN {v : Nat} (h : v < WW ^ 4) : lowL (wN v) = wN (lw v) := by
 rw [low_num (okW_wN v), nW_wN h]
theorem ell_def : ell = 7237005577332262213973186563042994240857116359379907606001950938285454250989 := by unfold ell; rfl
def lwN : Nat → Nat → Nat
 | 0, v => v
 | k + 1, v => lw (lwN k v)
theorem lwN_mod : ∀ (k v : Nat), v < (k + 1) * ell → lwN k v % ell = v % ell ∧ lwN k v < ell + (v - k * ell)
  | 0, v, h => ⟨rfl, by show v < _; have : 0 < ell := by rw [ell_def]; decide
                        omega⟩
  | k + 1, v, h => by
    have h0 : 0 < ell := by rw [ell_def]; decide
    by_cases hv : v < (k + 1) * ell
    · obtain ⟨h1, h2⟩ := lwN_mod k v hv
      have e : v - k * ell < ell := by rw [Nat.add_mul] at hv; omega
      show lw (lwN k v) % ell = _ ∧ lw (lwN k v) < _
      unfold lw
      split
      · rename_i hl
        exact ⟨h1, by omega⟩
      · rename_i hl
        refine ⟨?_, by omega⟩
        rw [← Nat.mod_eq_sub_mod (by omega)]; exact h1
    · have aux : ∀ (j : Nat) (v : Nat), j * ell ≤ v → lwN j v = v - j * ell := by
        intro j
        induction j with
        | zero => intro v _; simp [lwN]
        | succ j ih =>
          intro v hj
          have hj' : j * ell + ell ≤ v := by rw [Nat.add_mul] at hj; omega
          show lw (lwN j v) = _
          rw [ih v (by omega)]
          unfold lw
          rw [if_neg (by omega), Nat.add_mul]
          omega
      have e1 := aux (k + 1) v (by omega)
      rw [e1]
      have hm : (v - (k + 1) * ell) % ell = v % ell := by
        conv => rhs; rw [show v = (v - (k + 1) * ell) + (k + 1) * ell by omega]
        rw [Nat.add_mul_mod_self_right]
      exact ⟨hm, by omega⟩
theorem lwN_16 {v : Nat} (h : v < WW ^ 4) : lwN 16 v = v % ell := by
 have h0 : WW ^ 4 ≤ 16 * ell := by rw [W4, ell_def]; decide
 have := lwN_mod 16 v (by rw [Nat.add_mul]; omega)
 rw [← this.1, Nat.mod_eq_of_lt (by omega)]
def okB (x : List Int) : Bool := decide (x.length = 32) && x.all (fun b => decide (0 ≤ b) && decide (b < 256))
def numB (x : List Int) : Nat := valB 256 (x.map Int.toNat)
def sN : Nat → List Int := (stk fun v => nats (digs 256 32 v)).1
theorem sN_def (v : Nat) : sN v = nats (digs 256 32 v) := congrFun (stk fun v => nats (digs 256 32 v)).2 v
theorem W4B : WW ^ 4 = 256 ^ 32 := by decide +kernel
theorem okB_nats {l : List Nat} (hl : l.length = 32) (h : ∀ b ∈ l, b < 256) : okB (nats l) = true := by
 unfold okB
 rw [nats_length, decide_eq_true hl, Bool.true_and, List.all_eq_true]
 intro b hb
 unfold nats at hb
 obtain ⟨n, hn, rfl⟩ := List.mem_map.mp hb
 have := h n hn
 rw [Bool.and_eq_true]
 exact ⟨decide_eq_true (Int.natCast_nonneg n), decide_eq_true (Int.ofNat_lt.mpr this)⟩
theorem okB_sN (v : Nat) : okB (sN v) = true := by
 rw [sN_def]; exact okB_nats (digs_length _ _ _) (digs_lt (by decide))
theorem numB_nats (l : List Nat) : numB (nats l) = valB 256 l := by unfold numB; rw [nats_toNat]
theorem numB_sN {v : Nat} (h : v < WW ^ 4) : numB (sN v) = v := by rw [sN_def, numB_nats, digs_val, ← W4B, Nat.mod_eq_of_lt h]
theorem okB_of {x : List Int} (h : okB x = true) : ∃ l : List Nat, x = nats l ∧ l.length = 32 ∧ ∀ b ∈ l, b < 256 := by
 unfold okB at h
 rw [Bool.and_eq_true, List.all_eq_true] at h
 obtain ⟨h1, h2⟩ := h
 have h3 : ∀ b ∈ x, 0 ≤ b ∧ b < 256 := fun b hb => by
  have := h2 b hb
  rw [Bool.and_eq_true] at this
  exact ⟨of_decide_eq_true this.1, of_decide_eq_true this.2⟩
 obtain ⟨l, rfl⟩ := nats_of (xs := x) fun b hb => (h3 b hb).1
 refine ⟨l, rfl, by rw [← nats_length]; exact of_decide_eq_true h1, fun b hb => ?_⟩
 exact Int.ofNat_lt.mp (h3 b (List.mem_map.mpr ⟨b, hb, rfl⟩)).2
theorem numB_lt {x : List Int} (h : okB x = true) : numB x < WW ^ 4 := by
 obtain ⟨l, rfl, h1, h2⟩ := okB_of h
 rw [numB_nats, W4B]
 have := valB_lt (b := 256) (by decide) h2
 rw [h1] at this
 exact this
theorem from_eq (x0 x1 x2 x3 x4 x5 x6 x7 x8 x9 x10 x11 x12 x13 x14 x15 x16 x17 x18 x19 x20 x21 x22 x23 x24 x25 x26 x27 x28 x29 x30 x31 : Int) : fromR [x0, x1, x2, x3, x4, x5, x6, x7, x8, x9, x10, x11, x12, x13, x14, x15, x16, x17, x18, x19, x20, x21, x22, x23, x24, x25, x26, x27, x28, x29, x30, x31] = [word8 x0 x1 x2 x3 x4 x5 x6 x7, word8 x8 x9 x10 x11 x12 x13 x14 x15, word8 x16 x17 x18 x19 x20 x21 x22 x23, word8 x24 x25 x26 x27 x28 x29 x30 x31] := by kernel_rfl
theorem from_nats {l : List Nat} (hl : l.length = 32) (hb : ∀ x ∈ l, x < 256) : fromL (nats l) = wN (valB 256 l) := by
 obtain ⟨x0, x1, x2, x3, x4, x5, x6, x7, x8, x9, x10, x11, x12, x13, x14, x15, x16, x17, x18, x19, x20, x21, x22, x23, x24, x25, x26, x27, x28, x29, x30, x31, rfl⟩ := len32 hl
 simp only [List.mem_cons, List.not_mem_nil, or_false, forall_eq_or_imp, forall_eq] at hb
 obtain ⟨h0, h1, h2, h3, h4, h5, h6, h7, h8, h9, h10, h11, h12, h13, h14, h15, h16, h17, h18, h19, h20, h21, h22, h23, h24, h25, h26, h27, h28, h29, h30, h31⟩ := hb
 rw [fromL_eq]
 refine (from_eq (x0 : Int) (x1 : Int) (x2 : Int) (x3 : Int) (x4 : Int) (x5 : Int) (x6 : Int) (x7 : Int) (x8 : Int) (x9 : Int) (x10 : Int) (x11 : Int) (x12 : Int) (x13 : Int) (x14 : Int) (x15 : Int) (x16 : Int) (x17 : Int) (x18 : Int) (x19 : Int) (x20 : Int) (x21 : Int) (x22 : Int) (x23 : Int) (x24 : Int) (x25 : Int) (x26 : Int) (x27 : Int) (x28 : Int) (x29 : Int) (x30 : Int) (x31 : Int)).trans ?_
 rw [word8_nat h0 h1 h2 h3 h4 h5 h6 h7, word8_nat h8 h9 h10 h11 h12 h13 h14 h15, word8_nat h16 h17 h18 h19 h20 h21 h22 h23, word8_nat h24 h25 h26 h27 h28 h29 h30 h31]
 refine wN_of (l := [_, _, _, _]) rfl rfl ?_ ?_
 ·
  simp only [List.mem_cons, List.not_mem_nil, or_false, forall_eq_or_imp, forall_eq]
  unfold WW
  omega
 ·
  simp only [valB, WW]
  omega
theorem from_num {x : List Int} (h : okB x = true) : fromL x = wN (numB x) := by
 obtain ⟨l, rfl, h1, h2⟩ := okB_of h
 rw [numB_nats]; exact from_nats h1 h2
theorem back_eq (w0 w1 w2 w3 : Int) : backR [w0, w1, w2, w3] = bytesW w0 w1 w2 w3 := by kernel_rfl
theorem digW (v : Nat) (h : v < 115792089237316195423570985008687907853269984665640564039457584007913129639936) : digs WW 4 v = [v % 18446744073709551616, v / 18446744073709551616 % 18446744073709551616, v / 340282366920938463463374607431768211456 % 18446744073709551616, v / 6277101735386680763835789423207666416102355444464034512896] := by
 simp only [digs, WW, Nat.div_div_eq_div_mul, List.cons.injEq, and_true, true_and]
 rw [Nat.mod_eq_of_lt (show v / (18446744073709551616 * (18446744073709551616 * 18446744073709551616)) < 18446744073709551616 by omega)]
theorem back_wN {v : Nat} (h : v < WW ^ 4) : backL (wN v) = sN v := by
 rw [backL_eq, wN_def, sN_def, digW v (by rw [W4] at h; exact h)]
 refine (back_eq ((v % 18446744073709551616 : Nat) : Int) ((v / 18446744073709551616 % 18446744073709551616 : Nat) : Int) ((v / 340282366920938463463374607431768211456 % 18446744073709551616 : Nat) : Int) ((v / 6277101735386680763835789423207666416102355444464034512896 : Nat) : Int)).trans ?_
 rw [digs32]
 unfold bytesW
 rw [show IntKind.u8.wrap (shrI .u64 ((v % 18446744073709551616 : Nat) : Int) 0) = ((v / 1 % 256 : Nat) : Int) from (byteW _ 0 (by decide)).trans (congrArg Int.ofNat (show (v % 18446744073709551616) / 1 % 256 = v / 1 % 256 by omega)),
  show IntKind.u8.wrap (shrI .u64 ((v % 18446744073709551616 : Nat) : Int) 8) = ((v / 256 % 256 : Nat) : Int) from (byteW _ 8 (by decide)).trans (congrArg Int.ofNat (show (v % 18446744073709551616) / 256 % 256 = v / 256 % 256 by omega)),
  show IntKind.u8.wrap (shrI .u64 ((v % 18446744073709551616 : Nat) : Int) 16) = ((v / 65536 % 256 : Nat) : Int) from (byteW _ 16 (by decide)).trans (congrArg Int.ofNat (show (v % 18446744073709551616) / 65536 % 256 = v / 65536 % 256 by omega)),
  show IntKind.u8.wrap (shrI .u64 ((v % 18446744073709551616 : Nat) : Int) 24) = ((v / 16777216 % 256 : Nat) : Int) from (byteW _ 24 (by decide)).trans (congrArg Int.ofNat (show (v % 18446744073709551616) / 16777216 % 256 = v / 16777216 % 256 by omega)),
  show IntKind.u8.wrap (shrI .u64 ((v % 18446744073709551616 : Nat) : Int) 32) = ((v / 4294967296 % 256 : Nat) : Int) from (byteW _ 32 (by decide)).trans (congrArg Int.ofNat (show (v % 18446744073709551616) / 4294967296 % 256 = v / 4294967296 % 256 by omega)),
  show IntKind.u8.wrap (shrI .u64 ((v % 18446744073709551616 : Nat) : Int) 40) = ((v / 1099511627776 % 256 : Nat) : Int) from (byteW _ 40 (by decide)).trans (congrArg Int.ofNat (show (v % 18446744073709551616) / 1099511627776 % 256 = v / 1099511627776 % 256 by omega)),
  show IntKind.u8.wrap (shrI .u64 ((v % 18446744073709551616 : Nat) : Int) 48) = ((v / 281474976710656 % 256 : Nat) : Int) from (byteW _ 48 (by decide)).trans (congrArg Int.ofNat (show (v % 18446744073709551616) / 281474976710656 % 256 = v / 281474976710656 % 256 by omega)),
  show IntKind.u8.wrap (shrI .u64 ((v % 18446744073709551616 : Nat) : Int) 56) = ((v / 72057594037927936 % 256 : Nat) : Int) from (byteW _ 56 (by decide)).trans (congrArg Int.ofNat (show (v % 18446744073709551616) / 72057594037927936 % 256 = v / 72057594037927936 % 256 by omega)),
  show IntKind.u8.wrap (shrI .u64 ((v / 18446744073709551616 % 18446744073709551616 : Nat) : Int) 0) = ((v / 18446744073709551616 % 256 : Nat) : Int) from (byteW _ 0 (by decide)).trans (congrArg Int.ofNat (show (v / 18446744073709551616 % 18446744073709551616) / 1 % 256 = v / 18446744073709551616 % 256 by omega)),
  show IntKind.u8.wrap (shrI .u64 ((v / 18446744073709551616 % 18446744073709551616 : Nat) : Int) 8) = ((v / 4722366482869645213696 % 256 : Nat) : Int) from (byteW _ 8 (by decide)).trans (congrArg Int.ofNat (show (v / 18446744073709551616 % 18446744073709551616) / 256 % 256 = v / 4722366482869645213696 % 256 by omega)),
  show IntKind.u8.wrap (shrI .u64 ((v / 18446744073709551616 % 18446744073709551616 : Nat) : Int) 16) = ((v / 1208925819614629174706176 % 256 : Nat) : Int) from (byteW _ 16 (by decide)).trans (congrArg Int.ofNat (show (v / 18446744073709551616 % 18446744073709551616) / 65536 % 256 = v / 1208925819614629174706176 % 256 by omega)),
  show IntKind.u8.wrap (shrI .u64 ((v / 18446744073709551616 % 18446744073709551616 : Nat) : Int) 24) = ((v / 309485009821345068724781056 % 256 : Nat) : Int) from (byteW _ 24 (by decide)).trans (congrArg Int.ofNat (show (v / 18446744073709551616 % 18446744073709551616) / 16777216 % 256 = v / 309485009821345068724781056 % 256 by omega)),
  show IntKind.u8.wrap (shrI .u64 ((v / 18446744073709551616 % 18446744073709551616 : Nat) : Int) 32) = ((v / 79228162514264337593543950336 % 256 : Nat) : Int) from (byteW _ 32 (by decide)).trans (congrArg Int.ofNat (show (v / 18446744073709551616 % 18446744073709551616) / 4294967296 % 256 = v / 79228162514264337593543950336 % 256 by omega)),
  show IntKind.u8.wrap (shrI .u64 ((v / 18446744073709551616 % 18446744073709551616 : Nat) : Int) 40) = ((v / 20282409603651670423947251286016 % 256 : Nat) : Int) from (byteW _ 40 (by decide)).trans (congrArg Int.ofNat (show (v / 18446744073709551616 % 18446744073709551616) / 1099511627776 % 256 = v / 20282409603651670423947251286016 % 256 by omega)),
  show IntKind.u8.wrap (shrI .u64 ((v / 18446744073709551616 % 18446744073709551616 : Nat) : Int) 48) = ((v / 5192296858534827628530496329220096 % 256 : Nat) : Int) from (byteW _ 48 (by decide)).trans (congrArg Int.ofNat (show (v / 18446744073709551616 % 18446744073709551616) / 281474976710656 % 256 = v / 5192296858534827628530496329220096 % 256 by omega)),
  show IntKind.u8.wrap (shrI .u64 ((v / 18446744073709551616 % 18446744073709551616 : Nat) : Int) 56) = ((v / 1329227995784915872903807060280344576 % 256 : Nat) : Int) from (byteW _ 56 (by decide)).trans (congrArg Int.ofNat (show (v / 18446744073709551616 % 18446744073709551616) / 72057594037927936 % 256 = v / 1329227995784915872903807060280344576 % 256 by omega)),
  show IntKind.u8.wrap (shrI .u64 ((v / 340282366920938463463374607431768211456 % 18446744073709551616 : Nat) : Int) 0) = ((v / 340282366920938463463374607431768211456 % 256 : Nat) : Int) from (byteW _ 0 (by decide)).trans (congrArg Int.ofNat (show (v / 340282366920938463463374607431768211456 % 18446744073709551616) / 1 % 256 = v / 340282366920938463463374607431768211456 % 256 by omega)),
  show IntKind.u8.wrap (shrI .u64 ((v / 340282366920938463463374607431768211456 % 18446744073709551616 : Nat) : Int) 8) = ((v / 87112285931760246646623899502532662132736 % 256 : Nat) : Int) from (byteW _ 8 (by decide)).trans (congrArg Int.ofNat (show (v / 340282366920938463463374607431768211456 % 18446744073709551616) / 256 % 256 = v / 87112285931760246646623899502532662132736 % 256 by omega)),
  show IntKind.u8.wrap (shrI .u64 ((v / 340282366920938463463374607431768211456 % 18446744073709551616 : Nat) : Int) 16) = ((v / 22300745198530623141535718272648361505980416 % 256 : Nat) : Int) from (byteW _ 16 (by decide)).trans (congrArg Int.ofNat (show (v / 340282366920938463463374607431768211456 % 18446744073709551616) / 65536 % 256 = v / 22300745198530623141535718272648361505980416 % 256 by omega)),
  show IntKind.u8.wrap (shrI .u64 ((v / 340282366920938463463374607431768211456 % 18446744073709551616 : Nat) : Int) 24) = ((v / 5708990770823839524233143877797980545530986496 % 256 : Nat) : Int) from (byteW _ 24 (by decide)).trans (congrArg Int.ofNat (show (v / 340282366920938463463374607431768211456 % 18446744073709551616) / 16777216 % 256 = v / 5708990770823839524233143877797980545530986496 % 256 by omega)),
  show IntKind.u8.wrap (shrI .u64 ((v / 340282366920938463463374607431768211456 % 18446744073709551616 : Nat) : Int) 32) = ((v / 1461501637330902918203684832716283019655932542976 % 256 : Nat) : Int) from (byteW _ 32 (by decide)).trans (congrArg Int.ofNat (show (v / 340282366920938463463374607431768211456 % 18446744073709551616) / 4294967296 % 256 = v / 1461501637330902918203684832716283019655932542976 % 256 by omega)),
  show IntKind.u8.wrap (shrI .u64 ((v / 340282366920938463463374607431768211456 % 18446744073709551616 : Nat) : Int) 40) = ((v / 374144419156711147060143317175368453031918731001856 % 256 : Nat) : Int) from (byteW _ 40 (by decide)).trans (congrArg Int.ofNat (show (v / 340282366920938463463374607431768211456 % 18446744073709551616) / 1099511627776 % 256 = v / 374144419156711147060143317175368453031918731001856 % 256 by omega)),
  show IntKind.u8.wrap (shrI .u64 ((v / 340282366920938463463374607431768211456 % 18446744073709551616 : Nat) : Int) 48) = ((v / 95780971304118053647396689196894323976171195136475136 % 256 : Nat) : Int) from (byteW _ 48 (by decide)).trans (congrArg Int.ofNat (show (v / 340282366920938463463374607431768211456 % 18446744073709551616) / 281474976710656 % 256 = v / 95780971304118053647396689196894323976171195136475136 % 256 by omega)),
  show IntKind.u8.wrap (shrI .u64 ((v / 340282366920938463463374607431768211456 % 18446744073709551616 : Nat) : Int) 56) = ((v / 24519928653854221733733552434404946937899825954937634816 % 256 : Nat) : Int) from (byteW _ 56 (by decide)).trans (congrArg Int.ofNat (show (v / 340282366920938463463374607431768211456 % 18446744073709551616) / 72057594037927936 % 256 = v / 24519928653854221733733552434404946937899825954937634816 % 256 by omega)),
  show IntKind.u8.wrap (shrI .u64 ((v / 6277101735386680763835789423207666416102355444464034512896 : Nat) : Int) 0) = ((v / 6277101735386680763835789423207666416102355444464034512896 % 256 : Nat) : Int) from (byteW _ 0 (by decide)).trans (congrArg Int.ofNat (show (v / 6277101735386680763835789423207666416102355444464034512896) / 1 % 256 = v / 6277101735386680763835789423207666416102355444464034512896 % 256 by omega)),
  show IntKind.u8.wrap (shrI .u64 ((v / 6277101735386680763835789423207666416102355444464034512896 : Nat) : Int) 8) = ((v / 1606938044258990275541962092341162602522202993782792835301376 % 256 : Nat) : Int) from (byteW _ 8 (by decide)).trans (congrArg Int.ofNat (show (v / 6277101735386680763835789423207666416102355444464034512896) / 256 % 256 = v / 1606938044258990275541962092341162602522202993782792835301376 % 256 by omega)),
  show IntKind.u8.wrap (shrI .u64 ((v / 6277101735386680763835789423207666416102355444464034512896 : Nat) : Int) 16) = ((v / 411376139330301510538742295639337626245683966408394965837152256 % 256 : Nat) : Int) from (byteW _ 16 (by decide)).trans (congrArg Int.ofNat (show (v / 6277101735386680763835789423207666416102355444464034512896) / 65536 % 256 = v / 411376139330301510538742295639337626245683966408394965837152256 % 256 by omega)),
  show IntKind.u8.wrap (shrI .u64 ((v / 6277101735386680763835789423207666416102355444464034512896 : Nat) : Int) 24) = ((v / 105312291668557186697918027683670432318895095400549111254310977536 % 256 : Nat) : Int) from (byteW _ 24 (by decide)).trans (congrArg Int.ofNat (show (v / 6277101735386680763835789423207666416102355444464034512896) / 16777216 % 256 = v / 105312291668557186697918027683670432318895095400549111254310977536 % 256 by omega)),
  show IntKind.u8.wrap (shrI .u64 ((v / 6277101735386680763835789423207666416102355444464034512896 : Nat) : Int) 32) = ((v / 26959946667150639794667015087019630673637144422540572481103610249216 % 256 : Nat) : Int) from (byteW _ 32 (by decide)).trans (congrArg Int.ofNat (show (v / 6277101735386680763835789423207666416102355444464034512896) / 4294967296 % 256 = v / 26959946667150639794667015087019630673637144422540572481103610249216 % 256 by omega)),
  show IntKind.u8.wrap (shrI .u64 ((v / 6277101735386680763835789423207666416102355444464034512896 : Nat) : Int) 40) = ((v / 6901746346790563787434755862277025452451108972170386555162524223799296 % 256 : Nat) : Int) from (byteW _ 40 (by decide)).trans (congrArg Int.ofNat (show (v / 6277101735386680763835789423207666416102355444464034512896) / 1099511627776 % 256 = v / 6901746346790563787434755862277025452451108972170386555162524223799296 % 256 by omega)),
  show IntKind.u8.wrap (shrI .u64 ((v / 6277101735386680763835789423207666416102355444464034512896 : Nat) : Int) 48) = ((v / 1766847064778384329583297500742918515827483896875618958121606201292619776 % 256 : Nat) : Int) from (byteW _ 48 (by decide)).trans (congrArg Int.ofNat (show (v / 6277101735386680763835789423207666416102355444464034512896) / 281474976710656 % 256 = v / 1766847064778384329583297500742918515827483896875618958121606201292619776 % 256 by omega)),
  show IntKind.u8.wrap (shrI .u64 ((v / 6277101735386680763835789423207666416102355444464034512896 : Nat) : Int) 56) = ((v / 452312848583266388373324160190187140051835877600158453279131187530910662656 % 256 : Nat) : Int) from (byteW _ 56 (by decide)).trans (congrArg Int.ofNat (show (v / 6277101735386680763835789423207666416102355444464034512896) / 72057594037927936 % 256 = v / 452312848583266388373324160190187140051835877600158453279131187530910662656 % 256 by omega))]
 rfl
theorem ell_pos : 0 < ell := by rw [ell_def]; decide
def okN (x : List Int) : Bool := okW x && decide (nW x < ell)
theorem okN_W {x : List Int} (h : okN x = true) : okW x = true := (Bool.and_eq_true _ _ ▸ h).1
theorem okN_lt {x : List Int} (h : okN x = true) : nW x < ell := of_decide_eq_true (Bool.and_eq_true _ _ ▸ h).2
theorem okN_wN {v : Nat} (h : v < ell) : okN (wN v) = true := by
 unfold okN
 rw [okW_wN, nW_wN (Nat.lt_trans h ell_lt), decide_eq_true h]; rfl
theorem lt_W4 {v : Nat} (h : v < ell) : v < WW ^ 4 := Nat.lt_trans h ell_lt
def addD : List Int → List Int → Int → List Int
 | x :: xs, y :: ys, c => addLo x y c :: addD xs ys (addHi x y c)
 | _, _, _ => []
def g01 (x y c : Int) : Bool := decide (addHi x y c = 0) || decide (addHi x y c = 1)
theorem f115_form {R : Type} (x0 x1 x2 x3 y0 y1 y2 y3 : Int) (k : List DV → Option R) : f115_raw 0 [x0, x1, x2, x3] [y0, y1, y2, y3] k =
  bif g01 x0 y0 0 then bif g01 x1 y1 (addHi x0 y0 0) then bif g01 x2 y2 (addHi x1 y1 (addHi x0 y0 0)) then k [.v (.one (.ints .u64 4 (lowL (addD [x0, x1, x2, x3] [y0, y1, y2, y3] 0))))] else none else none else none := by kernel_rfl
theorem add_nat {x y c : Nat} (hx : x < 18446744073709551616) (hy : y < 18446744073709551616) (hc : c ≤ 1) :
  ∃ d b : Nat, addLo (x : Int) (y : Int) (c : Int) = (d : Int) ∧ addHi (x : Int) (y : Int) (c : Int) = (b : Int) ∧ d < 18446744073709551616 ∧ b ≤ 1 ∧ d + 18446744073709551616 * b = x + y + c ∧ g01 (x : Int) (y : Int) (c : Int) = true := by
 refine ⟨(x + y + c) % 18446744073709551616, (x + y + c) / 18446744073709551616, addLo_nat _ _ _, addHi_nat _ _ _, Nat.mod_lt _ (by decide), by omega, by omega, ?_⟩
 unfold g01
 rw [addHi_nat]
 rcases (show (x + y + c) / 18446744073709551616 = 0 ∨ (x + y + c) / 18446744073709551616 = 1 by omega) with e | e <;> rw [e] <;> rfl
theorem len4 {l : List Nat} (h : l.length = 4) : ∃ a b c d, l = [a, b, c, d] := by
 match l, h with
 | [a, b, c, d], _ => exact ⟨a, b, c, d, rfl⟩
theorem lw_add {A B : Nat} (ha : A < ell) (hb : B < ell) : lw (A + B) = (A + B) % ell := by
 unfold lw
 split
 ·
  rename_i hl; rw [Nat.mod_eq_of_lt hl]
 ·
  rename_i hl; rw [Nat.mod_eq_sub_mod (by omega), Nat.mod_eq_of_lt (by omega)]
theorem two_ell : ell + ell ≤ WW ^ 4 := by rw [ell_def, W4]; decide
theorem plus_nat {R : Type} {x0 x1 x2 x3 y0 y1 y2 y3 : Nat} (a0 : x0 < WW) (a1 : x1 < WW) (a2 : x2 < WW) (a3 : x3 < WW) (b0 : y0 < WW) (b1 : y1 < WW) (b2 : y2 < WW) (b3 : y3 < WW)
  (lx : valB WW [x0, x1, x2, x3] < ell) (ly : valB WW [y0, y1, y2, y3] < ell) (k : List DV → Option R) :
  f115_raw 0 (nats [x0, x1, x2, x3]) (nats [y0, y1, y2, y3]) k = k [.v (.one (.ints .u64 4 (wN ((valB WW [x0, x1, x2, x3] + valB WW [y0, y1, y2, y3]) % ell))))] := by
 obtain ⟨d0, c0, e0, f0, i0, j0, k0, g0⟩ := add_nat (c := 0) a0 b0 (by decide)
 obtain ⟨d1, c1, e1, f1, i1, j1, k1, g1⟩ := add_nat a1 b1 j0
 obtain ⟨d2, c2, e2, f2, i2, j2, k2, g2⟩ := add_nat a2 b2 j1
 obtain ⟨d3, c3, e3, f3, i3, j3, k3, g3⟩ := add_nat a3 b3 j2
 refine (f115_form (x0 : Int) (x1 : Int) (x2 : Int) (x3 : Int) (y0 : Int) (y1 : Int) (y2 : Int) (y3 : Int) k).trans ?_
 have ed : addD [(x0 : Int), (x1 : Int), (x2 : Int), (x3 : Int)] [(y0 : Int), (y1 : Int), (y2 : Int), (y3 : Int)] ((0 : Nat) : Int) = nats [d0, d1, d2, d3] := by
  simp only [addD]
  rw [e0, f0, e1, f1, e2, f2, e3]; rfl
 rw [show (0 : Int) = ((0 : Nat) : Int) from rfl, g0, f0, g1, f1, g2, cond_true, cond_true, cond_true, ed]
 have hs : valB WW [d0, d1, d2, d3] = valB WW [x0, x1, x2, x3] + valB WW [y0, y1, y2, y3] := by
  rw [ell_def] at lx ly
  simp only [valB, WW] at lx ly ⊢
  omega
 have ew : nats [d0, d1, d2, d3] = wN (valB WW [x0, x1, x2, x3] + valB WW [y0, y1, y2, y3]) := wN_of rfl rfl (by
  simp only [List.mem_cons, List.not_mem_nil, or_false, forall_eq_or_imp, forall_eq]
  exact ⟨i0, i1, i2, i3⟩) hs
 rw [ew]
 have h2 := two_ell
 rw [low_wN (by omega), lw_add lx ly]
theorem plus_num {R : Type} {x y : List Int} (hx : okN x = true) (hy : okN y = true) (k : List DV → Option R) :
  f115_raw 0 x y k = k [.v (.one (.ints .u64 4 (wN ((nW x + nW y) % ell))))] := by
 have lx := okN_lt hx
 have ly := okN_lt hy
 obtain ⟨l, rfl, h1, h2⟩ := okW_of (okN_W hx)
 obtain ⟨m, rfl, h3, h4⟩ := okW_of (okN_W hy)
 rw [nW_nats] at lx ly
 rw [nW_nats, nW_nats]
 obtain ⟨x0, x1, x2, x3, rfl⟩ := len4 h1
 obtain ⟨y0, y1, y2, y3, rfl⟩ := len4 h3
 simp only [List.mem_cons, List.not_mem_nil, or_false, forall_eq_or_imp, forall_eq] at h2 h4
 obtain ⟨a0, a1, a2, a3⟩ := h2
 obtain ⟨b0, b1, b2, b3⟩ := h4
 exact plus_nat a0 a1 a2 a3 b0 b1 b2 b3 lx ly k
def addN : Nat → Nat → Nat := (stk fun a b : Nat => (a + b) % ell).1
theorem addN_def (a b : Nat) : addN a b = (a + b) % ell := congrFun (congrFun (stk fun a b : Nat => (a + b) % ell).2 a) b
theorem addN_lt (a b : Nat) : addN a b < ell := by rw [addN_def]; exact Nat.mod_lt _ ell_pos
def I115 : (R : Type) → List DV → (List DV → Option R) → Option R := fun _ ds k => match ds with
 | [.v (.one (.ints .u64 4 x)), .v (.one (.ints .u64 4 y))] => bif okN x && okN y then k [.v (.one (.ints .u64 4 (wN (addN (nW x) (nW y)))))] else none
 | _ => none
theorem c115 : Contract Tryz.prog 115 { sig := S115, impl := I115 } := by
 refine Contract.refine fun R ds k r h => ⟨_, f115_contract 0 G54_ok, ?_⟩
 unfold I115 at h
 split at h
 ·
  rename_i x y
  cases hc : okN x && okN y with
  | false => rw [hc] at h; cases h
  | true =>
   rw [hc] at h
   obtain ⟨h1, h2⟩ := Bool.and_eq_true _ _ ▸ hc
   rw [f115_raw_eq, plus_num h1 h2, ← addN_def]; exact h
 ·
  cases h
def negN : Nat → Nat := (stk fun a : Nat => (ell - a) % ell).1
theorem negN_def (a : Nat) : negN a = (ell - a) % ell := congrFun (stk fun a : Nat => (ell - a) % ell).2 a
theorem negN_lt (a : Nat) : negN a < ell := by rw [negN_def]; exact Nat.mod_lt _ ell_pos
theorem wN_zero : List.replicate 4 (0 : Int) = wN 0 := by rw [wN_def]; decide
theorem minus_num {R : Type} {x : List Int} (hx : okN x = true) (k : List DV → Option R) : f134_raw 0 x k = k [.v (.one (.ints .u64 4 (wN (negN (nW x)))))] := by
 unfold f134_raw
 have hl := okN_lt hx
 have ex := wN_nW (okN_W hx)
 rw [negN_def]
 by_cases h0 : nW x = 0
 ·
  have : x = List.replicate 4 0 := by rw [wN_zero, ← h0]; exact ex.symm
  rw [decide_eq_true this, cond_true, h0, Nat.sub_zero, Nat.mod_self, ← wN_zero, ← this]
 ·
  have : ¬ x = List.replicate 4 0 := by
   intro e; rw [wN_zero] at e
   apply h0; rw [e, nW_wN (by decide)]
  rw [decide_eq_false this, cond_false, (less_num ordW_ok (okN_W hx)).1, ordW_num]
  have e1 := ell_lt
  rw [show ell + WW ^ 4 - nW x = (ell - nW x) + WW ^ 4 by omega, Nat.add_mod_right, Nat.mod_eq_of_lt (show ell - nW x < WW ^ 4 by omega), Nat.mod_eq_of_lt (show ell - nW x < ell by omega)]
def I134 : (R : Type) → List DV → (List DV → Option R) → Option R := fun _ ds k => match ds with
 | [.v (.one (.ints .u64 4 x))] => bif okN x then k [.v (.one (.ints .u64 4 (wN (negN (nW x)))))] else none
 | _ => none
theorem c134 : Contract Tryz.prog 134 { sig := S134, impl := I134 } := by
 refine Contract.refine fun R ds k r h => ⟨_, f134_contract 0 G79_ok, ?_⟩
 unfold I134 at h
 split at h
 ·
  rename_i x
  cases hc : okN x with
  | false => rw [hc] at h; cases h
  | true =>
   rw [hc] at h
   rw [f134_raw_eq, minus_num hc]; exact h
 ·
  cases h
def vS : List Int → Nat := (stk fun x => numB x % ell).1
theorem vS_def (x : List Int) : vS x = numB x % ell := congrFun (stk fun x => numB x % ell).2 x
theorem vS_lt (x : List Int) : vS x < ell := by rw [vS_def]; exact Nat.mod_lt _ ell_pos
theorem low_k {v : Nat} (hv : v < WW ^ 4) : ∀ k : Nat, lowL (wN (lwN k v)) = wN (lwN (k + 1) v) := by
 intro k
 have : ∀ k, lwN k v < WW ^ 4 := by
  intro k
  induction k with
  | zero => exact hv
  | succ k ih => exact Nat.lt_of_le_of_lt (lw_lt _) ih
 exact low_wN (this k)
theorem value_num {R : Type} {x : List Int} (hx : okB x = true) (k : List DV → Option R) : f116_raw 0 x k = k [.v (.one (.ints .u64 4 (wN (vS x))))] := by
 unfold f116_raw
 have hv := numB_lt hx
 rw [from_num hx, vS_def, ← lwN_16 hv]
 rw [show wN (numB x) = wN (lwN 0 (numB x)) from rfl]
 iterate 16 rw [low_k hv]
def I116 : (R : Type) → List DV → (List DV → Option R) → Option R := fun _ ds k => match ds with
 | [.v (.one (.ints .u8 32 x))] => bif okB x then k [.v (.one (.ints .u64 4 (wN (vS x))))] else none
 | _ => none
theorem c116 : Contract Tryz.prog 116 { sig := S116, impl := I116 } := by
 refine Contract.refine fun R ds k r h => ⟨_, f116_contract 0 G55_ok, ?_⟩
 unfold I116 at h
 split at h
 ·
  rename_i x
  cases hc : okB x with
  | false => rw [hc] at h; cases h
  | true =>
   rw [hc] at h
   rw [f116_raw_eq, value_num hc]; exact h
 ·
  cases h
def mrow (a : Int) : List Int → List Int → Int → List Int × Int
 | b :: bs, t :: ts, c => (maLo a b t c :: (mrow a bs ts (maHi a b t c)).1, (mrow a bs ts (maHi a b t c)).2)
 | _, _, c => ([], c)
def mend (s : List Int × Int) (t4 q : Int) : List Int :=
 [s.1.getD 1 0, s.1.getD 2 0, s.1.getD 3 0, addLo (addLo t4 q 0) s.2 0, IntKind.u64.wrap (addHi t4 q 0 + addHi (addLo t4 q 0) s.2 0)]
def mmid (r : List Int × Int) (t4 : Int) : List Int := mend (mrow (IntKind.u64.wrap (r.1.getD 0 0 * 15183074304973897243)) ordW r.1 0) t4 r.2
def mstep (a : Int) (b : List Int) : List Int → List Int
 | [t0, t1, t2, t3, t4] => mmid (mrow a b [t0, t1, t2, t3] 0) t4
 | _ => []
def montR (x y : List Int) : List Int := ansL (f179_raw 0 x y some) 0
theorem f179_spec {R : Type} (x y : List Int) (k : List DV → Option R) : f179_raw 0 x y k = k [.v (.one (.ints .u64 4 (montR x y)))] := by kernel_rfl
theorem mont_eq (a0 a1 a2 a3 b0 b1 b2 b3 : Int) : montR [a0, a1, a2, a3] [b0, b1, b2, b3] =
  lowL (List.take 4 (mstep a3 [b0, b1, b2, b3] (mstep a2 [b0, b1, b2, b3] (mstep a1 [b0, b1, b2, b3] (mstep a0 [b0, b1, b2, b3] [0, 0, 0, 0, 0]))))) := by kernel_rfl
theorem mrow_nat {a : Nat} (ha : a < WW) : ∀ (b t : List Nat) (c : Nat), b.length = t.length → (∀ x ∈ b, x < WW) → (∀ x ∈ t, x < WW) → c < WW →
  ∃ (r : List Nat) (q : Nat), mrow (a : Int) (nats b) (nats t) (c : Int) = (nats r, (q : Int)) ∧ r.length = b.length ∧ (∀ x ∈ r, x < WW) ∧ q < WW ∧ valB WW r + WW ^ b.length * q = a * valB WW b + valB WW t + c
 | [], [], c, _, _, _, hc => ⟨[], c, rfl, rfl, by simp, hc, by simp [valB]⟩
 | x :: b, y :: t, c, hl, h1, h2, hc => by
  have hx : x < WW := h1 x (by simp)
  have hy : y < WW := h2 y (by simp)
  obtain ⟨e1, e2⟩ := ma_nat ha hx hy hc
  have hp : a * x ≤ 18446744073709551615 * 18446744073709551615 := by unfold WW at *; exact Nat.mul_le_mul (by omega) (by omega)
  have hq : (a * x + y + c) / 18446744073709551616 < WW := by unfold WW at *; omega
  obtain ⟨r, q, g1, g2, g3, g4, g5⟩ := mrow_nat ha b t ((a * x + y + c) / 18446744073709551616) (by simpa using hl) (fun z hz => h1 z (by simp [hz])) (fun z hz => h2 z (by simp [hz])) hq
  refine ⟨(a * x + y + c) % 18446744073709551616 :: r, q, ?_, by simp [g2], ?_, g4, ?_⟩
  ·
   show (maLo (a : Int) (x : Int) (y : Int) (c : Int) :: (mrow (a : Int) (nats b) (nats t) (maHi (a : Int) (x : Int) (y : Int) (c : Int))).1, (mrow (a : Int) (nats b) (nats t) (maHi (a : Int) (x : Int) (y : Int) (c : Int))).2) = _
   rw [e1, e2, g1]; rfl
  ·
   intro z hz
   rcases List.mem_cons.mp hz with rfl | hz
   ·
    exact Nat.mod_lt _ (by decide)
   ·
    exact g3 z hz
  ·
   simp only [valB, List.length_cons, Nat.pow_succ]
   rw [Nat.mul_comm (WW ^ b.length) WW, Nat.mul_assoc, Nat.mul_add, show a * (WW * valB WW b) = WW * (a * valB WW b) by rw [← Nat.mul_assoc, Nat.mul_comm a WW, Nat.mul_assoc]]
   generalize WW ^ b.length * q = P at *
   generalize a * valB WW b = Q at *
   generalize a * x = S at *
   unfold WW at *
   omega
 | [], _ :: _, _, h, _, _, _ => by simp at h
 | _ :: _, [], _, h, _, _, _ => by simp at h
theorem mstep_nat {a : Nat} (ha : a < WW) {b : List Nat} (hb : b.length = 4) (hB : ∀ x ∈ b, x < WW) {t : List Nat} (ht : t.length = 5) (hT : ∀ x ∈ t, x < WW) :
  ∃ (u : List Nat) (m : Nat), mstep (a : Int) (nats b) (nats t) = nats u ∧ u.length = 5 ∧ (∀ x ∈ u, x < WW) ∧ m < WW ∧ WW * valB WW u = valB WW t + a * valB WW b + m * ell := by
 match t, ht with
 | [t0, t1, t2, t3, t4], _ =>
  simp only [List.mem_cons, List.not_mem_nil, or_false, forall_eq_or_imp, forall_eq] at hT
  obtain ⟨h0, h1, h2, h3, h4⟩ := hT
  obtain ⟨r, q, e1, r1, r2, r3, r4⟩ := mrow_nat ha b [t0, t1, t2, t3] 0 (by rw [hb]; rfl) hB (by
   simp only [List.mem_cons, List.not_mem_nil, or_false, forall_eq_or_imp, forall_eq]
   exact ⟨h0, h1, h2, h3⟩) (by decide)
  rw [hb] at r1 r4
  obtain ⟨r0, ra, rb, rc, rfl⟩ := len4 r1
  have hm : (r0 * 15183074304973897243) % 18446744073709551616 < WW := Nat.mod_lt _ (by decide)
  obtain ⟨s, q2, e2, s1, s2, s3, s4⟩ := mrow_nat hm [6346243789798364141, 1503914060200516822, 0, 1152921504606846976] [r0, ra, rb, rc] 0 rfl (by decide) r2 (by decide)
  obtain ⟨u0, u1, u2, u3, rfl⟩ := len4 s1
  have em : IntKind.u64.wrap ((r0 : Int) * 15183074304973897243) = (((r0 * 15183074304973897243) % 18446744073709551616 : Nat) : Int) := wm64 (r0 * 15183074304973897243)
  have hord : valB WW [6346243789798364141, 1503914060200516822, 0, 1152921504606846976] = ell := by rw [ell_def]; decide
  rw [hord] at s4
  have hov : (t4 + q + 0) / 18446744073709551616 + ((t4 + q + 0) % 18446744073709551616 + q2 + 0) / 18446744073709551616 < 18446744073709551616 := by unfold WW at *; omega
  refine ⟨[u1, u2, u3, ((t4 + q + 0) % 18446744073709551616 + q2 + 0) % 18446744073709551616, (t4 + q + 0) / 18446744073709551616 + ((t4 + q + 0) % 18446744073709551616 + q2 + 0) / 18446744073709551616], (r0 * 15183074304973897243) % 18446744073709551616, ?_, rfl, ?_, hm, ?_⟩
  ·
   have e1' : mrow (a : Int) (nats b) [(t0 : Int), (t1 : Int), (t2 : Int), (t3 : Int)] 0 = (nats [r0, ra, rb, rc], (q : Int)) := e1
   have e2' : mrow (((r0 * 15183074304973897243) % 18446744073709551616 : Nat) : Int) ordW [(r0 : Int), (ra : Int), (rb : Int), (rc : Int)] 0 = (nats [u0, u1, u2, u3], (q2 : Int)) := e2
   show mmid (mrow (a : Int) (nats b) [(t0 : Int), (t1 : Int), (t2 : Int), (t3 : Int)] 0) (t4 : Int) = _
   rw [e1']
   show mend (mrow (IntKind.u64.wrap ((r0 : Int) * 15183074304973897243)) ordW [(r0 : Int), (ra : Int), (rb : Int), (rc : Int)] 0) (t4 : Int) (q : Int) = _
   rw [em, e2']
   show [(u1 : Int), (u2 : Int), (u3 : Int), addLo (addLo (t4 : Int) (q : Int) ((0 : Nat) : Int)) (q2 : Int) ((0 : Nat) : Int), IntKind.u64.wrap (addHi (t4 : Int) (q : Int) ((0 : Nat) : Int) + addHi (addLo (t4 : Int) (q : Int) ((0 : Nat) : Int)) (q2 : Int) ((0 : Nat) : Int))] = _
   rw [addLo_nat, addHi_nat, addLo_nat, addHi_nat, show IntKind.u64.wrap ((((t4 + q + 0) / 18446744073709551616 : Nat) : Int) + ((((t4 + q + 0) % 18446744073709551616 + q2 + 0) / 18446744073709551616 : Nat) : Int)) = (((t4 + q + 0) / 18446744073709551616 + ((t4 + q + 0) % 18446744073709551616 + q2 + 0) / 18446744073709551616 : Nat) : Int) from w64 (n := (t4 + q + 0) / 18446744073709551616 + ((t4 + q + 0) % 18446744073709551616 + q2 + 0) / 18446744073709551616) hov]
   rfl
  ·
   simp only [List.mem_cons, List.not_mem_nil, or_false, forall_eq_or_imp, forall_eq] at s2 ⊢
   obtain ⟨_, b1, b2, b3⟩ := s2
   exact ⟨b1, b2, b3, Nat.mod_lt _ (by decide), hov⟩
  ·
   have hu0 : u0 = 0 := by
    simp only [List.mem_cons, List.not_mem_nil, or_false, forall_eq_or_imp, forall_eq] at s2
    have hu : u0 < 18446744073709551616 := s2.1
    rw [ell_def] at s4
    simp only [valB, WW, List.length_cons, List.length_nil] at s4
    clear e2 em e1 r4 hov
    omega
   subst hu0
   simp only [valB] at r4 s4 ⊢
   generalize (r0 * 15183074304973897243) % 18446744073709551616 * ell = M at *
   generalize a * valB WW b = Q at *
   clear e2 em e1
   simp only [WW, List.length_cons, List.length_nil] at *
   omega
@[irreducible] def rinv : Nat := 4458503529701987551646482192314240623644693141688353256590997718326214331684
theorem rinv_def : rinv = 4458503529701987551646482192314240623644693141688353256590997718326214331684 := by unfold rinv; rfl
theorem rinv_ok : WW ^ 4 * rinv % ell = 1 := by rw [rinv_def, ell_def, W4]
theorem redc {T A B M : Nat} (h : WW ^ 4 * T = A * B + M * ell) (hA : A < WW ^ 4) (hB : B < ell) (hM : M < WW ^ 4) : T < ell + ell ∧ T % ell = A * B * rinv % ell := by
 constructor
 ·
  have h1 : A * B ≤ WW ^ 4 * B := Nat.mul_le_mul_right _ (Nat.le_of_lt hA)
  have h2 : WW ^ 4 * B + M * ell < WW ^ 4 * (ell + ell) := by
   have : M * ell ≤ WW ^ 4 * ell := Nat.mul_le_mul_right _ (Nat.le_of_lt hM)
   have : WW ^ 4 * B < WW ^ 4 * ell := Nat.mul_lt_mul_of_pos_left hB (by rw [W4]; decide)
   rw [Nat.mul_add]; omega
  have : WW ^ 4 * T < WW ^ 4 * (ell + ell) := by omega
  exact Nat.lt_of_mul_lt_mul_left this
 ·
  have e1 : T % ell = T * (WW ^ 4 * rinv) % ell := by rw [Nat.mul_mod, rinv_ok, Nat.mul_one, Nat.mod_mod]
  rw [e1, ← Nat.mul_assoc, Nat.mul_comm T, h, Nat.add_mul, Nat.mul_assoc M, Nat.mul_comm ell, ← Nat.mul_assoc, Nat.add_mul_mod_self_right]
def montN : Nat → Nat → Nat := (stk fun a b : Nat => a * b * rinv % ell).1
theorem montN_def (a b : Nat) : montN a b = a * b * rinv % ell := congrFun (congrFun (stk fun a b : Nat => a * b * rinv % ell).2 a) b
theorem montN_lt (a b : Nat) : montN a b < ell := by rw [montN_def]; exact Nat.mod_lt _ ell_pos
theorem mont_val {B : Nat} {m0 m1 m2 m3 a0 a1 a2 a3 T0 T1 T2 T3 : Nat} (s0 : WW * T0 = 0 + a0 * B + m0 * ell) (s1 : WW * T1 = T0 + a1 * B + m1 * ell) (s2 : WW * T2 = T1 + a2 * B + m2 * ell) (s3 : WW * T3 = T2 + a3 * B + m3 * ell) :
  WW ^ 4 * T3 = valB WW [a0, a1, a2, a3] * B + valB WW [m0, m1, m2, m3] * ell := by
 simp only [valB, Nat.add_mul, Nat.mul_add, Nat.mul_zero, Nat.zero_mul, Nat.mul_assoc] at *
 generalize a0 * B = x0 at *
 generalize a1 * B = x1 at *
 generalize a2 * B = x2 at *
 generalize a3 * B = x3 at *
 generalize m0 * ell = y0 at *
 generalize m1 * ell = y1 at *
 generalize m2 * ell = y2 at *
 generalize m3 * ell = y3 at *
 rw [W4]
 unfold WW at *
 omega
theorem mont_nat {a0 a1 a2 a3 : Nat} (ha : ∀ x ∈ [a0, a1, a2, a3], x < WW) {b0 b1 b2 b3 : Nat} (hb : ∀ x ∈ [b0, b1, b2, b3], x < WW) (lb : valB WW [b0, b1, b2, b3] < ell) :
  montR (nats [a0, a1, a2, a3]) (nats [b0, b1, b2, b3]) = wN (montN (valB WW [a0, a1, a2, a3]) (valB WW [b0, b1, b2, b3])) := by
 have hA : valB WW [a0, a1, a2, a3] < WW ^ 4 := valB_lt (b := WW) (by decide) ha
 simp only [List.mem_cons, List.not_mem_nil, or_false, forall_eq_or_imp, forall_eq] at ha
 obtain ⟨h0, h1, h2, h3⟩ := ha
 obtain ⟨t0, m0, e0, l0, w0, k0, s0⟩ := mstep_nat h0 (b := [b0, b1, b2, b3]) rfl hb (t := [0, 0, 0, 0, 0]) rfl (by decide)
 obtain ⟨t1, m1, e1, l1, w1, k1, s1⟩ := mstep_nat h1 (b := [b0, b1, b2, b3]) rfl hb l0 w0
 obtain ⟨t2, m2, e2, l2, w2, k2, s2⟩ := mstep_nat h2 (b := [b0, b1, b2, b3]) rfl hb l1 w1
 obtain ⟨t3, m3, e3, l3, w3, k3, s3⟩ := mstep_nat h3 (b := [b0, b1, b2, b3]) rfl hb l2 w2
 refine (mont_eq (a0 : Int) (a1 : Int) (a2 : Int) (a3 : Int) (b0 : Int) (b1 : Int) (b2 : Int) (b3 : Int)).trans ?_
 have e0' : mstep (a0 : Int) [(b0 : Int), (b1 : Int), (b2 : Int), (b3 : Int)] [0, 0, 0, 0, 0] = nats t0 := e0
 have e1' : mstep (a1 : Int) [(b0 : Int), (b1 : Int), (b2 : Int), (b3 : Int)] (nats t0) = nats t1 := e1
 have e2' : mstep (a2 : Int) [(b0 : Int), (b1 : Int), (b2 : Int), (b3 : Int)] (nats t1) = nats t2 := e2
 have e3' : mstep (a3 : Int) [(b0 : Int), (b1 : Int), (b2 : Int), (b3 : Int)] (nats t2) = nats t3 := e3
 rw [e0', e1', e2', e3']
 have z : valB WW [0, 0, 0, 0, 0] = 0 := by decide
 rw [z] at s0
 have hv := mont_val s0 s1 s2 s3
 have hM : valB WW [m0, m1, m2, m3] < WW ^ 4 := valB_lt (b := WW) (l := [m0, m1, m2, m3]) (by decide) (by
  simp only [List.mem_cons, List.not_mem_nil, or_false, forall_eq_or_imp, forall_eq]; exact ⟨k0, k1, k2, k3⟩)
 obtain ⟨r1, r2⟩ := redc hv hA lb hM
 have h2e := two_ell
 match t3, l3, w3, r1, r2 with
 | [u0, u1, u2, u3, u4], _, w3, r1, r2 =>
  have hs : valB WW [u0, u1, u2, u3, u4] = valB WW [u0, u1, u2, u3] + WW ^ 4 * u4 := valB_append WW [u0, u1, u2, u3] [u4] |>.trans (by simp [valB])
  have hu4 : u4 = 0 := by
   rcases Nat.eq_zero_or_pos u4 with h | h
   ·
    exact h
   ·
    have : WW ^ 4 * 1 ≤ WW ^ 4 * u4 := Nat.mul_le_mul_left _ h
    omega
  subst hu4
  rw [Nat.mul_zero, Nat.add_zero] at hs
  rw [hs] at r1 r2
  simp only [List.mem_cons, List.not_mem_nil, or_false, forall_eq_or_imp, forall_eq] at w3
  have ew : List.take 4 (nats [u0, u1, u2, u3, 0]) = wN (valB WW [u0, u1, u2, u3]) := wN_of (l := [u0, u1, u2, u3]) rfl rfl (by
   simp only [List.mem_cons, List.not_mem_nil, or_false, forall_eq_or_imp, forall_eq]
   exact ⟨w3.1, w3.2.1, w3.2.2.1, w3.2.2.2.1⟩) rfl
  rw [ew, low_wN (by omega), montN_def, ← r2]
  refine congrArg wN ?_
  unfold lw
  split
  ·
   rename_i hl; exact (Nat.mod_eq_of_lt hl).symm
  ·
   rename_i hl; rw [Nat.mod_eq_sub_mod (by omega), Nat.mod_eq_of_lt (by omega)]
theorem mont_num {x y : List Int} (hx : okW x = true) (hy : okN y = true) : montR x y = wN (montN (nW x) (nW y)) := by
 have ly := okN_lt hy
 obtain ⟨l, rfl, h1, h2⟩ := okW_of hx
 obtain ⟨m, rfl, h3, h4⟩ := okW_of (okN_W hy)
 rw [nW_nats] at ly
 rw [nW_nats, nW_nats]
 obtain ⟨x0, x1, x2, x3, rfl⟩ := len4 h1
 obtain ⟨y0, y1, y2, y3, rfl⟩ := len4 h3
 exact mont_nat h2 h4 ly
def I179 : (R : Type) → List DV → (List DV → Option R) → Option R := fun _ ds k => match ds with
 | [.v (.one (.ints .u64 4 x)), .v (.one (.ints .u64 4 y))] => bif okW x && okN y then k [.v (.one (.ints .u64 4 (wN (montN (nW x) (nW y)))))] else none
 | _ => none
theorem c179 : Contract Tryz.prog 179 { sig := S179, impl := I179 } := by
 refine Contract.refine fun R ds k r h => ⟨_, f179_contract 0 G82_ok, ?_⟩
 unfold I179 at h
 split at h
 ·
  rename_i x y
  cases hc : okW x && okN y with
  | false => rw [hc] at h; cases h
  | true =>
   rw [hc] at h
   obtain ⟨h1, h2⟩ := Bool.and_eq_true _ _ ▸ hc
   rw [f179_raw_eq, f179_spec, mont_num h1 h2]; exact h
 ·
  cases h
def G60 : Ctx := [(179, { sig := S179, impl := I179 }), (180, { sig := S180, impl := I180 })]
theorem G60_ok : CtxOk Tryz.prog G60 := ctxOk_cons ok179 rfl c179 (ctxOk_cons ok180 rfl c180 ctxOk_nil)
def f129_raw {R : Type} (N : Nat) (x y : List Int) (k : List DV → Option R) : Option R :=
 bif okW x && okN y then bif okW (wN (montN (nW x) (nW y))) && okN radW then k [.v (.one (.ints .u64 4 (wN (montN (nW (wN (montN (nW x) (nW y)))) (nW radW)))))] else none else none
def E129 (N : Nat) : Env := { Θ := Th, Γ := G60, K := K129, ν := N129, fuel := 0, lp := [] }
theorem f129_contract (N : Nat) (hΓ : CtxOk Tryz.prog G60) : Contract Tryz.prog 129 { sig := S129, impl := fun _ ds k => call (E129 N) S129 10 B129 R129 ds k } :=
 call_contract (E := E129 N) thOk hΓ mixed ok129.look ok129.body ok129.n ok129.rv ok129.name rfl (by decide) (loopsOk_of (l := []) (by kernel_rfl) trivial)
theorem f129_raw_eq {R : Type} (N : Nat) (x y : List Int) (k : List DV → Option R) : call (E129 N) S129 10 B129 R129 [.v (.one (.ints .u64 4 x)), .v (.one (.ints .u64 4 y))] k = f129_raw N x y k := by kernel_rfl
def f133_0_sh : Shp := ⟨36, 2, [(3, .one (.fix (.ptr 3 0 .z 4))), (4, .one (.fix (.ptr 4 0 .z 4))), (5, .one (.fix (.ptr 5 0 .z 4))), (6, .one (.fix (.ptr 6 0 .z 4))), (7, .one (.int .i64))], [(3, .obj [.ints .u64 4]), (4, .obj [.ints .u64 4]), (5, .obj [.ints .u64 4]), (6, .obj [.ints .u64 4])]⟩
def f133_0_ex1 : Shp := ⟨36, 2, [(15, .one .bool), (3, .one (.fix (.ptr 3 0 .z 4))), (4, .one (.fix (.ptr 4 0 .z 4))), (5, .one (.fix (.ptr 5 0 .z 4))), (6, .one (.fix (.ptr 6 0 .z 4))), (7, .one (.int .i64))], [(3, .obj [.ints .u64 4]), (4, .obj [.ints .u64 4]), (5, .obj [.ints .u64 4]), (6, .obj [.ints .u64 4])]⟩
def f133_0_st {R : Type} (N : Nat) (self : Int → List Int → List Int → List Int → List Int → Option R) (k1 : Bool → Int → List Int → List Int → List Int → List Int → Option R) (x1 : Int) (x2 x3 : List Int) (x4 x5 : List Int) : Option R :=
 bif decide (x1 ≥ 0) then
 bif okW x5 && okN x5 then
 let v0 := IntKind.i64.wrap (x1.tdiv 64);
 bif decide (0 ≤ v0) && decide (v0 < 4) then
 bif decide (0 ≤ x1.tmod 64) then
 let v1 := shrI .u64 (x2.getD (mulE v0.toNat 1) 0) (x1.tmod 64);
 let v2 := andI .u64 v1 1;
 bif v2 == 1 then
 bif okW (wN (montN (nW x5) (nW x5))) && okN x4 then
 let v3 := IntKind.i64.wrap (x1 - 1);
 self v3 x2 x3 x4 (wN (montN (nW (wN (montN (nW x5) (nW x5)))) (nW x4)))
 else none
 else
 let v4 := IntKind.i64.wrap (x1 - 1);
 self v4 x2 x3 x4 (wN (montN (nW x5) (nW x5)))
 else none
 else none
 else none
else k1 (decide (x1 ≥ 0)) x1 x2 x3 x4 x5
def f133_0_lp {R : Type} (N : Nat) (k1 : Bool → Int → List Int → List Int → List Int → List Int → Option R) : Nat → Int → List Int → List Int → List Int → List Int → Option R
 | 0, _, _, _, _, _ => none
 | n + 1, x1, x2, x3, x4, x5 => f133_0_st N (f133_0_lp N k1 n) k1 x1 x2 x3 x4 x5
def f133_0_F (N : Nat) : (R : Type) → List Leaf → (X → AS → Option R) → Option R := fun _ ls K => match ls with
 | [.i x1, .l x2, .l x3, .l x4, .l x5] => f133_0_lp N (fun y1 y2 y3 y4 y5 y6 => K .normal (fill f133_0_ex1 [.b y1, .i y2, .l y3, .l y4, .l y5, .l y6])) N x1 x2 x3 x4 x5
 | _ => none
def f133_raw {R : Type} (N : Nat) (x y : List Int) (k : List DV → Option R) : Option R :=
 bif okW x && okN radW then
 let v0 : List Int := (List.replicate 4 0).set 0 1;
 f133_0_lp N (fun w1_1 w1_2 w1_3 w1_4 w1_5 w1_6 => bif okW w1_6 && okN v0 then k [.v (.one (.ints .u64 4 (wN (montN (nW w1_6) (nW v0)))))] else none) N 255 y (List.replicate 4 0) (wN (montN (nW x) (nW radW))) (wN (montN (nW v0) (nW radW)))
else none
def E133 (N : Nat) : Env := { Θ := Th, Γ := G60, K := K133, ν := N133, fuel := 0, lp := [(0, mkL N133_0 f133_0_sh (f133_0_F N))] }
theorem f133_0_st_eq {R : Type} (N : Nat) (K : X → AS → Option R) (n : Nat) (x1 : Int) (x2 x3 : List Int) (x4 x5 : List Int) : roundsOf (E133 N) N133_0 0 B133_0 K (n + 1) (fill f133_0_sh [.i x1, .l x2, .l x3, .l x4, .l x5]) = f133_0_st N (fun x1 x2 x3 x4 x5 => roundsOf (E133 N) N133_0 0 B133_0 K n (fill f133_0_sh [.i x1, .l x2, .l x3, .l x4, .l x5])) (fun y1 y2 y3 y4 y5 y6 => K .normal (fill f133_0_ex1 [.b y1, .i y2, .l y3, .l y4, .l y5, .l y6])) x1 x2 x3 x4 x5 := by kernel_rfl
theorem f133_0_lp_eq {R : Type} (N : Nat) (K : X → AS → Option R) : ∀ (n : Nat) (x1 : Int) (x2 x3 : List Int) (x4 x5 : List Int), roundsOf (E133 N) N133_0 0 B133_0 K n (fill f133_0_sh [.i x1, .l x2, .l x3, .l x4, .l x5]) = f133_0_lp N (fun y1 y2 y3 y4 y5 y6 => K .normal (fill f133_0_ex1 [.b y1, .i y2, .l y3, .l y4, .l y5, .l y6])) n x1 x2 x3 x4 x5
 | 0, _, _, _, _, _ => rfl
 | n + 1, x1, x2, x3, x4, x5 => by
  rw [f133_0_st_eq, f133_0_lp, show (fun x1 x2 x3 x4 x5 => roundsOf (E133 N) N133_0 0 B133_0 K n (fill f133_0_sh [.i x1, .l x2, .l x3, .l x4, .l x5])) = f133_0_lp N (fun y1 y2 y3 y4 y5 y6 => K .normal (fill f133_0_ex1 [.b y1, .i y2, .l y3, .l y4, .l y5, .l y6])) n from by funext x1 x2 x3 x4 x5; exact f133_0_lp_eq N K n x1 x2 x3 x4 x5]
theorem f133_0_ok (N : Nat) (hlp : LoopsOk Tryz.prog (E133 N).lp B133_0) (hΓ : CtxOk Tryz.prog (E133 N).Γ) : LoopOk Tryz.prog (mkL N133_0 f133_0_sh (f133_0_F N)) 0 B133_0 := by
 refine loopOk_of (E := E133 N) thOk hΓ mixed hlp ?_
 intro R ls K r h
 unfold f133_0_F at h
 split at h
 ·
  exact ⟨N, by rw [f133_0_lp_eq]; exact h⟩
 ·
  cases h
theorem lok133_0 (N : Nat) (hΓ : CtxOk Tryz.prog G60) : LoopOk Tryz.prog (mkL N133_0 f133_0_sh (f133_0_F N)) 0 B133_0 := f133_0_ok N (loopsOk_of (l := []) (by kernel_rfl) trivial) hΓ
theorem f133_contract (N : Nat) (hΓ : CtxOk Tryz.prog G60) : Contract Tryz.prog 133 { sig := S133, impl := fun _ ds k => call (E133 N) S133 36 B133 R133 ds k } :=
 call_contract (E := E133 N) thOk hΓ mixed ok133.look ok133.body ok133.n ok133.rv ok133.name rfl (by decide) (loopsOk_of (l := [(0, B133_0)]) (by kernel_rfl) (allOk_cons (L := mkL N133_0 f133_0_sh (f133_0_F N)) rfl (lok133_0 N hΓ) trivial))
theorem f133_raw_eq {R : Type} (N : Nat) (x y : List Int) (k : List DV → Option R) : call (E133 N) S133 36 B133 R133 [.v (.one (.ints .u64 4 x)), .v (.one (.ints .u64 4 y))] k = f133_raw N x y k := by kernel_rfl
def f128_raw {R : Type} (N : Nat) (x : Int) (k : List DV → Option R) : Option R :=
 let v0 : List Int := (List.replicate 4 0).set 0 x;
k [.v (.one (.ints .u8 32 (backL v0)))]
def E128 (N : Nat) : Env := { Θ := Th, Γ := [(114, { sig := S114, impl := I114 })], K := K128, ν := N128, fuel := 0, lp := [] }
theorem f128_contract (N : Nat) (hΓ : CtxOk Tryz.prog [(114, { sig := S114, impl := I114 })]) : Contract Tryz.prog 128 { sig := S128, impl := fun _ ds k => call (E128 N) S128 6 B128 R128 ds k } :=
 call_contract (E := E128 N) thOk hΓ mixed ok128.look ok128.body ok128.n ok128.rv ok128.name rfl (by decide) (loopsOk_of (l := []) (by kernel_rfl) trivial)
theorem f128_raw_eq {R : Type} (N : Nat) (x : Int) (k : List DV → Option R) : call (E128 N) S128 6 B128 R128 [.v (.one (.int .u64 x))] k = f128_raw N x k := by kernel_rfl
theorem unR (c : Nat) : c * (WW ^ 4 * rinv) % ell = c % ell := by rw [Nat.mul_mod, rinv_ok, Nat.mul_one, Nat.mod_mod]
theorem montN_mod (a b : Nat) : montN (a % ell) (b % ell) = a * b * rinv % ell := by
 rw [montN_def, Nat.mul_mod (a % ell * (b % ell)), ← Nat.mul_mod a b, ← Nat.mul_mod]
def mf : Nat → Nat := (stk fun v : Nat => v * WW ^ 4 % ell).1
theorem mf_def (v : Nat) : mf v = v * WW ^ 4 % ell := congrFun (stk fun v : Nat => v * WW ^ 4 % ell).2 v
theorem mf_lt (v : Nat) : mf v < ell := by rw [mf_def]; exact Nat.mod_lt _ ell_pos
theorem W8 : WW ^ 8 = WW ^ 4 * WW ^ 4 := by rw [← Nat.pow_add]
theorem mont_rad (a : Nat) : montN (a % ell) (nW radW) = mf a := by
 rw [radW_num, montN_mod, mf_def, W8, show a * (WW ^ 4 * WW ^ 4) * rinv = a * WW ^ 4 * (WW ^ 4 * rinv) by simp only [Nat.mul_assoc], unR]
theorem mont_mf (u v : Nat) : montN (mf u) (mf v) = mf (u * v) := by
 rw [mf_def, mf_def, montN_mod, mf_def, show u * WW ^ 4 * (v * WW ^ 4) * rinv = u * v * WW ^ 4 * (WW ^ 4 * rinv) by
  simp only [Nat.mul_assoc, Nat.mul_left_comm], unR]
theorem one_lt_ell : 1 < ell := by rw [ell_def]; decide
theorem mont_one (v : Nat) : montN (mf v) 1 = v % ell := by
 rw [mf_def, show (1 : Nat) = 1 % ell from (Nat.mod_eq_of_lt one_lt_ell).symm, montN_mod, Nat.mul_one, Nat.mul_assoc, unR]
theorem mont_mont (a b : Nat) : montN (montN a b) (nW radW) = a * b % ell := by
 rw [montN_def a b, mont_rad, mf_def, Nat.mul_assoc, Nat.mul_comm rinv, unR]
def mulN : Nat → Nat → Nat := (stk fun a b : Nat => a * b % ell).1
theorem mulN_def (a b : Nat) : mulN a b = a * b % ell := congrFun (congrFun (stk fun a b : Nat => a * b % ell).2 a) b
theorem mulN_lt (a b : Nat) : mulN a b < ell := by rw [mulN_def]; exact Nat.mod_lt _ ell_pos
theorem okN_rad : okN radW = true := by
 unfold okN
 rw [radW_ok, radW_num, decide_eq_true (Nat.mod_lt _ ell_pos)]; rfl
theorem nW_wl {v : Nat} (h : v < ell) : nW (wN v) = v := nW_wN (lt_W4 h)
def I129 : (R : Type) → List DV → (List DV → Option R) → Option R := fun _ ds k => match ds with
 | [.v (.one (.ints .u64 4 x)), .v (.one (.ints .u64 4 y))] => bif okN x && okN y then k [.v (.one (.ints .u64 4 (wN (mulN (nW x) (nW y)))))] else none
 | _ => none
theorem c129 : Contract Tryz.prog 129 { sig := S129, impl := I129 } := by
 refine Contract.refine fun R ds k r h => ⟨_, f129_contract 0 G60_ok, ?_⟩
 unfold I129 at h
 split at h
 ·
  rename_i x y
  cases hc : okN x && okN y with
  | false => rw [hc] at h; cases h
  | true =>
   rw [hc] at h
   obtain ⟨h1, h2⟩ := Bool.and_eq_true _ _ ▸ hc
   rw [f129_raw_eq]
   unfold f129_raw
   rw [okN_W h1, h2, Bool.true_and, cond_true, okW_wN, okN_rad, Bool.true_and, cond_true, nW_wl (montN_lt _ _), mont_mont, ← mulN_def]
   exact h
 ·
  cases h
theorem valB_get (b : Nat) (hb : 0 < b) : ∀ (l : List Nat), (∀ x ∈ l, x < b) → ∀ q : Nat, valB b l / b ^ q % b = l.getD q 0
 | [], _, q => by simp [valB]
 | x :: l, h, 0 => by
  simp only [valB, Nat.pow_zero, Nat.div_one, List.getD_cons_zero]
  rw [Nat.add_mul_mod_self_left, Nat.mod_eq_of_lt (h x (by simp))]
 | x :: l, h, q + 1 => by
  simp only [valB, List.getD_cons_succ]
  rw [Nat.pow_succ, Nat.mul_comm (b ^ q) b, ← Nat.div_div_eq_div_mul, Nat.add_mul_div_left _ _ hb, Nat.div_eq_of_lt (h x (by simp)), Nat.zero_add]
  exact valB_get b hb l (fun y hy => h y (by simp [hy])) q
theorem half_bit (X r : Nat) (hr : r < 64) : X % 18446744073709551616 / 2 ^ r % 2 = X / 2 ^ r % 2 := by
 have := Nat.testBit_mod_two_pow X 64 r
 rw [decide_eq_true hr, Bool.true_and, Nat.testBit_eq_decide_div_mod_eq, Nat.testBit_eq_decide_div_mod_eq, decide_eq_decide] at this
 have e : (2 : Nat) ^ 64 = 18446744073709551616 := by decide
 rw [e] at this
 have a1 := Nat.mod_two_eq_zero_or_one (X % 18446744073709551616 / 2 ^ r)
 have a2 := Nat.mod_two_eq_zero_or_one (X / 2 ^ r)
 omega
theorem bit_at {e : List Nat} (he : ∀ x ∈ e, x < WW) (i : Nat) : andI .u64 (shrI .u64 ((nats e).getD (i / 64) 0) ((i % 64 : Nat) : Int)) 1 = ((valB WW e / 2 ^ i % 2 : Nat) : Int) := by
 rw [nats_getD, shrN (k := .u64) (m := i % 64) (by have := Nat.mod_lt i (show 0 < 64 by decide); exact Nat.le_of_lt this)]
 have hw : e.getD (i / 64) 0 < 18446744073709551616 := by
  rw [← valB_get WW (by decide) e he]; exact Nat.mod_lt _ (by decide)
 have hd : e.getD (i / 64) 0 / 2 ^ (i % 64) < 2 ^ 64 := Nat.lt_of_le_of_lt (Nat.div_le_self _ _) hw
 refine (maskN (k := .u64) (j := 1) rfl hd (by decide)).trans ?_
 refine congrArg Int.ofNat ?_
 rw [Nat.pow_one, ← valB_get WW (by decide) e he, show WW = 18446744073709551616 from rfl, half_bit _ _ (Nat.mod_lt _ (by decide)), Nat.div_div_eq_div_mul]
 congr 2
 rw [show (18446744073709551616 : Nat) = 2 ^ 64 by decide, ← Nat.pow_mul, ← Nat.pow_add]
 congr 1
 omega
theorem pow_step (a v E j : Nat) : (v * v * (if E / 2 ^ j % 2 = 1 then a else 1)) ^ 2 ^ j * a ^ (E % 2 ^ j) = v ^ 2 ^ (j + 1) * a ^ (E % 2 ^ (j + 1)) := by
 have e := Nat.mod_mul (x := E) (a := 2 ^ j) (b := 2)
 rw [show (2 : Nat) ^ (j + 1) = 2 ^ j * 2 from Nat.pow_succ 2 j, e, show v ^ (2 ^ j * 2) = (v * v) ^ 2 ^ j by rw [Nat.mul_comm (2 ^ j) 2, Nat.pow_mul, Nat.pow_two]]
 rcases Nat.mod_two_eq_zero_or_one (E / 2 ^ j) with h | h
 ·
  rw [h, if_neg (by decide), Nat.mul_one, Nat.mul_zero, Nat.add_zero]
 ·
  rw [h, if_pos rfl, Nat.mul_one, Nat.mul_pow, Nat.pow_add, Nat.mul_assoc, Nat.mul_comm (a ^ 2 ^ j)]
theorem wrapI {a : Int} (h1 : -9223372036854775808 ≤ a) (h2 : a < 9223372036854775808) : IntKind.i64.wrap a = a := by
 simp [IntKind.wrap, IntKind.bits, IntKind.signed]; omega
theorem f133_loop {R : Type} (N : Nat) (k1 : Bool → Int → List Int → List Int → List Int → List Int → Option R) {e : List Nat} (hl : e.length = 4) (he : ∀ x ∈ e, x < WW) (a : Nat) (z : List Int) :
  ∀ (j : Nat), j ≤ 256 → ∀ (fuel v : Nat), j < fuel → f133_0_lp N k1 fuel ((j : Int) - 1) (nats e) z (wN (mf a)) (wN (mf v)) = k1 false (-1) (nats e) z (wN (mf a)) (wN (mf (v ^ 2 ^ j * a ^ (valB WW e % 2 ^ j)))) := by
 intro j
 induction j with
 | zero =>
  intro _ fuel v hf
  obtain ⟨fuel, rfl⟩ : ∃ n, fuel = n + 1 := ⟨fuel - 1, by omega⟩
  show f133_0_st N (f133_0_lp N k1 fuel) k1 (-1) (nats e) z (wN (mf a)) (wN (mf v)) = _
  unfold f133_0_st
  rw [decide_eq_false (show ¬ ((-1 : Int) ≥ 0) by decide), cond_false, Nat.pow_zero, Nat.pow_one, Nat.mod_one, Nat.pow_zero, Nat.mul_one]
 | succ j ih =>
  intro hj fuel v hf
  obtain ⟨fuel, rfl⟩ : ∃ n, fuel = n + 1 := ⟨fuel - 1, by omega⟩
  have ei : ((j + 1 : Nat) : Int) - 1 = (j : Int) := by omega
  rw [ei]
  show f133_0_st N (f133_0_lp N k1 fuel) k1 (j : Int) (nats e) z (wN (mf a)) (wN (mf v)) = _
  unfold f133_0_st
  have hq : j / 64 < 4 := by omega
  have hd : IntKind.i64.wrap ((j : Int).tdiv 64) = ((j / 64 : Nat) : Int) := by
   rw [show (j : Int).tdiv 64 = ((j / 64 : Nat) : Int) from rfl]
   exact wi64 (by omega)
  have hm : (j : Int).tmod 64 = ((j % 64 : Nat) : Int) := rfl
  have hmul : mulE ((j / 64 : Nat) : Int).toNat 1 = j / 64 := by
   rfl
  have hs : IntKind.i64.wrap ((j : Int) - 1) = (j : Int) - 1 := wrapI (by omega) (by omega)
  dsimp only
  rw [decide_eq_true (show ((j : Int) ≥ 0) by omega), cond_true, okW_wN, okN_wN (mf_lt v), Bool.and_self, cond_true, hd, hm,
   decide_eq_true (show (0 : Int) ≤ ((j / 64 : Nat) : Int) by omega), decide_eq_true (show ((j / 64 : Nat) : Int) < 4 by omega), Bool.and_self, cond_true,
   decide_eq_true (show (0 : Int) ≤ ((j % 64 : Nat) : Int) by omega), cond_true, hmul, bit_at he j, hs, okW_wN, okN_wN (mf_lt a), Bool.and_self, cond_true,
   nW_wl (mf_lt v), mont_mf, nW_wl (mf_lt _), nW_wl (mf_lt a), mont_mf, ih (by omega) fuel _ (by omega), ih (by omega) fuel _ (by omega)]
  have hp := pow_step a v (valB WW e) j
  rcases Nat.mod_two_eq_zero_or_one (valB WW e / 2 ^ j) with h | h
  ·
   rw [h] at hp ⊢
   rw [if_neg (by decide), Nat.mul_one] at hp
   rw [show (((0 : Nat) : Int) == 1) = false from rfl, cond_false, hp]
  ·
   rw [h] at hp ⊢
   rw [if_pos rfl] at hp
   rw [show (((1 : Nat) : Int) == 1) = true from rfl, cond_true, hp]
def powN : Nat → Nat → Nat := (stk fun a e : Nat => a ^ e % ell).1
theorem powN_def (a e : Nat) : powN a e = a ^ e % ell := congrFun (congrFun (stk fun a e : Nat => a ^ e % ell).2 a) e
theorem powN_lt (a b : Nat) : powN a b < ell := by rw [powN_def]; exact Nat.mod_lt _ ell_pos
theorem wN_one : (List.replicate 4 (0 : Int)).set 0 1 = wN 1 := by rw [wN_def]; decide
theorem power_num {R : Type} {x y : List Int} (hx : okN x = true) (hy : okW y = true) (k : List DV → Option R) :
  f133_raw 300 x y k = k [.v (.one (.ints .u64 4 (wN (powN (nW x) (nW y)))))] := by
 have hb := nW_lt hy
 obtain ⟨e, rfl, h1, h2⟩ := okW_of hy
 rw [nW_nats] at hb ⊢
 unfold f133_raw
 dsimp only
 have hx' : nW x = nW x % ell := (Nat.mod_eq_of_lt (okN_lt hx)).symm
 have e1 : montN (nW x) (nW radW) = mf (nW x) := by rw [hx', mont_rad]; rw [← hx']
 have e2 : montN (nW (wN 1)) (nW radW) = mf 1 := by
  rw [nW_wl one_lt_ell]
  have := mont_rad 1
  rwa [Nat.mod_eq_of_lt one_lt_ell] at this
 rw [okN_W hx, okN_rad, Bool.and_self, cond_true, wN_one, e1, e2]
 obtain ⟨n, hn⟩ : ∃ n : Nat, n = 256 := ⟨256, rfl⟩
 rw [show (255 : Int) = (n : Int) - 1 by omega, f133_loop 300 _ h1 h2 (nW x) (List.replicate 4 0) n (by omega) 300 1 (by omega)]
 rw [okW_wN, okN_wN one_lt_ell, Bool.and_self, cond_true, nW_wl (mf_lt _), nW_wl one_lt_ell, mont_one, Nat.one_pow, Nat.one_mul,
  Nat.mod_eq_of_lt (show valB WW e < 2 ^ n by rw [hn, show (2 : Nat) ^ 256 = WW ^ 4 by decide +kernel]; exact hb), ← powN_def]
def I133 : (R : Type) → List DV → (List DV → Option R) → Option R := fun _ ds k => match ds with
 | [.v (.one (.ints .u64 4 x)), .v (.one (.ints .u64 4 y))] => bif okN x && okW y then k [.v (.one (.ints .u64 4 (wN (powN (nW x) (nW y)))))] else none
 | _ => none
theorem c133 : Contract Tryz.prog 133 { sig := S133, impl := I133 } := by
 refine Contract.refine fun R ds k r h => ⟨_, f133_contract 300 G60_ok, ?_⟩
 unfold I133 at h
 split at h
 ·
  rename_i x y
  cases hc : okN x && okW y with
  | false => rw [hc] at h; cases h
  | true =>
   rw [hc] at h
   obtain ⟨h1, h2⟩ := Bool.and_eq_true _ _ ▸ hc
   rw [f133_raw_eq, power_num h1 h2]; exact h
 ·
  cases h
def okU (x : Int) : Bool := decide (0 ≤ x) && decide (x < 18446744073709551616)
theorem okU_of {x : Int} (h : okU x = true) : ∃ n : Nat, x = (n : Int) ∧ n < 18446744073709551616 := by
 unfold okU at h
 rw [Bool.and_eq_true] at h
 have h1 := of_decide_eq_true h.1
 have h2 := of_decide_eq_true h.2
 exact ⟨x.toNat, by omega, by omega⟩
def I128 : (R : Type) → List DV → (List DV → Option R) → Option R := fun _ ds k => match ds with
 | [.v (.one (.int .u64 x))] => bif okU x then k [.v (.one (.ints .u8 32 (sN x.toNat)))] else none
 | _ => none
theorem c128 : Contract Tryz.prog 128 { sig := S128, impl := I128 } := by
 refine Contract.refine fun R ds k r h => ⟨_, f128_contract 0 (ctxOk_cons ok114 rfl c114 ctxOk_nil), ?_⟩
 unfold I128 at h
 split at h
 ·
  rename_i x
  cases hc : okU x with
  | false => rw [hc] at h; cases h
  | true =>
   rw [hc] at h
   obtain ⟨n, rfl, hn⟩ := okU_of hc
   have e : (List.replicate 4 (0 : Int)).set 0 (n : Int) = wN n := wN_of (l := [n, 0, 0, 0]) rfl rfl (by
    simp only [List.mem_cons, List.not_mem_nil, or_false, forall_eq_or_imp, forall_eq]
    unfold WW; omega) (by simp [valB])
   rw [f128_raw_eq]
   unfold f128_raw
   dsimp only
   rw [e, back_wN (show n < WW ^ 4 by rw [W4]; omega)]
   exact h
 ·
  cases h
def I53n : (R : Type) → List DV → (List DV → Option R) → Option R := fun _ ds k => match ds with
 | [.v (.one (.ints .u64 4 x))] => bif okW x then k [.v (.one (.ints .u8 32 (sN (nW x))))] else none
 | _ => none
theorem c53n : Contract Tryz.prog 114 { sig := S114, impl := I53n } := by
 refine Contract.refine fun R ds k r h => ⟨_, c114, ?_⟩
 unfold I53n at h
 unfold I114
 split at h
 ·
  rename_i x
  cases hc : okW x with
  | false => rw [hc] at h; cases h
  | true =>
   rw [hc] at h
   show k [.v (.one (.ints .u8 32 (backL x)))] = some r
   rw [show backL x = sN (nW x) by rw [← back_wN (nW_lt hc), wN_nW hc]]
   exact h
 ·
  cases h
def ordW2 : List Int := [6346243789798364139, 1503914060200516822, 0, 1152921504606846976]
theorem ord2 : lessL ordW [2, 0, 0, 0] = ordW2 := by
 rw [(less_num ordW_ok (by decide)).1, ordW_num, show nW [2, 0, 0, 0] = 2 by decide]
 refine (wN_of (l := [6346243789798364139, 1503914060200516822, 0, 1152921504606846976]) rfl rfl (by decide) ?_).symm
 rw [ell_def, W4]; decide +kernel
def I56n : (R : Type) → List DV → (List DV → Option R) → Option R := fun _ ds k => match ds with
 | [.v (.one (.ints .u64 4 x)), .v (.one (.ints .u64 4 y))] => bif decide (x = ordW) && decide (y = [2, 0, 0, 0]) then k [.v (.one (.ints .u64 4 ordW2)), .v (.one (.int .u64 0))] else none
 | _ => none
theorem c56n : Contract Tryz.prog 131 { sig := S131, impl := I56n } := by
 refine Contract.refine fun R ds k r h => ⟨_, c131, ?_⟩
 unfold I56n at h
 unfold I131
 split at h
 ·
  rename_i x y
  cases hc : decide (x = ordW) && decide (y = [2, 0, 0, 0]) with
  | false => rw [hc] at h; cases h
  | true =>
   rw [hc] at h
   obtain ⟨h1, h2⟩ := Bool.and_eq_true _ _ ▸ hc
   have h1 := of_decide_eq_true h1
   have h2 := of_decide_eq_true h2
   subst h1; subst h2
   show k [.v (.one (.ints .u64 4 (lessL ordW [2, 0, 0, 0]))), .v (.one (.int .u64 (under ordW [2, 0, 0, 0])))] = some r
   rw [ord2, (less_num ordW_ok (show okW [2, 0, 0, 0] = true by decide)).2, ordW_num, show nW [2, 0, 0, 0] = 2 by decide, if_neg (by rw [ell_def]; decide)]
   exact h
 ·
  cases h
def GS : Ctx := [(114, { sig := S114, impl := I53n }), (115, { sig := S115, impl := I115 }), (116, { sig := S116, impl := I116 }), (131, { sig := S131, impl := I56n }), (132, { sig := S132, impl := I132 }), (133, { sig := S133, impl := I133 }), (134, { sig := S134, impl := I134 }), (129, { sig := S129, impl := I129 })]
theorem GS_ok : CtxOk Tryz.prog GS := ctxOk_cons ok114 rfl c53n (ctxOk_cons ok115 rfl c115 (ctxOk_cons ok116 rfl c116 (ctxOk_cons ok131 rfl c56n (ctxOk_cons ok132 rfl c132 (ctxOk_cons ok133 rfl c133 (ctxOk_cons ok134 rfl c134 (ctxOk_cons ok129 rfl c129 ctxOk_nil)))))))
def f42_raw {R : Type} (N : Nat) (x y : List Int) (k : List DV → Option R) : Option R :=
 bif okB x then bif okB y then bif okN (wN (vS x)) && okN (wN (vS y)) then bif okW (wN (addN (nW (wN (vS x))) (nW (wN (vS y))))) then k [.v (.one (.ints .u8 32 (sN (nW (wN (addN (nW (wN (vS x))) (nW (wN (vS y)))))))))] else none else none else none else none
def E42 (N : Nat) : Env := { Θ := Th, Γ := GS, K := K42, ν := N42, fuel := 0, lp := [] }
theorem f42_contract (N : Nat) (hΓ : CtxOk Tryz.prog GS) : Contract Tryz.prog 42 { sig := S42, impl := fun _ ds k => call (E42 N) S42 11 B42 R42 ds k } :=
 call_contract (E := E42 N) thOk hΓ mixed ok42.look ok42.body ok42.n ok42.rv ok42.name rfl (by decide) (loopsOk_of (l := []) (by kernel_rfl) trivial)
theorem f42_raw_eq {R : Type} (N : Nat) (x y : List Int) (k : List DV → Option R) : call (E42 N) S42 11 B42 R42 [.v (.one (.ints .u8 32 x)), .v (.one (.ints .u8 32 y))] k = f42_raw N x y k := by kernel_rfl
def f79_raw {R : Type} (N : Nat) (x y : List Int) (k : List DV → Option R) : Option R :=
 bif okB x then bif okB y then bif okN (wN (vS y)) then bif okN (wN (vS x)) && okN (wN (negN (nW (wN (vS y))))) then bif okW (wN (addN (nW (wN (vS x))) (nW (wN (negN (nW (wN (vS y)))))))) then k [.v (.one (.ints .u8 32 (sN (nW (wN (addN (nW (wN (vS x))) (nW (wN (negN (nW (wN (vS y))))))))))))] else none else none else none else none else none
def E79 (N : Nat) : Env := { Θ := Th, Γ := GS, K := K79, ν := N79, fuel := 0, lp := [] }
theorem f79_contract (N : Nat) (hΓ : CtxOk Tryz.prog GS) : Contract Tryz.prog 79 { sig := S79, impl := fun _ ds k => call (E79 N) S79 12 B79 R79 ds k } :=
 call_contract (E := E79 N) thOk hΓ mixed ok79.look ok79.body ok79.n ok79.rv ok79.name rfl (by decide) (loopsOk_of (l := []) (by kernel_rfl) trivial)
theorem f79_raw_eq {R : Type} (N : Nat) (x y : List Int) (k : List DV → Option R) : call (E79 N) S79 12 B79 R79 [.v (.one (.ints .u8 32 x)), .v (.one (.ints .u8 32 y))] k = f79_raw N x y k := by kernel_rfl
def f80_raw {R : Type} (N : Nat) (x y : List Int) (k : List DV → Option R) : Option R :=
 bif okB x then bif okB y then bif okN (wN (vS x)) && okN (wN (vS y)) then bif okW (wN (mulN (nW (wN (vS x))) (nW (wN (vS y))))) then k [.v (.one (.ints .u8 32 (sN (nW (wN (mulN (nW (wN (vS x))) (nW (wN (vS y)))))))))] else none else none else none else none
def E80 (N : Nat) : Env := { Θ := Th, Γ := GS, K := K80, ν := N80, fuel := 0, lp := [] }
theorem f80_contract (N : Nat) (hΓ : CtxOk Tryz.prog GS) : Contract Tryz.prog 80 { sig := S80, impl := fun _ ds k => call (E80 N) S80 11 B80 R80 ds k } :=
 call_contract (E := E80 N) thOk hΓ mixed ok80.look ok80.body ok80.n ok80.rv ok80.name rfl (by decide) (loopsOk_of (l := []) (by kernel_rfl) trivial)
theorem f80_raw_eq {R : Type} (N : Nat) (x y : List Int) (k : List DV → Option R) : call (E80 N) S80 11 B80 R80 [.v (.one (.ints .u8 32 x)), .v (.one (.ints .u8 32 y))] k = f80_raw N x y k := by kernel_rfl
def f74_raw {R : Type} (N : Nat) (x y z : List Int) (k : List DV → Option R) : Option R :=
 bif okB x then bif okB y then bif okN (wN (vS x)) && okN (wN (vS y)) then bif okB z then bif okN (wN (mulN (nW (wN (vS x))) (nW (wN (vS y))))) && okN (wN (vS z)) then bif okW (wN (addN (nW (wN (mulN (nW (wN (vS x))) (nW (wN (vS y)))))) (nW (wN (vS z))))) then k [.v (.one (.ints .u8 32 (sN (nW (wN (addN (nW (wN (mulN (nW (wN (vS x))) (nW (wN (vS y)))))) (nW (wN (vS z)))))))))] else none else none else none else none else none else none
def E74 (N : Nat) : Env := { Θ := Th, Γ := GS, K := K74, ν := N74, fuel := 0, lp := [] }
theorem f74_contract (N : Nat) (hΓ : CtxOk Tryz.prog GS) : Contract Tryz.prog 74 { sig := S74, impl := fun _ ds k => call (E74 N) S74 16 B74 R74 ds k } :=
 call_contract (E := E74 N) thOk hΓ mixed ok74.look ok74.body ok74.n ok74.rv ok74.name rfl (by decide) (loopsOk_of (l := []) (by kernel_rfl) trivial)
theorem f74_raw_eq {R : Type} (N : Nat) (x y z : List Int) (k : List DV → Option R) : call (E74 N) S74 16 B74 R74 [.v (.one (.ints .u8 32 x)), .v (.one (.ints .u8 32 y)), .v (.one (.ints .u8 32 z))] k = f74_raw N x y z k := by kernel_rfl
def f111_raw {R : Type} (N : Nat) (x : List Int) (k : List DV → Option R) : Option R :=
 bif okB x then bif okN (wN (vS x)) then bif okW (wN (negN (nW (wN (vS x))))) then k [.v (.one (.ints .u8 32 (sN (nW (wN (negN (nW (wN (vS x)))))))))] else none else none else none
def E111 (N : Nat) : Env := { Θ := Th, Γ := GS, K := K111, ν := N111, fuel := 0, lp := [] }
theorem f111_contract (N : Nat) (hΓ : CtxOk Tryz.prog GS) : Contract Tryz.prog 111 { sig := S111, impl := fun _ ds k => call (E111 N) S111 7 B111 R111 ds k } :=
 call_contract (E := E111 N) thOk hΓ mixed ok111.look ok111.body ok111.n ok111.rv ok111.name rfl (by decide) (loopsOk_of (l := []) (by kernel_rfl) trivial)
theorem f111_raw_eq {R : Type} (N : Nat) (x : List Int) (k : List DV → Option R) : call (E111 N) S111 7 B111 R111 [.v (.one (.ints .u8 32 x))] k = f111_raw N x k := by kernel_rfl
def f154_raw {R : Type} (N : Nat) (x : List Int) (k : List DV → Option R) : Option R :=
 bif okB x then k [.v (.one (.bool (decide (wN (vS x) = List.replicate 4 0))))] else none
def E154 (N : Nat) : Env := { Θ := Th, Γ := GS, K := K154, ν := N154, fuel := 0, lp := [] }
theorem f154_contract (N : Nat) (hΓ : CtxOk Tryz.prog GS) : Contract Tryz.prog 154 { sig := S154, impl := fun _ ds k => call (E154 N) S154 7 B154 R154 ds k } :=
 call_contract (E := E154 N) thOk hΓ mixed ok154.look ok154.body ok154.n ok154.rv ok154.name rfl (by decide) (loopsOk_of (l := []) (by kernel_rfl) trivial)
theorem f154_raw_eq {R : Type} (N : Nat) (x : List Int) (k : List DV → Option R) : call (E154 N) S154 7 B154 R154 [.v (.one (.ints .u8 32 x))] k = f154_raw N x k := by kernel_rfl
def f78_raw {R : Type} (N : Nat) (x : List Int) (k : List DV → Option R) : Option R :=
 bif okB x then bif decide (wN (vS x) = List.replicate 4 0) then k [.v (.one (.ints .u8 32 (List.replicate 32 0))), .v (.one (.int .i64 9))] else bif okN (wN (vS x)) && okW ordW2 then bif okW (wN (powN (nW (wN (vS x))) (nW ordW2))) then k [.v (.one (.ints .u8 32 (sN (nW (wN (powN (nW (wN (vS x))) (nW ordW2))))))), .v (.one (.int .i64 0))] else none else none else none
def E78 (N : Nat) : Env := { Θ := Th, Γ := GS, K := K78, ν := N78, fuel := 0, lp := [] }
theorem f78_contract (N : Nat) (hΓ : CtxOk Tryz.prog GS) : Contract Tryz.prog 78 { sig := S78, impl := fun _ ds k => call (E78 N) S78 23 B78 R78 ds k } :=
 call_contract (E := E78 N) thOk hΓ mixed ok78.look ok78.body ok78.n ok78.rv ok78.name rfl (by decide) (loopsOk_of (l := []) (by kernel_rfl) trivial)
theorem f78_raw_eq {R : Type} (N : Nat) (x : List Int) (k : List DV → Option R) : call (E78 N) S78 23 B78 R78 [.v (.one (.ints .u8 32 x))] k = f78_raw N x k := by kernel_rfl
def difN (a b : Nat) : Nat := addN a (negN b)
theorem difN_lt (a b : Nat) : difN a b < ell := addN_lt _ _
def invN : Nat → Nat := (stk fun a : Nat => powN a (ell - 2)).1
theorem invN_def (a : Nat) : invN a = powN a (ell - 2) := congrFun (stk fun a : Nat => powN a (ell - 2)).2 a
theorem invN_lt (a : Nat) : invN a < ell := by rw [invN_def]; exact powN_lt _ _
theorem ordW2_ok : okW ordW2 = true := by decide
theorem ordW2_num : nW ordW2 = ell - 2 := by rw [ell_def]; decide +kernel
theorem w_zero (x : List Int) : decide (wN (vS x) = List.replicate 4 0) = decide (vS x = 0) := by
 rw [wN_zero]; exact decide_eq_decide.mpr (nW_inj (lt_W4 (vS_lt x)) (by decide))
theorem vS_sN {v : Nat} (h : v < ell) : vS (sN v) = v := by rw [vS_def, numB_sN (lt_W4 h), Nat.mod_eq_of_lt h]
def I42 : (R : Type) → List DV → (List DV → Option R) → Option R := fun _ ds k => match ds with
 | [.v (.one (.ints .u8 32 x)), .v (.one (.ints .u8 32 y))] => bif okB x && okB y then k [.v (.one (.ints .u8 32 (sN (addN (vS x) (vS y)))))] else none
 | _ => none
theorem c42 : Contract Tryz.prog 42 { sig := S42, impl := I42 } := by
 refine Contract.refine fun R ds k r h => ⟨_, f42_contract 0 GS_ok, ?_⟩
 unfold I42 at h
 split at h
 ·
  rename_i x y
  cases hc : okB x && okB y with
  | false => rw [hc] at h; cases h
  | true =>
   rw [hc] at h
   obtain ⟨h1, h2⟩ := Bool.and_eq_true _ _ ▸ hc
   rw [f42_raw_eq]
   unfold f42_raw
   simp only [h1, h2, cond_true, Bool.and_self, okN_wN (vS_lt _), okN_wN (negN_lt _), okN_wN (addN_lt _ _), okN_wN (mulN_lt _ _), okW_wN, nW_wl (vS_lt _), nW_wl (negN_lt _), nW_wl (addN_lt _ _), nW_wl (mulN_lt _ _), nW_wl (powN_lt _ _), nW_wl (invN_lt _), w_zero, ordW2_ok, ordW2_num, ← invN_def]
   exact h
 ·
  cases h
def I79 : (R : Type) → List DV → (List DV → Option R) → Option R := fun _ ds k => match ds with
 | [.v (.one (.ints .u8 32 x)), .v (.one (.ints .u8 32 y))] => bif okB x && okB y then k [.v (.one (.ints .u8 32 (sN (difN (vS x) (vS y)))))] else none
 | _ => none
theorem c79 : Contract Tryz.prog 79 { sig := S79, impl := I79 } := by
 refine Contract.refine fun R ds k r h => ⟨_, f79_contract 0 GS_ok, ?_⟩
 unfold I79 at h
 split at h
 ·
  rename_i x y
  cases hc : okB x && okB y with
  | false => rw [hc] at h; cases h
  | true =>
   rw [hc] at h
   obtain ⟨h1, h2⟩ := Bool.and_eq_true _ _ ▸ hc
   rw [f79_raw_eq]
   unfold f79_raw
   simp only [h1, h2, cond_true, Bool.and_self, okN_wN (vS_lt _), okN_wN (negN_lt _), okN_wN (addN_lt _ _), okN_wN (mulN_lt _ _), okW_wN, nW_wl (vS_lt _), nW_wl (negN_lt _), nW_wl (addN_lt _ _), nW_wl (mulN_lt _ _), nW_wl (powN_lt _ _), nW_wl (invN_lt _), w_zero, ordW2_ok, ordW2_num, ← invN_def]
   exact h
 ·
  cases h
def I80 : (R : Type) → List DV → (List DV → Option R) → Option R := fun _ ds k => match ds with
 | [.v (.one (.ints .u8 32 x)), .v (.one (.ints .u8 32 y))] => bif okB x && okB y then k [.v (.one (.ints .u8 32 (sN (mulN (vS x) (vS y)))))] else none
 | _ => none
theorem c80 : Contract Tryz.prog 80 { sig := S80, impl := I80 } := by
 refine Contract.refine fun R ds k r h => ⟨_, f80_contract 0 GS_ok, ?_⟩
 unfold I80 at h
 split at h
 ·
  rename_i x y
  cases hc : okB x && okB y with
  | false => rw [hc] at h; cases h
  | true =>
   rw [hc] at h
   obtain ⟨h1, h2⟩ := Bool.and_eq_true _ _ ▸ hc
   rw [f80_raw_eq]
   unfold f80_raw
   simp only [h1, h2, cond_true, Bool.and_self, okN_wN (vS_lt _), okN_wN (negN_lt _), okN_wN (addN_lt _ _), okN_wN (mulN_lt _ _), okW_wN, nW_wl (vS_lt _), nW_wl (negN_lt _), nW_wl (addN_lt _ _), nW_wl (mulN_lt _ _), nW_wl (powN_lt _ _), nW_wl (invN_lt _), w_zero, ordW2_ok, ordW2_num, ← invN_def]
   exact h
 ·
  cases h
def I74 : (R : Type) → List DV → (List DV → Option R) → Option R := fun _ ds k => match ds with
 | [.v (.one (.ints .u8 32 x)), .v (.one (.ints .u8 32 y)), .v (.one (.ints .u8 32 z))] => bif okB x && okB y && okB z then k [.v (.one (.ints .u8 32 (sN (addN (mulN (vS x) (vS y)) (vS z)))))] else none
 | _ => none
theorem c74 : Contract Tryz.prog 74 { sig := S74, impl := I74 } := by
 refine Contract.refine fun R ds k r h => ⟨_, f74_contract 0 GS_ok, ?_⟩
 unfold I74 at h
 split at h
 ·
  rename_i x y z
  cases hc : okB x && okB y && okB z with
  | false => rw [hc] at h; cases h
  | true =>
   rw [hc] at h
   obtain ⟨h12, h3⟩ := Bool.and_eq_true _ _ ▸ hc
   obtain ⟨h1, h2⟩ := Bool.and_eq_true _ _ ▸ h12
   rw [f74_raw_eq]
   unfold f74_raw
   simp only [h1, h2, h3, cond_true, Bool.and_self, okN_wN (vS_lt _), okN_wN (negN_lt _), okN_wN (addN_lt _ _), okN_wN (mulN_lt _ _), okW_wN, nW_wl (vS_lt _), nW_wl (negN_lt _), nW_wl (addN_lt _ _), nW_wl (mulN_lt _ _), nW_wl (powN_lt _ _), nW_wl (invN_lt _), w_zero, ordW2_ok, ordW2_num, ← invN_def]
   exact h
 ·
  cases h
def I111 : (R : Type) → List DV → (List DV → Option R) → Option R := fun _ ds k => match ds with
 | [.v (.one (.ints .u8 32 x))] => bif okB x then k [.v (.one (.ints .u8 32 (sN (negN (vS x)))))] else none
 | _ => none
theorem c111 : Contract Tryz.prog 111 { sig := S111, impl := I111 } := by
 refine Contract.refine fun R ds k r h => ⟨_, f111_contract 0 GS_ok, ?_⟩
 unfold I111 at h
 split at h
 ·
  rename_i x
  cases hc : okB x with
  | false => rw [hc] at h; cases h
  | true =>
   rw [hc] at h
   have h1 := hc
   rw [f111_raw_eq]
   unfold f111_raw
   simp only [h1, cond_true, Bool.and_self, okN_wN (vS_lt _), okN_wN (negN_lt _), okN_wN (addN_lt _ _), okN_wN (mulN_lt _ _), okW_wN, nW_wl (vS_lt _), nW_wl (negN_lt _), nW_wl (addN_lt _ _), nW_wl (mulN_lt _ _), nW_wl (powN_lt _ _), nW_wl (invN_lt _), w_zero, ordW2_ok, ordW2_num, ← invN_def]
   exact h
 ·
  cases h
def I154 : (R : Type) → List DV → (List DV → Option R) → Option R := fun _ ds k => match ds with
 | [.v (.one (.ints .u8 32 x))] => bif okB x then k [.v (.one (.bool (decide (vS x = 0))))] else none
 | _ => none
theorem c154 : Contract Tryz.prog 154 { sig := S154, impl := I154 } := by
 refine Contract.refine fun R ds k r h => ⟨_, f154_contract 0 GS_ok, ?_⟩
 unfold I154 at h
 split at h
 ·
  rename_i x
  cases hc : okB x with
  | false => rw [hc] at h; cases h
  | true =>
   rw [hc] at h
   have h1 := hc
   rw [f154_raw_eq]
   unfold f154_raw
   simp only [h1, cond_true, Bool.and_self, okN_wN (vS_lt _), okN_wN (negN_lt _), okN_wN (addN_lt _ _), okN_wN (mulN_lt _ _), okW_wN, nW_wl (vS_lt _), nW_wl (negN_lt _), nW_wl (addN_lt _ _), nW_wl (mulN_lt _ _), nW_wl (powN_lt _ _), nW_wl (invN_lt _), w_zero, ordW2_ok, ordW2_num, ← invN_def]
   exact h
 ·
  cases h
def I78 : (R : Type) → List DV → (List DV → Option R) → Option R := fun _ ds k => match ds with
 | [.v (.one (.ints .u8 32 x))] => bif okB x then (bif decide (vS x = 0) then k [.v (.one (.ints .u8 32 (List.replicate 32 0))), .v (.one (.int .i64 9))] else k [.v (.one (.ints .u8 32 (sN (invN (vS x))))), .v (.one (.int .i64 0))]) else none
 | _ => none
theorem c78 : Contract Tryz.prog 78 { sig := S78, impl := I78 } := by
 refine Contract.refine fun R ds k r h => ⟨_, f78_contract 0 GS_ok, ?_⟩
 unfold I78 at h
 split at h
 ·
  rename_i x
  cases hc : okB x with
  | false => rw [hc] at h; cases h
  | true =>
   rw [hc] at h
   have h1 := hc
   rw [f78_raw_eq]
   unfold f78_raw
   simp only [h1, cond_true, Bool.and_self, okN_wN (vS_lt _), okN_wN (negN_lt _), okN_wN (addN_lt _ _), okN_wN (mulN_lt _ _), okW_wN, nW_wl (vS_lt _), nW_wl (negN_lt _), nW_wl (addN_lt _ _), nW_wl (mulN_lt _ _), nW_wl (powN_lt _ _), nW_wl (invN_lt _), w_zero, ordW2_ok, ordW2_num, ← invN_def]
   exact h
 ·
  cases h
def GX : Ctx := [(42, { sig := S42, impl := I42 }), (78, { sig := S78, impl := I78 }), (79, { sig := S79, impl := I79 }), (80, { sig := S80, impl := I80 }), (74, { sig := S74, impl := I74 }), (128, { sig := S128, impl := I128 }), (111, { sig := S111, impl := I111 }), (154, { sig := S154, impl := I154 })] ++ GS
theorem GX_ok : CtxOk Tryz.prog GX := ctxOk_cons ok42 rfl c42 (ctxOk_cons ok78 rfl c78 (ctxOk_cons ok79 rfl c79 (ctxOk_cons ok80 rfl c80 (ctxOk_cons ok74 rfl c74 (ctxOk_cons ok128 rfl c128 (ctxOk_cons ok111 rfl c111 (ctxOk_cons ok154 rfl c154 GS_ok)))))))
def f153_0_sh : Shp := ⟨35, 2, [(0, .one (.fix (.own 0))), (1, .one (.fix (.own 1))), (4, .one (.fix (.ptr 4 0 .z 32))), (6, .one (.fix (.ptr 6 0 .z 4))), (15, .one (.int .i64)), (16, .one (.int .i64))], [(0, .view (.one .u8) 32), (1, .view (.one .u8) 32), (4, .obj [.ints .u8 32]), (6, .obj [.ints .u64 4])]⟩
def f153_0_ex1 : Shp := ⟨35, 2, [(17, .one .bool), (0, .one (.fix (.own 0))), (1, .one (.fix (.own 1))), (4, .one (.fix (.ptr 4 0 .z 32))), (6, .one (.fix (.ptr 6 0 .z 4))), (15, .one (.int .i64)), (16, .one (.int .i64))], [(0, .view (.one .u8) 32), (1, .view (.one .u8) 32), (4, .obj [.ints .u8 32]), (6, .obj [.ints .u64 4])]⟩
def f153_0_st {R : Type} (N : Nat) (self : Int → Int → List Int → List Int → List Int → List Int → Option R) (k1 : Bool → Int → Int → List Int → List Int → List Int → List Int → Option R) (x1 x2 : Int) (x3 x4 : List Int) (x5 x6 : List Int) : Option R :=
 bif decide (x2 < x1) then
 bif decide (0 ≤ x2) && decide (x2 < nI (rowLen 32 x3)) then
 bif okB (List.take 32 (List.drop (mulE x2.toNat 32) x3)) then
 bif decide (0 ≤ x2) && decide (x2 < nI (rowLen 32 x4)) then
 bif okB (List.take 32 (List.drop (mulE x2.toNat 32) x4)) then
 bif okN (wN (vS (List.take 32 (List.drop (mulE x2.toNat 32) x3)))) && okN (wN (vS (List.take 32 (List.drop (mulE x2.toNat 32) x4)))) then
 bif okN x6 && okN (wN (mulN (nW (wN (vS (List.take 32 (List.drop (mulE x2.toNat 32) x3))))) (nW (wN (vS (List.take 32 (List.drop (mulE x2.toNat 32) x4))))))) then
 let v0 := IntKind.i64.wrap (x2 + 1);
 self x1 v0 x3 x4 x5 (wN (addN (nW x6) (nW (wN (mulN (nW (wN (vS (List.take 32 (List.drop (mulE x2.toNat 32) x3))))) (nW (wN (vS (List.take 32 (List.drop (mulE x2.toNat 32) x4))))))))))
 else none
 else none
 else none
 else none
 else none
 else none
else k1 (decide (x2 < x1)) x1 x2 x3 x4 x5 x6
def f153_0_lp {R : Type} (N : Nat) (k1 : Bool → Int → Int → List Int → List Int → List Int → List Int → Option R) : Nat → Int → Int → List Int → List Int → List Int → List Int → Option R
 | 0, _, _, _, _, _, _ => none
 | n + 1, x1, x2, x3, x4, x5, x6 => f153_0_st N (f153_0_lp N k1 n) k1 x1 x2 x3 x4 x5 x6
def f153_0_F (N : Nat) : (R : Type) → List Leaf → (X → AS → Option R) → Option R := fun _ ls K => match ls with
 | [.i x1, .i x2, .l x3, .l x4, .l x5, .l x6] => f153_0_lp N (fun y1 y2 y3 y4 y5 y6 y7 => K .normal (fill f153_0_ex1 [.b y1, .i y2, .i y3, .l y4, .l y5, .l y6, .l y7])) N x1 x2 x3 x4 x5 x6
 | _ => none
def f153_raw {R : Type} (N : Nat) (xs ys : List Int) (k : List DV → Option R) : Option R :=
 bif nI (rowLen 32 xs) != nI (rowLen 32 ys) then k [.v (.one (.ints .u8 32 (List.replicate 32 0))), .v (.one (.int .i64 8))] else f153_0_lp N (fun w0_1 w0_2 w0_3 w0_4 w0_5 w0_6 w0_7 => bif okW w0_7 then k [.v (.one (.ints .u8 32 (sN (nW w0_7)))), .v (.one (.int .i64 0))] else none) N (nI (rowLen 32 xs)) 0 xs ys (List.replicate 32 0) (List.replicate 4 0)
def E153 (N : Nat) : Env := { Θ := Th, Γ := GX, K := K153, ν := N153, fuel := 0, lp := [(0, mkL N153_0 f153_0_sh (f153_0_F N))] }
theorem f153_0_st_eq {R : Type} (N : Nat) (K : X → AS → Option R) (n : Nat) (x1 x2 : Int) (x3 x4 : List Int) (x5 x6 : List Int) : roundsOf (E153 N) N153_0 0 B153_0 K (n + 1) (fill f153_0_sh [.i x1, .i x2, .l x3, .l x4, .l x5, .l x6]) = f153_0_st N (fun x1 x2 x3 x4 x5 x6 => roundsOf (E153 N) N153_0 0 B153_0 K n (fill f153_0_sh [.i x1, .i x2, .l x3, .l x4, .l x5, .l x6])) (fun y1 y2 y3 y4 y5 y6 y7 => K .normal (fill f153_0_ex1 [.b y1, .i y2, .i y3, .l y4, .l y5, .l y6, .l y7])) x1 x2 x3 x4 x5 x6 := by kernel_rfl
theorem f153_0_lp_eq {R : Type} (N : Nat) (K : X → AS → Option R) : ∀ (n : Nat) (x1 x2 : Int) (x3 x4 : List Int) (x5 x6 : List Int), roundsOf (E153 N) N153_0 0 B153_0 K n (fill f153_0_sh [.i x1, .i x2, .l x3, .l x4, .l x5, .l x6]) = f153_0_lp N (fun y1 y2 y3 y4 y5 y6 y7 => K .normal (fill f153_0_ex1 [.b y1, .i y2, .i y3, .l y4, .l y5, .l y6, .l y7])) n x1 x2 x3 x4 x5 x6
 | 0, _, _, _, _, _, _ => rfl
 | n + 1, x1, x2, x3, x4, x5, x6 => by
  rw [f153_0_st_eq, f153_0_lp, show (fun x1 x2 x3 x4 x5 x6 => roundsOf (E153 N) N153_0 0 B153_0 K n (fill f153_0_sh [.i x1, .i x2, .l x3, .l x4, .l x5, .l x6])) = f153_0_lp N (fun y1 y2 y3 y4 y5 y6 y7 => K .normal (fill f153_0_ex1 [.b y1, .i y2, .i y3, .l y4, .l y5, .l y6, .l y7])) n from by funext x1 x2 x3 x4 x5 x6; exact f153_0_lp_eq N K n x1 x2 x3 x4 x5 x6]
theorem f153_0_ok (N : Nat) (hlp : LoopsOk Tryz.prog (E153 N).lp B153_0) (hΓ : CtxOk Tryz.prog (E153 N).Γ) : LoopOk Tryz.prog (mkL N153_0 f153_0_sh (f153_0_F N)) 0 B153_0 := by
 refine loopOk_of (E := E153 N) thOk hΓ mixed hlp ?_
 intro R ls K r h
 unfold f153_0_F at h
 split at h
 ·
  exact ⟨N, by rw [f153_0_lp_eq]; exact h⟩
 ·
  cases h
theorem lok153_0 (N : Nat) (hΓ : CtxOk Tryz.prog GX) : LoopOk Tryz.prog (mkL N153_0 f153_0_sh (f153_0_F N)) 0 B153_0 := f153_0_ok N (loopsOk_of (l := []) (by kernel_rfl) trivial) hΓ
theorem f153_contract (N : Nat) (hΓ : CtxOk Tryz.prog GX) : Contract Tryz.prog 153 { sig := S153, impl := fun _ ds k => call (E153 N) S153 35 B153 R153 ds k } :=
 call_contract (E := E153 N) thOk hΓ mixed ok153.look ok153.body ok153.n ok153.rv ok153.name rfl (by decide) (loopsOk_of (l := [(0, B153_0)]) (by kernel_rfl) (allOk_cons (L := mkL N153_0 f153_0_sh (f153_0_F N)) rfl (lok153_0 N hΓ) trivial))
theorem f153_raw_eq {R : Type} (N : Nat) (xs ys : List Int) (k : List DV → Option R) : call (E153 N) S153 35 B153 R153 [.lst (.one .u8) 32 xs, .lst (.one .u8) 32 ys] k = f153_raw N xs ys k := by kernel_rfl
def f130_0_sh : Shp := ⟨65, 1, [(0, .one (.fix (.own 0))), (5, .one (.fix (.own 13))), (6, .one (.fix (.ptr 6 0 .z 32))), (15, .one (.fix (.own 0))), (16, .one (.int .i64)), (17, .one (.int .i64))], [(0, .view (.one .u8) 32), (6, .obj [.ints .u8 32]), (13, .row (.one .u8) 32)]⟩
def f130_0_ex1 : Shp := ⟨65, 1, [(4, .one (.int .i64)), (3, .one (.int .i64)), (2, .one (.fix (.nils))), (23, .one .bool), (7, .one (.int .i64)), (8, .one (.fix (.ptr 8 0 .z 32))), (18, .one .bool), (0, .one (.fix (.own 0))), (5, .one (.fix (.own 13))), (6, .one (.fix (.ptr 6 0 .z 32))), (15, .one (.fix (.own 0))), (16, .one (.int .i64)), (17, .one (.int .i64))], [(8, .obj [.ints .u8 32]), (0, .view (.one .u8) 32), (6, .obj [.ints .u8 32]), (13, .row (.one .u8) 32)]⟩
def f130_0_ex2 : Shp := ⟨65, 1, [(18, .one .bool), (0, .one (.fix (.own 0))), (5, .one (.fix (.own 13))), (6, .one (.fix (.ptr 6 0 .z 32))), (15, .one (.fix (.own 0))), (16, .one (.int .i64)), (17, .one (.int .i64))], [(0, .view (.one .u8) 32), (6, .obj [.ints .u8 32]), (13, .row (.one .u8) 32)]⟩
def f130_0_st {R : Type} (N : Nat) (self : Int → Int → List Int → List Int → List Int → Option R) (k1 : Int → Int → Bool → Int → Bool → Int → Int → List Int → List Int → List Int → List Int → Option R) (k2 : Bool → Int → Int → List Int → List Int → List Int → Option R) (x1 x2 : Int) (x3 x4 x5 : List Int) : Option R :=
 bif decide (x2 < x1) then
 bif decide (0 ≤ x2) && decide (x2 < nI (rowLen 32 x3)) then
 bif okB (List.take 32 (List.drop (mulE x2.toNat 32) x3)) then
 bif decide (vS (List.take 32 (List.drop (mulE x2.toNat 32) x3)) = 0) then k1 x2 9 (decide (vS (List.take 32 (List.drop (mulE x2.toNat 32) x3)) = 0)) x2 (decide (x2 < x1)) x1 x2 (List.take 32 (List.drop (mulE x2.toNat 32) x3)) x3 x4 x5
 else
 bif decide (0 ≤ x2) && decide (x2 < nI (rowLen 32 x5)) then
 bif okB x4 && okB (List.take 32 (List.drop (mulE x2.toNat 32) x3)) then
 let v0 := IntKind.i64.wrap (x2 + 1);
 let v1 := splice x5 (.at (mulE x2.toNat 32)) x4;
 self x1 v0 x3 (sN (mulN (vS x4) (vS (List.take 32 (List.drop (mulE x2.toNat 32) x3))))) v1
 else none
 else none
 else none
 else none
else k2 (decide (x2 < x1)) x1 x2 x3 x4 x5
def f130_0_lp {R : Type} (N : Nat) (k1 : Int → Int → Bool → Int → Bool → Int → Int → List Int → List Int → List Int → List Int → Option R) (k2 : Bool → Int → Int → List Int → List Int → List Int → Option R) : Nat → Int → Int → List Int → List Int → List Int → Option R
 | 0, _, _, _, _, _ => none
 | n + 1, x1, x2, x3, x4, x5 => f130_0_st N (f130_0_lp N k1 k2 n) k1 k2 x1 x2 x3 x4 x5
def f130_0_F (N : Nat) : (R : Type) → List Leaf → (X → AS → Option R) → Option R := fun _ ls K => match ls with
 | [.i x1, .i x2, .l x3, .l x4, .l x5] => f130_0_lp N (fun y1 y2 y3 y4 y5 y6 y7 y8 y9 y10 y11 => K (.ret) (fill f130_0_ex1 [.i y1, .i y2, .b y3, .i y4, .b y5, .i y6, .i y7, .l y8, .l y9, .l y10, .l y11])) (fun y1 y2 y3 y4 y5 y6 => K .normal (fill f130_0_ex2 [.b y1, .i y2, .i y3, .l y4, .l y5, .l y6])) N x1 x2 x3 x4 x5
 | _ => none
def f130_2_sh : Shp := ⟨65, 1, [(0, .one (.fix (.own 0))), (5, .one (.fix (.own 13))), (6, .one (.fix (.ptr 6 0 .z 32))), (39, .one (.int .i64)), (40, .one (.int .i64))], [(0, .view (.one .u8) 32), (6, .obj [.ints .u8 32]), (13, .row (.one .u8) 32)]⟩
def f130_2_ex1 : Shp := ⟨65, 1, [(41, .one .bool), (0, .one (.fix (.own 0))), (5, .one (.fix (.own 13))), (6, .one (.fix (.ptr 6 0 .z 32))), (39, .one (.int .i64)), (40, .one (.int .i64))], [(0, .view (.one .u8) 32), (6, .obj [.ints .u8 32]), (13, .row (.one .u8) 32)]⟩
def f130_2_st {R : Type} (N : Nat) (self : Int → Int → List Int → List Int → List Int → Option R) (k1 : Bool → Int → Int → List Int → List Int → List Int → Option R) (x1 x2 : Int) (x3 x4 x5 : List Int) : Option R :=
 bif decide (x2 < x1) then
 let v0 := IntKind.i64.wrap (nI (rowLen 32 x3) - 1);
 let v1 := IntKind.i64.wrap (v0 - x2);
 bif decide (0 ≤ v1) && decide (v1 < nI (rowLen 32 x5)) then
 bif okB (List.take 32 (List.drop (mulE v1.toNat 32) x5)) && okB x4 then
 bif decide (0 ≤ v1) && decide (v1 < nI (rowLen 32 x5)) then
 bif decide (0 ≤ v1) && decide (v1 < nI (rowLen 32 x3)) then
 bif okB x4 && okB (List.take 32 (List.drop (mulE v1.toNat 32) x3)) then
 let v2 := IntKind.i64.wrap (x2 + 1);
 let v3 := splice x5 (.at (mulE v1.toNat 32)) (sN (mulN (vS (List.take 32 (List.drop (mulE v1.toNat 32) x5))) (vS x4)));
 self x1 v2 x3 (sN (mulN (vS x4) (vS (List.take 32 (List.drop (mulE v1.toNat 32) x3))))) v3
 else none
 else none
 else none
 else none
 else none
else k1 (decide (x2 < x1)) x1 x2 x3 x4 x5
def f130_2_lp {R : Type} (N : Nat) (k1 : Bool → Int → Int → List Int → List Int → List Int → Option R) : Nat → Int → Int → List Int → List Int → List Int → Option R
 | 0, _, _, _, _, _ => none
 | n + 1, x1, x2, x3, x4, x5 => f130_2_st N (f130_2_lp N k1 n) k1 x1 x2 x3 x4 x5
def f130_2_F (N : Nat) : (R : Type) → List Leaf → (X → AS → Option R) → Option R := fun _ ls K => match ls with
 | [.i x1, .i x2, .l x3, .l x4, .l x5] => f130_2_lp N (fun y1 y2 y3 y4 y5 y6 => K .normal (fill f130_2_ex1 [.b y1, .i y2, .i y3, .l y4, .l y5, .l y6])) N x1 x2 x3 x4 x5
 | _ => none
def f130_raw {R : Type} (N : Nat) (xs : List Int) (k : List DV → Option R) : Option R :=
 bif decide (0 ≤ nI (rowLen 32 xs)) && (decide (nI (rowLen 32 xs) ≤ nI (rowLen 32 xs)) && (decide (nI (rowLen 32 xs) ≤ 281474976710656) && decide (nI (rowLen 32 xs) * 32 ≤ 281474976710656))) then f130_0_lp N (fun w0_1 w0_2 w0_3 w0_4 w0_5 w0_6 w0_7 w0_8 w0_9 w0_10 w0_11 => k [.lst (.one .u8) 32 [], .v (.one (.int .i64 w0_2)), .v (.one (.int .i64 w0_1))]) (fun w1_1 w1_2 w1_3 w1_4 w1_5 w1_6 => bif okB w1_5 then bif decide (vS w1_5 = 0) then f130_2_lp N (fun w2_1 w2_2 w2_3 w2_4 w2_5 w2_6 => k [.lst (.one .u8) 32 w2_6, .v (.one (.int .i64 0)), .v (.one (.int .i64 0))]) N (nI (rowLen 32 w1_4)) 0 w1_4 (List.replicate 32 0) w1_6 else f130_2_lp N (fun w3_1 w3_2 w3_3 w3_4 w3_5 w3_6 => k [.lst (.one .u8) 32 w3_6, .v (.one (.int .i64 0)), .v (.one (.int .i64 0))]) N (nI (rowLen 32 w1_4)) 0 w1_4 (sN (invN (vS w1_5))) w1_6 else none) N (nI (rowLen 32 xs)) 0 xs (sN (Int.toNat 1)) (zerosOf (mulE (nI (rowLen 32 xs)).toNat 32)) else none
def E130 (N : Nat) : Env := { Θ := Th, Γ := GX, K := K130, ν := N130, fuel := 0, lp := [(0, mkL N130_0 f130_0_sh (f130_0_F N)), (2, mkL N130_2 f130_2_sh (f130_2_F N))] }
theorem f130_0_st_eq {R : Type} (N : Nat) (K : X → AS → Option R) (n : Nat) (x1 x2 : Int) (x3 x4 x5 : List Int) : roundsOf (E130 N) N130_0 0 B130_0 K (n + 1) (fill f130_0_sh [.i x1, .i x2, .l x3, .l x4, .l x5]) = f130_0_st N (fun x1 x2 x3 x4 x5 => roundsOf (E130 N) N130_0 0 B130_0 K n (fill f130_0_sh [.i x1, .i x2, .l x3, .l x4, .l x5])) (fun y1 y2 y3 y4 y5 y6 y7 y8 y9 y10 y11 => K (.ret) (fill f130_0_ex1 [.i y1, .i y2, .b y3, .i y4, .b y5, .i y6, .i y7, .l y8, .l y9, .l y10, .l y11])) (fun y1 y2 y3 y4 y5 y6 => K .normal (fill f130_0_ex2 [.b y1, .i y2, .i y3, .l y4, .l y5, .l y6])) x1 x2 x3 x4 x5 := by kernel_rfl
theorem f130_0_lp_eq {R : Type} (N : Nat) (K : X → AS → Option R) : ∀ (n : Nat) (x1 x2 : Int) (x3 x4 x5 : List Int), roundsOf (E130 N) N130_0 0 B130_0 K n (fill f130_0_sh [.i x1, .i x2, .l x3, .l x4, .l x5]) = f130_0_lp N (fun y1 y2 y3 y4 y5 y6 y7 y8 y9 y10 y11 => K (.ret) (fill f130_0_ex1 [.i y1, .i y2, .b y3, .i y4, .b y5, .i y6, .i y7, .l y8, .l y9, .l y10, .l y11])) (fun y1 y2 y3 y4 y5 y6 => K .normal (fill f130_0_ex2 [.b y1, .i y2, .i y3, .l y4, .l y5, .l y6])) n x1 x2 x3 x4 x5
 | 0, _, _, _, _, _ => rfl
 | n + 1, x1, x2, x3, x4, x5 => by
  rw [f130_0_st_eq, f130_0_lp, show (fun x1 x2 x3 x4 x5 => roundsOf (E130 N) N130_0 0 B130_0 K n (fill f130_0_sh [.i x1, .i x2, .l x3, .l x4, .l x5])) = f130_0_lp N (fun y1 y2 y3 y4 y5 y6 y7 y8 y9 y10 y11 => K (.ret) (fill f130_0_ex1 [.i y1, .i y2, .b y3, .i y4, .b y5, .i y6, .i y7, .l y8, .l y9, .l y10, .l y11])) (fun y1 y2 y3 y4 y5 y6 => K .normal (fill f130_0_ex2 [.b y1, .i y2, .i y3, .l y4, .l y5, .l y6])) n from by funext x1 x2 x3 x4 x5; exact f130_0_lp_eq N K n x1 x2 x3 x4 x5]
theorem f130_0_ok (N : Nat) (hlp : LoopsOk Tryz.prog (E130 N).lp B130_0) (hΓ : CtxOk Tryz.prog (E130 N).Γ) : LoopOk Tryz.prog (mkL N130_0 f130_0_sh (f130_0_F N)) 0 B130_0 := by
 refine loopOk_of (E := E130 N) thOk hΓ mixed hlp ?_
 intro R ls K r h
 unfold f130_0_F at h
 split at h
 ·
  exact ⟨N, by rw [f130_0_lp_eq]; exact h⟩
 ·
  cases h
theorem f130_2_st_eq {R : Type} (N : Nat) (K : X → AS → Option R) (n : Nat) (x1 x2 : Int) (x3 x4 x5 : List Int) : roundsOf (E130 N) N130_2 2 B130_2 K (n + 1) (fill f130_2_sh [.i x1, .i x2, .l x3, .l x4, .l x5]) = f130_2_st N (fun x1 x2 x3 x4 x5 => roundsOf (E130 N) N130_2 2 B130_2 K n (fill f130_2_sh [.i x1, .i x2, .l x3, .l x4, .l x5])) (fun y1 y2 y3 y4 y5 y6 => K .normal (fill f130_2_ex1 [.b y1, .i y2, .i y3, .l y4, .l y5, .l y6])) x1 x2 x3 x4 x5 := by kernel_rfl
theorem f130_2_lp_eq {R : Type} (N : Nat) (K : X → AS → Option R) : ∀ (n : Nat) (x1 x2 : Int) (x3 x4 x5 : List Int), roundsOf (E130 N) N130_2 2 B130_2 K n (fill f130_2_sh [.i x1, .i x2, .l x3, .l x4, .l x5]) = f130_2_lp N (fun y1 y2 y3 y4 y5 y6 => K .normal (fill f130_2_ex1 [.b y1, .i y2, .i y3, .l y4, .l y5, .l y6])) n x1 x2 x3 x4 x5
 | 0, _, _, _, _, _ => rfl
 | n + 1, x1, x2, x3, x4, x5 => by
  rw [f130_2_st_eq, f130_2_lp, show (fun x1 x2 x3 x4 x5 => roundsOf (E130 N) N130_2 2 B130_2 K n (fill f130_2_sh [.i x1, .i x2, .l x3, .l x4, .l x5])) = f130_2_lp N (fun y1 y2 y3 y4 y5 y6 => K .normal (fill f130_2_ex1 [.b y1, .i y2, .i y3, .l y4, .l y5, .l y6])) n from by funext x1 x2 x3 x4 x5; exact f130_2_lp_eq N K n x1 x2 x3 x4 x5]
theorem f130_2_ok (N : Nat) (hlp : LoopsOk Tryz.prog (E130 N).lp B130_2) (hΓ : CtxOk Tryz.prog (E130 N).Γ) : LoopOk Tryz.prog (mkL N130_2 f130_2_sh (f130_2_F N)) 2 B130_2 := by
 refine loopOk_of (E := E130 N) thOk hΓ mixed hlp ?_
 intro R ls K r h
 unfold f130_2_F at h
 split at h
 ·
  exact ⟨N, by rw [f130_2_lp_eq]; exact h⟩
 ·
  cases h
theorem lok130_2 (N : Nat) (hΓ : CtxOk Tryz.prog GX) : LoopOk Tryz.prog (mkL N130_2 f130_2_sh (f130_2_F N)) 2 B130_2 := f130_2_ok N (loopsOk_of (l := []) (by kernel_rfl) trivial) hΓ
theorem lok130_0 (N : Nat) (hΓ : CtxOk Tryz.prog GX) : LoopOk Tryz.prog (mkL N130_0 f130_0_sh (f130_0_F N)) 0 B130_0 := f130_0_ok N (loopsOk_of (l := []) (by kernel_rfl) trivial) hΓ
theorem f130_contract (N : Nat) (hΓ : CtxOk Tryz.prog GX) : Contract Tryz.prog 130 { sig := S130, impl := fun _ ds k => call (E130 N) S130 65 B130 R130 ds k } :=
 call_contract (E := E130 N) thOk hΓ mixed ok130.look ok130.body ok130.n ok130.rv ok130.name rfl (by decide) (loopsOk_of (l := [(0, B130_0), (2, B130_2)]) (by kernel_rfl) (allOk_cons (L := mkL N130_0 f130_0_sh (f130_0_F N)) rfl (lok130_0 N hΓ) (allOk_cons (L := mkL N130_2 f130_2_sh (f130_2_F N)) rfl (lok130_2 N hΓ) trivial)))
theorem f130_raw_eq {R : Type} (N : Nat) (xs : List Int) (k : List DV → Option R) : call (E130 N) S130 65 B130 R130 [.lst (.one .u8) 32 xs] k = f130_raw N xs k := by kernel_rfl
def elF (x : List Int) (i : Nat) : List Int := List.take 32 (List.drop (i * 32) x)
def okF (x : List Int) : Bool := (Nat.beq (x.length % 32) 0 && Nat.ble x.length 1073741824) && x.all fun b => decide (0 ≤ b) && decide (b < 256)
theorem okF_n {x : List Int} (h : okF x = true) : x.length = (x.length / 32) * 32 ∧ x.length ≤ 1073741824 := by
 unfold okF at h
 simp only [Bool.and_eq_true] at h
 have h1 := Nat.eq_of_beq_eq_true h.1.1
 have h2 := Nat.le_of_ble_eq_true h.1.2
 omega
theorem okF_el {x : List Int} (h : okF x = true) {i : Nat} (hi : i < x.length / 32) : okB (elF x i) = true := by
 have hn := okF_n h
 unfold okF at h
 simp only [Bool.and_eq_true] at h
 have h3 := List.all_eq_true.1 h.2
 unfold okB elF
 rw [decide_eq_true (by rw [List.length_take, List.length_drop]; omega), Bool.true_and, List.all_eq_true]
 intro b hb
 exact h3 b (List.mem_of_mem_drop (List.mem_of_mem_take hb))
theorem rows32 {x : List Int} (h : okF x = true) : nI (rowLen 32 x) = ((x.length / 32 : Nat) : Int) := rfl
def dotF (x y : List Int) : Nat → Nat
 | 0 => 0
 | i + 1 => addN (dotF x y i) (mulN (vS (elF x i)) (vS (elF y i)))
theorem dotF_lt (x y : List Int) : ∀ i, dotF x y i < ell
 | 0 => ell_pos
 | i + 1 => addN_lt _ _
theorem f153_loop {R : Type} (N : Nat) (k1 : Bool → Int → Int → List Int → List Int → List Int → List Int → Option R) {x y : List Int} {n : Nat} (hx : okF x = true) (hy : okF y = true) (hn : x.length / 32 = n) (hm : y.length / 32 = n) (z : List Int) :
  ∀ j i : Nat, i + j = n → ∀ fuel, j < fuel → f153_0_lp N k1 fuel (n : Int) (i : Int) x y z (wN (dotF x y i)) = k1 false (n : Int) (n : Int) x y z (wN (dotF x y n)) := by
 have hb := (okF_n hx).2
 intro j
 induction j with
 | zero =>
  intro i h fuel hf
  obtain ⟨f, rfl⟩ : ∃ f, fuel = f + 1 := ⟨fuel - 1, by omega⟩
  have : i = n := by omega
  subst this
  show f153_0_st N (f153_0_lp N k1 f) k1 _ _ _ _ _ _ = _
  unfold f153_0_st
  rw [decide_eq_false (by omega), cond_false]
 | succ j ih =>
  intro i h fuel hf
  obtain ⟨f, rfl⟩ : ∃ f, fuel = f + 1 := ⟨fuel - 1, by omega⟩
  show f153_0_st N (f153_0_lp N k1 f) k1 _ _ _ _ _ _ = _
  unfold f153_0_st
  have o1 := okF_el hx (i := i) (by omega)
  have o2 := okF_el hy (i := i) (by omega)
  have e4 : IntKind.i64.wrap ((i : Int) + 1) = ((i + 1 : Nat) : Int) := by
   rw [show (i : Int) + 1 = ((i + 1 : Nat) : Int) by omega]; exact wi64 (by omega)
  rw [rows32 hx, rows32 hy, hn, hm]
  dsimp only
  rw [show mulE (Int.toNat (i : Int)) 32 = i * 32 from rfl, show List.take 32 (List.drop (i * 32) x) = elF x i from rfl, show List.take 32 (List.drop (i * 32) y) = elF y i from rfl, o1, o2, e4,
   decide_eq_true (show (i : Int) < (n : Int) by omega), decide_eq_true (show (0 : Int) ≤ (i : Int) by omega), okN_wN (vS_lt _), okN_wN (vS_lt _), nW_wl (vS_lt _), nW_wl (vS_lt _), okN_wN (mulN_lt _ _), okN_wN (dotF_lt _ _ _), nW_wl (mulN_lt _ _), nW_wl (dotF_lt _ _ _)]
  simp only [Bool.and_self, cond_true]
  exact ih (i + 1) (by omega) f (by omega)
def I153 : (R : Type) → List DV → (List DV → Option R) → Option R := fun _ ds k => match ds with
 | [.lst (.one .u8) 32 x, .lst (.one .u8) 32 y] => bif okF x && okF y then (bif Nat.beq (x.length / 32) (y.length / 32) then k [.v (.one (.ints .u8 32 (sN (dotF x y (x.length / 32))))), .v (.one (.int .i64 0))] else k [.v (.one (.ints .u8 32 (List.replicate 32 0))), .v (.one (.int .i64 8))]) else none
 | _ => none
theorem c153 : Contract Tryz.prog 153 { sig := S153, impl := I153 } := by
 refine Contract.refine fun R ds k r h => ?_
 unfold I153 at h
 split at h
 ·
  rename_i x y
  refine ⟨_, f153_contract (x.length / 32 + 1) GX_ok, ?_⟩
  rcases hc : okF x && okF y with _ | _
  ·
   rw [hc] at h; cases h
  ·
   rw [hc, cond_true] at h
   rw [Bool.and_eq_true] at hc
   rw [f153_raw_eq]
   unfold f153_raw
   rw [rows32 hc.1, rows32 hc.2]
   cases hq : Nat.beq (x.length / 32) (y.length / 32) with
   | true =>
    rw [hq, cond_true] at h
    have hq := Nat.eq_of_beq_eq_true hq
    rw [show (((x.length / 32 : Nat) : Int) != ((y.length / 32 : Nat) : Int)) = false by rw [hq]; simp, cond_false]
    have := f153_loop (x.length / 32 + 1) (fun w0_1 w0_2 w0_3 w0_4 w0_5 w0_6 w0_7 => bif okW w0_7 then k [DV.v (SV.one (At.ints IntKind.u8 32 (sN (nW w0_7)))), DV.v (SV.one (At.int IntKind.i64 0))] else Option.none) hc.1 hc.2 rfl hq.symm (List.replicate 32 0) (x.length / 32) 0 (by omega) (x.length / 32 + 1) (by omega)
    rw [show wN (dotF x y 0) = List.replicate 4 0 from wN_zero.symm] at this
    refine this.trans ?_
    show (bif okW (wN (dotF x y (x.length / 32))) then k [DV.v (SV.one (At.ints IntKind.u8 32 (sN (nW (wN (dotF x y (x.length / 32))))))), DV.v (SV.one (At.int IntKind.i64 0))] else Option.none) = _
    rw [okW_wN, cond_true, nW_wl (dotF_lt _ _ _)]
    exact h
   | false =>
    rw [hq, cond_false] at h
    have hq : x.length / 32 ≠ y.length / 32 := fun e => by rw [e, Nat.beq_refl] at hq; cases hq
    rw [show (((x.length / 32 : Nat) : Int) != ((y.length / 32 : Nat) : Int)) = true by simp; omega, cond_true]
    exact h
 ·
  exact (Option.some_ne_none _ h.symm).elim
end
end Go.Proofs.YtogcijgklnfjjaaGreat
namespace Go.Eng
def Prm (n : Nat) : Prop := 2 ≤ n ∧ ∀ d, d ∣ n → d = 1 ∨ d = n
theorem Prm.coprime {p a : Nat} (hp : Prm p) (h : ¬ p ∣ a) : Nat.Coprime p a := by
 rcases hp.2 _ (Nat.gcd_dvd_left p a) with h1 | h1
 ·
  exact h1
 ·
  exact absurd (h1 ▸ Nat.gcd_dvd_right p a) h
theorem Prm.dvd_mul {p a b : Nat} (hp : Prm p) (h : p ∣ a * b) : p ∣ a ∨ p ∣ b := by
 by_cases h1 : p ∣ a
 ·
  exact .inl h1
 ·
  exact .inr ((hp.coprime h1).dvd_of_dvd_mul_left h)
theorem exists_prm : ∀ n, 2 ≤ n → ∃ r, Prm r ∧ r ∣ n := by
 intro n
 induction n using Nat.strongRecOn with
 | ind n ih =>
  intro hn
  by_cases h : ∀ d, d ∣ n → d = 1 ∨ d = n
  ·
   exact ⟨n, ⟨hn, h⟩, Nat.dvd_refl n⟩
  ·
   have ⟨d, hd⟩ := Classical.not_forall.1 h
   have ⟨hd, hne⟩ : d ∣ n ∧ ¬(d = 1 ∨ d = n) := by
    by_cases e : d ∣ n
    ·
     exact ⟨e, fun h' => hd fun _ => h'⟩
    ·
     exact absurd (fun h' => absurd h' e) hd
   have hle := Nat.le_of_dvd (by omega) hd
   have h0 : d ≠ 0 := by
    rintro rfl
    have := Nat.eq_zero_of_zero_dvd hd
    omega
   obtain ⟨r, h1, h2⟩ := ih d (by omega) (by omega)
   exact ⟨r, h1, Nat.dvd_trans h2 hd⟩
theorem dvd_of_mods {n a b : Nat} (h : a % n = b % n) : n ∣ b - a := Nat.dvd_of_mod_eq_zero (Nat.sub_mod_eq_zero_of_mod_eq h.symm)
theorem mods_of_dvd {n a b : Nat} (hle : a ≤ b) (h : n ∣ b - a) : a % n = b % n := by
 obtain ⟨k, hk⟩ := h
 rw [show b = a + n * k by omega, Nat.add_mul_mod_self_left]
def prodL : List Nat → Nat
 | [] => 1
 | x :: l => x * prodL l
theorem prodL_perm {l m : List Nat} (h : l.Perm m) : prodL l = prodL m := by
 induction h with
 | nil => rfl
 | cons x _ ih => simp [prodL, ih]
 | swap x y l => simp [prodL, Nat.mul_left_comm]
 | trans _ _ ih1 ih2 => exact ih1.trans ih2
theorem perm_of_subset : ∀ {l m : List Nat}, l.Nodup → (∀ x ∈ l, x ∈ m) → m.length ≤ l.length → l.Perm m
 | [], m, _, _, h => by
  have : m = [] := List.eq_nil_of_length_eq_zero (by simpa using h)
  rw [this]
 | x :: l, m, hn, hs, h => by
  have hx := hs x (.head _)
  have hp := List.perm_cons_erase hx
  rw [List.nodup_cons] at hn
  have hl : (m.erase x).length ≤ l.length := by
   rw [List.length_erase_of_mem hx]
   simp only [List.length_cons] at h; omega
  have ih := perm_of_subset (l := l) (m := m.erase x) hn.2 (fun y hy => (List.mem_erase_of_ne (fun e : y = x => hn.1 (by rw [← e]; exact hy))).2 (hs y (.tail _ hy))) hl
  exact (ih.cons x).trans hp.symm
theorem prod_map_mod (a p : Nat) : ∀ l : List Nat, prodL (l.map fun k => a * k % p) % p = a ^ l.length * prodL l % p
 | [] => by simp [prodL]
 | x :: l => by
  simp only [List.map_cons, prodL, List.length_cons, Nat.pow_succ]
  rw [Nat.mul_mod, prod_map_mod a p l, Nat.mod_mod, ← Nat.mul_mod]
  congr 1
  simp only [Nat.mul_comm, Nat.mul_left_comm, Nat.mul_assoc]
theorem not_dvd_prod {p : Nat} (hp : Prm p) : ∀ {l : List Nat}, (∀ x ∈ l, ¬ p ∣ x) → ¬ p ∣ prodL l
 | [], _, h => by
  have := Nat.le_of_dvd (by decide) h
  have := hp.1
  simp [prodL] at *; omega
 | x :: l, h, hd => by
  rcases hp.dvd_mul hd with h1 | h1
  ·
   exact h x (.head _) h1
  ·
   exact not_dvd_prod hp (fun y hy => h y (.tail _ hy)) h1
theorem fermat {p a : Nat} (hp : Prm p) (ha : ¬ p ∣ a) : a ^ (p - 1) % p = 1 := by
 have h2 := hp.1
 let L := List.range' 1 (p - 1)
 have hmem : ∀ x, x ∈ L ↔ 1 ≤ x ∧ x < p := by
  intro x
  simp only [L, List.mem_range'_1]; omega
 have hnd : (L.map fun k => a * k % p).Nodup := by
  unfold List.Nodup
  rw [List.pairwise_map]
  refine List.Pairwise.imp_of_mem (R := (· < ·)) ?_ (List.pairwise_lt_range' (s := 1) (n := p - 1))
  intro i j hi hj hlt e
  have hi := (hmem i).1 hi
  have hj := (hmem j).1 hj
  have hd : p ∣ a * j - a * i := dvd_of_mods e
  rw [← Nat.mul_sub] at hd
  rcases hp.dvd_mul hd with h | h
  ·
   exact ha h
  ·
   have := Nat.le_of_dvd (by omega) h; omega
 have hsub : ∀ x ∈ L.map (fun k => a * k % p), x ∈ L := by
  intro x hx
  obtain ⟨k, hk, rfl⟩ := List.mem_map.1 hx
  have hk := (hmem k).1 hk
  refine (hmem _).2 ⟨?_, Nat.mod_lt _ (by omega)⟩
  have : a * k % p ≠ 0 := by
   intro e
   rcases hp.dvd_mul (Nat.dvd_of_mod_eq_zero e) with h | h
   ·
    exact ha h
   ·
    have := Nat.le_of_dvd (by omega) h; omega
  omega
 have hperm := perm_of_subset hnd hsub (by simp)
 have e := prod_map_mod a p L
 rw [prodL_perm hperm] at e
 have hl : L.length = p - 1 := by simp [L]
 rw [hl] at e
 have hP : ¬ p ∣ prodL L := not_dvd_prod hp fun x hx h => by
  have hx := (hmem x).1 hx
  have := Nat.le_of_dvd (by omega) h; omega
 have hpos : 0 < a ^ (p - 1) := Nat.pow_pos (by
  rcases Nat.eq_zero_or_pos a with e | e
  ·
   subst e; exact absurd (Nat.dvd_zero p) ha
  ·
   exact e)
 have hd : p ∣ a ^ (p - 1) * prodL L - prodL L := dvd_of_mods e
 rw [show a ^ (p - 1) * prodL L - prodL L = (a ^ (p - 1) - 1) * prodL L by rw [Nat.sub_mul, Nat.one_mul]] at hd
 rcases hp.dvd_mul hd with h | h
 ·
  have := mods_of_dvd (n := p) (show 1 ≤ a ^ (p - 1) from hpos) h
  have e1 : 1 % p = 1 := Nat.mod_eq_of_lt (by omega)
  rw [← this, e1]
 ·
  exact absurd h hP
def pm (n : Nat) : Nat → Nat → Nat → Nat
 | 0, _, _ => 1 % n
 | f + 1, b, e => cond (Nat.beq e 0) (1 % n) (cond (Nat.beq (e % 2) 0) (pm n f (b * b % n) (e / 2)) (b * pm n f (b * b % n) (e / 2) % n))
theorem pow_mod_two (b e n : Nat) : (b * b % n) ^ (e / 2) % n = b ^ (2 * (e / 2)) % n := by
 rw [← Nat.pow_mod, Nat.pow_mul, Nat.pow_two]
theorem pm_eq (n : Nat) : ∀ (f b e : Nat), e < 2 ^ f → pm n f b e = b ^ e % n
 | 0, b, e, h => by
  have : e = 0 := by simpa using h
  subst this; rfl
 | f + 1, b, e, h => by
  have hlt : e / 2 < 2 ^ f := by rw [Nat.pow_succ] at h; omega
  rw [pm, pm_eq n f _ _ hlt, pow_mod_two]
  by_cases h0 : e = 0
  ·
   subst h0; rfl
  ·
   have b0 : Nat.beq e 0 = false := by cases e; exact absurd rfl h0; rfl
   rw [b0, cond_false]
   by_cases h2 : e % 2 = 0
   ·
    rw [h2, show Nat.beq 0 0 = true from rfl, cond_true, show 2 * (e / 2) = e by omega]
   ·
    have h1 : e % 2 = 1 := by omega
    rw [h1, show Nat.beq 1 0 = false from rfl, cond_false]
    rw [Nat.mul_mod, Nat.mod_mod, ← Nat.mul_mod]
    congr 1
    rw [← Nat.pow_succ', show (2 * (e / 2)).succ = e by omega]
theorem pow_gcd {x r : Nat} (hr : 2 ≤ r) : ∀ (a b : Nat), x ^ a % r = 1 → x ^ b % r = 1 → x ^ (Nat.gcd a b) % r = 1 := by
 intro a b
 induction a, b using Nat.gcd.induction with
 | H0 b => intro _ h; rw [Nat.gcd_zero_left]; exact h
 | H1 a b ha ih =>
  intro h1 h2
  rw [Nat.gcd_rec]
  refine ih ?_ h1
  have e : x ^ b = (x ^ a) ^ (b / a) * x ^ (b % a) := by rw [← Nat.pow_mul, ← Nat.pow_add, Nat.div_add_mod]
  rw [e, Nat.mul_mod, Nat.pow_mod, h1, Nat.one_pow, Nat.mod_eq_of_lt (show 1 < r by omega), Nat.one_mul, Nat.mod_mod] at h2
  exact h2
theorem pock {n q a : Nat} (hn : 2 ≤ n) (hq : Prm q) (hd : q ∣ n - 1) (h1 : a ^ (n - 1) % n = 1) (h2 : Nat.gcd (a ^ ((n - 1) / q) % n + (n - 1)) n = 1) {r : Nat} (hr : Prm r) (hrn : r ∣ n) : q ∣ r - 1 := by
 have hr2 := hr.1
 generalize hy : a ^ ((n - 1) / q) = y at h2
 have hyq : y ^ q % n = 1 := by rw [← hy, ← Nat.pow_mul, Nat.div_mul_cancel hd]; exact h1
 have hyr : y ^ q % r = 1 := by
  have := Nat.mod_mod_of_dvd (y ^ q) hrn
  rw [hyq] at this
  rw [← this]; exact Nat.mod_eq_of_lt (by omega)
 have hy1 : y % r ≠ 1 := by
  intro e
  have h3 : y % n % r = 1 := by rw [Nat.mod_mod_of_dvd _ hrn]; exact e
  obtain ⟨k, hk⟩ := hrn
  have hkpos : 0 < k := by
   rcases Nat.eq_zero_or_pos k with e | e
   ·
    subst e; omega
   ·
    exact e
  have h4 : r ∣ y % n + (n - 1) := by
   have h5 : (y % n + (n - 1)) % r = 0 := by
    have e1 : y % n + (n - 1) = (y % n - 1) + n := by
     have : 1 ≤ y % n := by
      rcases Nat.eq_zero_or_pos (y % n) with e | e
      ·
       rw [e] at h3; simp at h3
      ·
       exact e
     omega
    have e2 : (y % n - 1) % r = 0 := by
     have := Nat.div_add_mod (y % n) r
     rw [h3] at this
     rw [← this, Nat.add_sub_cancel, Nat.mul_mod_right]
    rw [e1, Nat.add_mod, e2, hk, Nat.mul_mod_right]; rfl
   exact Nat.dvd_of_mod_eq_zero h5
  have h6 : r ∣ 1 := h2 ▸ Nat.dvd_gcd h4 ⟨k, hk⟩
  have := Nat.le_of_dvd (by decide) h6
  omega
 have hny : ¬ r ∣ y := by
  intro h
  have : y ^ q % r = 0 := by
   have h3 : r ∣ y ^ q := Nat.dvd_trans h (by
    have := hq.1
    obtain ⟨m, rfl⟩ : ∃ m, q = m + 1 := ⟨q - 1, by omega⟩
    rw [Nat.pow_succ]; exact Nat.dvd_mul_left y (y ^ m))
   exact Nat.mod_eq_zero_of_dvd h3
  rw [this] at hyr; cases hyr
 by_cases hc : q ∣ r - 1
 ·
  exact hc
 ·
  have hg : Nat.gcd q (r - 1) = 1 := hq.coprime hc
  have := pow_gcd hr2 q (r - 1) hyr (fermat hr hny)
  rw [hg, Nat.pow_one] at this
  exact absurd this hy1
theorem prm_of_factors {n : Nat} (hn : 2 ≤ n) (h : ∀ r, Prm r → r ∣ n → n < r * r) : Prm n := by
 refine ⟨hn, fun d hd => ?_⟩
 by_cases h1 : d = 1
 ·
  exact .inl h1
 ·
  by_cases h2 : d = n
  ·
   exact .inr h2
  ·
   exfalso
   obtain ⟨e, he⟩ := hd
   have hd0 : 2 ≤ d := by
    rcases Nat.eq_zero_or_pos d with h | h
    ·
     subst h; omega
    ·
     omega
   have he0 : 2 ≤ e := by
    rcases Nat.lt_or_ge e 2 with h | h
    ·
     have : e = 0 ∨ e = 1 := by omega
     rcases this with rfl | rfl
     ·
      omega
     ·
      omega
    ·
     exact h
   rcases Nat.le_total d e with hle | hle
   ·
    obtain ⟨r, hr, hrd⟩ := exists_prm d hd0
    have := h r hr (Nat.dvd_trans hrd ⟨e, he⟩)
    have hrle := Nat.le_of_dvd (by omega) hrd
    have h3 : r * r ≤ d * e := Nat.mul_le_mul hrle (Nat.le_trans hrle hle)
    omega
   ·
    obtain ⟨r, hr, hrd⟩ := exists_prm e he0
    have := h r hr (Nat.dvd_trans hrd ⟨d, by rw [he, Nat.mul_comm]⟩)
    have hrle := Nat.le_of_dvd (by omega) hrd
    have h3 : r * r ≤ d * e := Nat.mul_le_mul (Nat.le_trans hrle hle) hrle
    omega
theorem prm_pock2 {n p q a b : Nat} (hn : 2 ≤ n) (hp : Prm p) (hq : Prm q) (hne : p ≠ q) (dp : p ∣ n - 1) (dq : q ∣ n - 1) (a1 : a ^ (n - 1) % n = 1) (a2 : Nat.gcd (a ^ ((n - 1) / p) % n + (n - 1)) n = 1)
  (b1 : b ^ (n - 1) % n = 1) (b2 : Nat.gcd (b ^ ((n - 1) / q) % n + (n - 1)) n = 1) (hs : n ≤ (p * q) * (p * q)) : Prm n := by
 refine prm_of_factors hn fun r hr hrn => ?_
 have h1 := pock hn hp dp a1 a2 hr hrn
 have h2 := pock hn hq dq b1 b2 hr hrn
 have hc : Nat.Coprime p q := hp.coprime fun h => by
  rcases hq.2 _ h with e | e
  ·
   have := hp.1; omega
  ·
   exact hne e
 have hd : p * q ∣ r - 1 := hc.mul_dvd_of_dvd_of_dvd h1 h2
 have hle := Nat.le_of_dvd (by have := hr.1; omega) hd
 have hr2 := hr.1
 have h3 : (p * q + 1) * (p * q + 1) ≤ r * r := Nat.mul_le_mul (by omega) (by omega)
 have h4 : (p * q) * (p * q) < (p * q + 1) * (p * q + 1) := Nat.mul_self_lt_mul_self (Nat.lt_succ_self _)
 omega
theorem prm_by {n p q f : Nat} (a b : Nat) (hn : 2 ≤ n) (hp : Prm p) (hq : Prm q) (hne : p ≠ q) (dp : (n - 1) % p = 0) (dq : (n - 1) % q = 0) (hf : n < 2 ^ f) (a1 : pm n f a (n - 1) = 1) (a2 : Nat.gcd (pm n f a ((n - 1) / p) + (n - 1)) n = 1)
  (b1 : pm n f b (n - 1) = 1) (b2 : Nat.gcd (pm n f b ((n - 1) / q) + (n - 1)) n = 1) (hs : n ≤ (p * q) * (p * q)) : Prm n := by
 have h1 : n - 1 < 2 ^ f := by omega
 have h2 : ∀ k, (n - 1) / k < 2 ^ f := fun k => Nat.lt_of_le_of_lt (Nat.div_le_self _ _) h1
 rw [pm_eq n f _ _ h1] at a1 b1
 rw [pm_eq n f _ _ (h2 _)] at a2 b2
 exact prm_pock2 hn hp hq hne (Nat.dvd_of_mod_eq_zero dp) (Nat.dvd_of_mod_eq_zero dq) a1 a2 b1 b2 hs
def noDiv (n : Nat) : Nat → Bool
 | 0 => true
 | k + 1 => cond (Nat.beq (n % (k + 2)) 0) false (noDiv n k)
theorem noDiv_spec {n : Nat} : ∀ {k : Nat}, noDiv n k = true → ∀ d, 2 ≤ d → d ≤ k + 1 → ¬ d ∣ n
 | 0, _, d, h1, h2 => by omega
 | k + 1, h, d, h1, h2 => by
  rw [noDiv] at h
  cases hb : Nat.beq (n % (k + 2)) 0 with
  | true => rw [hb] at h; cases h
  | false =>
   rw [hb] at h
   rcases Nat.lt_or_ge d (k + 2) with hlt | hge
   ·
    exact noDiv_spec h d h1 (by omega)
   ·
    have : d = k + 2 := by omega
    subst this
    intro hd
    rw [Nat.mod_eq_zero_of_dvd hd] at hb
    cases hb
theorem prm_trial {n k : Nat} (hn : 2 ≤ n) (h : noDiv n k = true) (hs : n < (k + 2) * (k + 2)) : Prm n := by
 refine prm_of_factors hn fun r hr hrn => ?_
 rcases Nat.lt_or_ge r (k + 2) with hlt | hge
 ·
  exact absurd hrn (noDiv_spec h r hr.1 (by omega))
 ·
  exact Nat.lt_of_lt_of_le hs (Nat.mul_le_mul hge hge)
end Go.Eng
namespace Go.Eng
theorem prmL_1224481 : Prm 1224481 := prm_trial (k := 1105) (by decide) (by decide +kernel) (by decide)
theorem prmL_531581 : Prm 531581 := prm_trial (k := 728) (by decide) (by decide +kernel) (by decide)
theorem prmL_1257559732178653 : Prm 1257559732178653 :=
 prm_by (p := 1224481) (q := 531581) (f := 51) 2 2 (by decide) prmL_1224481 prmL_531581 (by decide) (by decide +kernel) (by decide +kernel) (by decide +kernel) (by decide +kernel) (by decide +kernel) (by decide +kernel) (by decide +kernel) (by decide +kernel)
theorem prmL_2 : Prm 2 := prm_trial (k := 0) (by decide) (by decide +kernel) (by decide)
theorem prmL_4434155615661930479 : Prm 4434155615661930479 :=
 prm_by (p := 1257559732178653) (q := 2) (f := 62) 2 17 (by decide) prmL_1257559732178653 prmL_2 (by decide) (by decide +kernel) (by decide +kernel) (by decide +kernel) (by decide +kernel) (by decide +kernel) (by decide +kernel) (by decide +kernel) (by decide +kernel)
theorem prmL_172054593956031949258510691 : Prm 172054593956031949258510691 :=
 prm_by (p := 4434155615661930479) (q := 2) (f := 88) 2 2 (by decide) prmL_4434155615661930479 prmL_2 (by decide) (by decide +kernel) (by decide +kernel) (by decide +kernel) (by decide +kernel) (by decide +kernel) (by decide +kernel) (by decide +kernel) (by decide +kernel)
theorem prmL_19757330305831588566944191468367130476339 : Prm 19757330305831588566944191468367130476339 :=
 prm_by (p := 172054593956031949258510691) (q := 2) (f := 134) 2 2 (by decide) prmL_172054593956031949258510691 prmL_2 (by decide) (by decide +kernel) (by decide +kernel) (by decide +kernel) (by decide +kernel) (by decide +kernel) (by decide +kernel) (by decide +kernel) (by decide +kernel)
theorem prmL_276602624281642239937218680557139826668747 : Prm 276602624281642239937218680557139826668747 :=
 prm_by (p := 19757330305831588566944191468367130476339) (q := 2) (f := 138) 2 2 (by decide) prmL_19757330305831588566944191468367130476339 prmL_2 (by decide) (by decide +kernel) (by decide +kernel) (by decide +kernel) (by decide +kernel) (by decide +kernel) (by decide +kernel) (by decide +kernel) (by decide +kernel)
theorem prm_ell0 : Prm 7237005577332262213973186563042994240857116359379907606001950938285454250989 :=
 prm_by (p := 276602624281642239937218680557139826668747) (q := 2) (f := 253) 2 2 (by decide) prmL_276602624281642239937218680557139826668747 prmL_2 (by decide) (by decide +kernel) (by decide +kernel) (by decide +kernel) (by decide +kernel) (by decide +kernel) (by decide +kernel) (by decide +kernel) (by decide +kernel)
end Go.Eng
namespace Go.Proofs.YtogcijgklnfjjaaGreat
noncomputable section
open Go Go.Eng
set_option maxRecDepth 100000
set_option linter.unusedVariables false
theorem prm_ell : Prm ell := by rw [ell_def]; exact prm_ell0
theorem mulN_comm (a b : Nat) : mulN a b = mulN b a := by rw [mulN_def, mulN_def, Nat.mul_comm]
theorem mulN_assoc (a b c : Nat) : mulN (mulN a b) c = mulN a (mulN b c) := by
 rw [mulN_def, mulN_def, mulN_def, mulN_def, Nat.mod_mul_mod, Nat.mul_mod_mod, Nat.mul_assoc]
theorem mulN_one {a : Nat} (h : a < ell) : mulN a 1 = a := by rw [mulN_def, Nat.mul_one, Nat.mod_eq_of_lt h]
theorem one_mulN {a : Nat} (h : a < ell) : mulN 1 a = a := by rw [mulN_comm, mulN_one h]
theorem zero_mulN (a : Nat) : mulN 0 a = 0 := by rw [mulN_def, Nat.zero_mul, Nat.zero_mod]
theorem addN_comm (a b : Nat) : addN a b = addN b a := by rw [addN_def, addN_def, Nat.add_comm]
theorem addN_zero {a : Nat} (h : a < ell) : addN a 0 = a := by rw [addN_def, Nat.add_zero, Nat.mod_eq_of_lt h]
theorem addN_negN {a : Nat} (h : a < ell) : addN a (negN a) = 0 := by
 rw [addN_def, negN_def, Nat.add_mod_mod, show a + (ell - a) = ell by omega, Nat.mod_self]
theorem dvd_small {a : Nat} (h : a < ell) (h0 : a ≠ 0) : ¬ ell ∣ a := fun hd => by
 have := Nat.le_of_dvd (by omega) hd
 omega
theorem mulN_inv {a : Nat} (h : a < ell) (h0 : a ≠ 0) : mulN a (invN a) = 1 := by
 have e : ell - 2 + 1 = ell - 1 := by rw [ell_def]
 rw [mulN_def, invN_def, powN_def, Nat.mul_mod_mod, Nat.mul_comm, ← Nat.pow_succ, show (ell - 2).succ = ell - 1 from e]
 exact fermat prm_ell (dvd_small h h0)
theorem mul_ne {a b : Nat} (ha : a < ell) (hb : b < ell) (ha0 : a ≠ 0) (hb0 : b ≠ 0) : mulN a b ≠ 0 := by
 intro h
 have := mulN_assoc a b (invN b)
 rw [h, mulN_inv hb hb0, mulN_one ha, zero_mulN] at this
 exact ha0 this.symm
theorem invN_mulN (a b : Nat) : invN (mulN a b) = mulN (invN a) (invN b) := by
 rw [invN_def, invN_def, invN_def, powN_def, powN_def, powN_def, mulN_def, mulN_def, ← Nat.pow_mod, Nat.mul_pow, ← Nat.mul_mod]
def headG (g : Nat → List Int) : Nat → List Int
 | 0 => []
 | i + 1 => headG g i ++ g i
def tailG (g : Nat → List Int) (n : Nat) : Nat → List Int
 | 0 => []
 | m + 1 => g (n - (m + 1)) ++ tailG g n m
theorem headG_tail (g : Nat → List Int) (n : Nat) : ∀ m, m ≤ n → headG g (n - m) ++ tailG g n m = headG g n
 | 0, _ => by simp [tailG]
 | m + 1, h => by
  have ih := headG_tail g n m (by omega)
  rw [show n - m = (n - (m + 1)) + 1 by omega, headG] at ih
  rw [tailG, ← List.append_assoc]; exact ih
theorem headG_len {g : Nat → List Int} (hg : ∀ i, (g i).length = 32) : ∀ n, (headG g n).length = n * 32
 | 0 => rfl
 | n + 1 => by rw [headG, List.length_append, headG_len hg n, hg]; omega
theorem zeros_app (a b : Nat) : zerosOf (a + b) = zerosOf a ++ zerosOf b := by unfold zerosOf; exact List.replicate_append_replicate.symm
theorem zeros_len (a : Nat) : (zerosOf a).length = a := by simp [zerosOf]
theorem okB_len' {x : List Int} (h : okB x = true) : x.length = 32 := by
 obtain ⟨l, rfl, hl, _⟩ := okB_of h
 rw [nats_length]; exact hl
theorem sN_len (v : Nat) : (sN v).length = 32 := okB_len' (okB_sN v)
def prodS (x : List Int) : Nat → Nat
 | 0 => 1
 | i + 1 => mulN (prodS x i) (vS (elF x i))
theorem prodS_lt (x : List Int) : ∀ i, prodS x i < ell
 | 0 => one_lt_ell
 | i + 1 => mulN_lt _ _
theorem prodS_ne {x : List Int} {n : Nat} (h : ∀ i, i < n → vS (elF x i) ≠ 0) : ∀ i, i ≤ n → prodS x i ≠ 0
 | 0, _ => by show (1 : Nat) ≠ 0; decide
 | i + 1, hi => mul_ne (prodS_lt x i) (vS_lt _) (prodS_ne h i (by omega)) (h i (by omega))
def fz (x : List Int) : Nat → Nat → Option Nat
 | 0, _ => none
 | j + 1, i => if vS (elF x i) = 0 then some i else fz x j (i + 1)
theorem fz_none {x : List Int} : ∀ {j i : Nat}, fz x j i = none → ∀ k, i ≤ k → k < i + j → vS (elF x k) ≠ 0
 | 0, i, _, k, h1, h2 => by omega
 | j + 1, i, h, k, h1, h2 => by
  rw [fz] at h
  split at h
  ·
   cases h
  ·
   rename_i h0
   by_cases hk : k = i
   ·
    subst hk; exact h0
   ·
    exact fz_none h k (by omega) (by omega)
def invS (x : List Int) : List Int := headG (fun i => sN (invN (vS (elF x i)))) (x.length / 32)
theorem splice_mid {A M M' C : List Int} {b : Nat} (hA : A.length = b) (hM : M.length = M'.length) : splice (A ++ (M ++ C)) (Off.at b) M' = A ++ (M' ++ C) := by
 show List.take b (A ++ (M ++ C)) ++ (M' ++ List.drop (b + M'.length) (A ++ (M ++ C))) = _
 rw [List.take_left' hA, ← List.drop_drop, List.drop_left' hA, List.drop_left' hM]
theorem inv_up {R : Type} (N : Nat) (K : Int → Int → Option R) (k2 : Bool → Int → Int → List Int → List Int → List Int → Option R) {x : List Int} {n : Nat} (hx : okF x = true) (hn : x.length / 32 = n) :
  ∀ j i : Nat, i + j = n → ∀ fuel, j < fuel → f130_0_lp N (fun w1 w2 w3 w4 w5 w6 w7 w8 w9 w10 w11 => K w2 w1) k2 fuel (n : Int) (i : Int) x (sN (prodS x i)) (headG (fun i => sN (prodS x i)) i ++ zerosOf (j * 32)) =
   match fz x j i with
   | some m => K 9 (m : Int)
   | none => k2 false (n : Int) (n : Int) x (sN (prodS x n)) (headG (fun i => sN (prodS x i)) n) := by
 have hb := (okF_n hx).2
 intro j
 induction j with
 | zero =>
  intro i h fuel hf
  obtain ⟨f, rfl⟩ : ∃ f, fuel = f + 1 := ⟨fuel - 1, by omega⟩
  have : i = n := by omega
  subst this
  show f130_0_st N (f130_0_lp N _ k2 f) _ k2 _ _ _ _ _ = _
  unfold f130_0_st
  rw [decide_eq_false (by omega), cond_false]
  simp [fz, zerosOf]
 | succ j ih =>
  intro i h fuel hf
  obtain ⟨f, rfl⟩ : ∃ f, fuel = f + 1 := ⟨fuel - 1, by omega⟩
  have o1 := okF_el hx (i := i) (by omega)
  have e4 : IntKind.i64.wrap ((i : Int) + 1) = ((i + 1 : Nat) : Int) := by
   rw [show (i : Int) + 1 = ((i + 1 : Nat) : Int) by omega]; exact wi64 (by omega)
  have hlen : nI (rowLen 32 (headG (fun i => sN (prodS x i)) i ++ zerosOf ((j + 1) * 32))) = (n : Int) := by
   show ((((headG (fun i => sN (prodS x i)) i ++ zerosOf ((j + 1) * 32)).length / 32 : Nat)) : Int) = _
   rw [List.length_append, headG_len (fun i => sN_len _), zeros_len]
   congr 1; omega
  have hsp : splice (headG (fun i => sN (prodS x i)) i ++ zerosOf ((j + 1) * 32)) (Off.at (i * 32)) (sN (prodS x i)) = headG (fun i => sN (prodS x i)) (i + 1) ++ zerosOf (j * 32) := by
   rw [show (j + 1) * 32 = 32 + j * 32 by omega, zeros_app, splice_mid (headG_len (fun i => sN_len _) i) (by rw [zeros_len, sN_len]), headG, List.append_assoc]
  show f130_0_st N (f130_0_lp N _ k2 f) _ k2 _ _ _ _ _ = _
  unfold f130_0_st
  rw [rows32 hx, hn, hlen]
  dsimp only
  rw [show mulE (Int.toNat (i : Int)) 32 = i * 32 from rfl, show List.take 32 (List.drop (i * 32) x) = elF x i from rfl, o1, e4,
   decide_eq_true (show (i : Int) < (n : Int) by omega), decide_eq_true (show (0 : Int) ≤ (i : Int) by omega), okB_sN, vS_sN (prodS_lt x i), hsp]
  simp only [Bool.and_self, cond_true]
  rw [fz]
  by_cases h0 : vS (elF x i) = 0
  ·
   rw [if_pos h0, decide_eq_true h0, cond_true]
  ·
   rw [if_neg h0, decide_eq_false h0, cond_false]
   exact ih (i + 1) (by omega) f (by omega)
theorem inv_down {R : Type} (N : Nat) (k1 : Bool → Int → Int → List Int → List Int → List Int → Option R) {x : List Int} {n : Nat} (hx : okF x = true) (hn : x.length / 32 = n) (hz : ∀ i, i < n → vS (elF x i) ≠ 0) :
  ∀ i m : Nat, i + m = n → ∀ fuel, i < fuel →
   f130_2_lp N k1 fuel (n : Int) (m : Int) x (sN (invN (prodS x i))) (headG (fun i => sN (prodS x i)) i ++ tailG (fun i => sN (invN (vS (elF x i)))) n m) = k1 false (n : Int) (n : Int) x (sN (invN (prodS x 0))) (invS x) := by
 have hb := (okF_n hx).2
 intro i
 induction i with
 | zero =>
  intro m h fuel hf
  obtain ⟨f, rfl⟩ : ∃ f, fuel = f + 1 := ⟨fuel - 1, by omega⟩
  have : m = n := by omega
  subst this
  show f130_2_st N (f130_2_lp N k1 f) k1 _ _ _ _ _ = _
  unfold f130_2_st
  have ht := headG_tail (fun i => sN (invN (vS (elF x i)))) m m (Nat.le_refl _)
  rw [Nat.sub_self] at ht
  rw [decide_eq_false (by omega), cond_false]
  unfold invS
  rw [hn, ← ht]; rfl
 | succ i ih =>
  intro m h fuel hf
  obtain ⟨f, rfl⟩ : ∃ f, fuel = f + 1 := ⟨fuel - 1, by omega⟩
  have o1 := okF_el hx (i := i) (by omega)
  have hT : (tailG (fun i => sN (invN (vS (elF x i)))) n m).length = m * 32 := by
   have e := congrArg List.length (headG_tail (fun i => sN (invN (vS (elF x i)))) n m (by omega))
   rw [List.length_append, headG_len (fun i => sN_len _), headG_len (fun i => sN_len _)] at e
   omega
  have hlen : nI (rowLen 32 (headG (fun i => sN (prodS x i)) (i + 1) ++ tailG (fun i => sN (invN (vS (elF x i)))) n m)) = (n : Int) := by
   show ((((headG (fun i => sN (prodS x i)) (i + 1) ++ tailG (fun i => sN (invN (vS (elF x i)))) n m).length / 32 : Nat)) : Int) = _
   rw [List.length_append, headG_len (fun i => sN_len _), hT]
   congr 1; omega
  have hget : List.take 32 (List.drop (i * 32) (headG (fun i => sN (prodS x i)) (i + 1) ++ tailG (fun i => sN (invN (vS (elF x i)))) n m)) = sN (prodS x i) := by
   rw [headG, List.append_assoc, List.drop_left' (headG_len (fun i => sN_len _) i), List.take_left' (sN_len _)]
  have htl : tailG (fun i => sN (invN (vS (elF x i)))) n (m + 1) = sN (invN (vS (elF x i))) ++ tailG (fun i => sN (invN (vS (elF x i)))) n m := by
   rw [tailG, show n - (m + 1) = i by omega]
  have hsp : splice (headG (fun i => sN (prodS x i)) (i + 1) ++ tailG (fun i => sN (invN (vS (elF x i)))) n m) (Off.at (i * 32)) (sN (invN (vS (elF x i)))) = headG (fun i => sN (prodS x i)) i ++ tailG (fun i => sN (invN (vS (elF x i)))) n (m + 1) := by
   rw [htl, headG, List.append_assoc, splice_mid (headG_len (fun i => sN_len _) i) (by rw [sN_len, sN_len])]
  have h0 := hz i (by omega)
  have hp0 := prodS_ne hz i (by omega)
  have s1 : mulN (prodS x i) (invN (prodS x (i + 1))) = invN (vS (elF x i)) := by
   rw [prodS, invN_mulN, ← mulN_assoc, mulN_inv (prodS_lt x i) hp0, one_mulN (invN_lt _)]
  have s2 : mulN (invN (prodS x (i + 1))) (vS (elF x i)) = invN (prodS x i) := by
   rw [prodS, invN_mulN, mulN_assoc, mulN_comm (invN (vS (elF x i))), mulN_inv (vS_lt _) h0, mulN_one (invN_lt _)]
  have e1 : IntKind.i64.wrap ((n : Int) - 1) = (n : Int) - 1 := wrapI (by omega) (by omega)
  have e2 : IntKind.i64.wrap ((n : Int) - 1 - (m : Int)) = (i : Int) := by
   rw [show (n : Int) - 1 - (m : Int) = (i : Int) by omega]; exact wi64 (by omega)
  have e4 : IntKind.i64.wrap ((m : Int) + 1) = ((m + 1 : Nat) : Int) := by
   rw [show (m : Int) + 1 = ((m + 1 : Nat) : Int) by omega]; exact wi64 (by omega)
  show f130_2_st N (f130_2_lp N k1 f) k1 _ _ _ _ _ = _
  unfold f130_2_st
  rw [rows32 hx, hn, hlen]
  dsimp only
  rw [e1, e2, show mulE (Int.toNat (i : Int)) 32 = i * 32 from rfl, show List.take 32 (List.drop (i * 32) x) = elF x i from rfl, hget, o1, e4,
   decide_eq_true (show (m : Int) < (n : Int) by omega), decide_eq_true (show (0 : Int) ≤ (i : Int) by omega), decide_eq_true (show (i : Int) < (n : Int) by omega), okB_sN, okB_sN, vS_sN (prodS_lt x i), vS_sN (invN_lt _), s1, s2, hsp]
  simp only [Bool.and_self, cond_true]
  exact ih (m + 1) (by omega) f (by omega)
def I130 : (R : Type) → List DV → (List DV → Option R) → Option R := fun _ ds k => match ds with
 | [.lst (.one .u8) 32 x] => bif okF x then (match fz x (x.length / 32) 0 with
  | some m => k [.lst (.one .u8) 32 [], .v (.one (.int .i64 9)), .v (.one (.int .i64 (m : Int)))]
  | none => k [.lst (.one .u8) 32 (invS x), .v (.one (.int .i64 0)), .v (.one (.int .i64 0))]) else none
 | _ => none
theorem f130_num {R : Type} {x : List Int} (hx : okF x = true) (k : List DV → Option R) : f130_raw (x.length / 32 + 1) x k = (match fz x (x.length / 32) 0 with
  | some m => k [.lst (.one .u8) 32 [], .v (.one (.int .i64 9)), .v (.one (.int .i64 (m : Int)))]
  | none => k [.lst (.one .u8) 32 (invS x), .v (.one (.int .i64 0)), .v (.one (.int .i64 0))]) := by
 have hb := okF_n hx
 generalize hn : x.length / 32 = n at *
 unfold f130_raw
 rw [rows32 hx, hn]
 have h1 : (n : Int) ≤ 33554432 := by omega
 have h0 : (0 : Int) ≤ (n : Int) := by omega
 rw [decide_eq_true h0, decide_eq_true (Int.le_refl _), decide_eq_true (show (n : Int) ≤ 281474976710656 by omega), decide_eq_true (show (n : Int) * 32 ≤ 281474976710656 by omega)]
 simp only [Bool.and_self, cond_true]
 have hu := inv_up (n + 1) (fun w2 w1 => k [DV.lst (RK.one IntKind.u8) 32 [], DV.v (SV.one (At.int IntKind.i64 w2)), DV.v (SV.one (At.int IntKind.i64 w1))]) (fun w1_1 w1_2 w1_3 w1_4 w1_5 w1_6 => bif okB w1_5 then bif Decidable.decide (vS w1_5 = 0) then f130_2_lp (n + 1) (fun w2_1 w2_2 w2_3 w2_4 w2_5 w2_6 => k [DV.lst (RK.one IntKind.u8) 32 w2_6, DV.v (SV.one (At.int IntKind.i64 0)), DV.v (SV.one (At.int IntKind.i64 0))]) (n + 1) (nI (rowLen 32 w1_4)) 0 w1_4 (List.replicate 32 0) w1_6 else f130_2_lp (n + 1) (fun w3_1 w3_2 w3_3 w3_4 w3_5 w3_6 => k [DV.lst (RK.one IntKind.u8) 32 w3_6, DV.v (SV.one (At.int IntKind.i64 0)), DV.v (SV.one (At.int IntKind.i64 0))]) (n + 1) (nI (rowLen 32 w1_4)) 0 w1_4 (sN (invN (vS w1_5))) w1_6 else Option.none) hx hn n 0 (by omega) (n + 1) (by omega)
 refine Eq.trans hu ?_
 cases hf : fz x n 0 with
 | some m => rfl
 | none =>
  have hz : ∀ i, i < n → vS (elF x i) ≠ 0 := fun i hi => fz_none hf i (by omega) (by omega)
  dsimp only
  rw [okB_sN, cond_true, vS_sN (prodS_lt x n), decide_eq_false (prodS_ne hz n (Nat.le_refl _)), cond_false, rows32 hx, hn]
  have hd := inv_down (n + 1) (fun w3_1 w3_2 w3_3 w3_4 w3_5 w3_6 => k [DV.lst (RK.one IntKind.u8) 32 w3_6, DV.v (SV.one (At.int IntKind.i64 0)), DV.v (SV.one (At.int IntKind.i64 0))]) hx hn hz n 0 (by omega) (n + 1) (by omega)
  rw [show tailG (fun i => sN (invN (vS (elF x i)))) n 0 = [] from rfl, List.append_nil] at hd
  exact hd
theorem c130 : Contract Tryz.prog 130 { sig := S130, impl := I130 } := by
 refine Contract.refine fun R ds k r h => ?_
 unfold I130 at h
 split at h
 ·
  rename_i x
  refine ⟨_, f130_contract (x.length / 32 + 1) GX_ok, ?_⟩
  rcases hc : okF x with _ | _
  ·
   rw [hc] at h; cases h
  ·
   rw [hc, cond_true] at h
   rw [f130_raw_eq, f130_num hc]
   exact h
 ·
  exact (Option.some_ne_none _ h.symm).elim
def f176_0_sh : Shp := ⟨37, 1, [(0, .one (.fix (.own 0))), (3, .one (.fix (.own 9))), (4, .one (.int .i64))], [(0, .view (.one .u8) 1), (9, .row (.one .u32) 1)]⟩
def f176_0_ex1 : Shp := ⟨37, 1, [(13, .one .bool), (0, .one (.fix (.own 0))), (3, .one (.fix (.own 9))), (4, .one (.int .i64))], [(0, .view (.one .u8) 1), (9, .row (.one .u32) 1)]⟩
def f176_0_st {R : Type} (N : Nat) (self : Int → List Int → List Int → Option R) (k1 : Bool → Int → List Int → List Int → Option R) (x1 : Int) (x2 x3 : List Int) : Option R :=
 bif decide (x1 < nI (rowLen 1 x2)) then
 let v0 := IntKind.i64.wrap (x1.tdiv 4);
 bif decide (0 ≤ v0) && decide (v0 < nI (rowLen 1 x3)) then
 bif decide (0 ≤ x1) && decide (x1 < nI (rowLen 1 x2)) then
 let v1 := IntKind.i64.wrap (8 * x1.tmod 4);
 let v2 := IntKind.u64.wrap v1;
 bif decide (0 ≤ v2) then
 bif decide (0 ≤ v0) && decide (v0 < nI (rowLen 1 x3)) then
 let v3 := IntKind.i64.wrap (x1 + 1);
 let v4 := IntKind.u32.wrap (x2.getD (mulE x1.toNat 1) 0);
 let v5 := shlI .u32 v4 v2;
 let v6 := orI .u32 (x3.getD (mulE v0.toNat 1) 0) v5;
 let v7 : List Int := x3.set (mulE v0.toNat 1) v6;
 self v3 x2 v7
 else none
 else none
 else none
 else none
else k1 (decide (x1 < nI (rowLen 1 x2))) x1 x2 x3
def f176_0_lp {R : Type} (N : Nat) (k1 : Bool → Int → List Int → List Int → Option R) : Nat → Int → List Int → List Int → Option R
 | 0, _, _, _ => none
 | n + 1, x1, x2, x3 => f176_0_st N (f176_0_lp N k1 n) k1 x1 x2 x3
def f176_0_F (N : Nat) : (R : Type) → List Leaf → (X → AS → Option R) → Option R := fun _ ls K => match ls with
 | [.i x1, .l x2, .l x3] => f176_0_lp N (fun y1 y2 y3 y4 => K .normal (fill f176_0_ex1 [.b y1, .i y2, .l y3, .l y4])) N x1 x2 x3
 | _ => none
def f176_raw {R : Type} (N : Nat) (xs : List Int) (k : List DV → Option R) : Option R :=
 let v0 := IntKind.i64.wrap (nI (rowLen 1 xs) + 3);
let v1 := IntKind.i64.wrap (v0.tdiv 4);
bif decide (0 ≤ v1) && (decide (v1 ≤ v1) && (decide (v1 ≤ 281474976710656) && decide (v1 * 4 ≤ 281474976710656))) then f176_0_lp N (fun w2_1 w2_2 w2_3 w2_4 => k [.lst (.one .u32) 1 w2_4]) N 0 xs (zerosOf (mulE v1.toNat 1)) else none
def E176 (N : Nat) : Env := { Θ := Th, Γ := [], K := K176, ν := N176, fuel := 0, lp := [(0, mkL N176_0 f176_0_sh (f176_0_F N))] }
theorem f176_0_st_eq {R : Type} (N : Nat) (K : X → AS → Option R) (n : Nat) (x1 : Int) (x2 x3 : List Int) : roundsOf (E176 N) N176_0 0 B176_0 K (n + 1) (fill f176_0_sh [.i x1, .l x2, .l x3]) = f176_0_st N (fun x1 x2 x3 => roundsOf (E176 N) N176_0 0 B176_0 K n (fill f176_0_sh [.i x1, .l x2, .l x3])) (fun y1 y2 y3 y4 => K .normal (fill f176_0_ex1 [.b y1, .i y2, .l y3, .l y4])) x1 x2 x3 := by kernel_rfl
theorem f176_0_lp_eq {R : Type} (N : Nat) (K : X → AS → Option R) : ∀ (n : Nat) (x1 : Int) (x2 x3 : List Int), roundsOf (E176 N) N176_0 0 B176_0 K n (fill f176_0_sh [.i x1, .l x2, .l x3]) = f176_0_lp N (fun y1 y2 y3 y4 => K .normal (fill f176_0_ex1 [.b y1, .i y2, .l y3, .l y4])) n x1 x2 x3
 | 0, _, _, _ => rfl
 | n + 1, x1, x2, x3 => by
  rw [f176_0_st_eq, f176_0_lp, show (fun x1 x2 x3 => roundsOf (E176 N) N176_0 0 B176_0 K n (fill f176_0_sh [.i x1, .l x2, .l x3])) = f176_0_lp N (fun y1 y2 y3 y4 => K .normal (fill f176_0_ex1 [.b y1, .i y2, .l y3, .l y4])) n from by funext x1 x2 x3; exact f176_0_lp_eq N K n x1 x2 x3]
theorem f176_0_ok (N : Nat) (hlp : LoopsOk Tryz.prog (E176 N).lp B176_0) (hΓ : CtxOk Tryz.prog (E176 N).Γ) : LoopOk Tryz.prog (mkL N176_0 f176_0_sh (f176_0_F N)) 0 B176_0 := by
 refine loopOk_of (E := E176 N) thOk hΓ mixed hlp ?_
 intro R ls K r h
 unfold f176_0_F at h
 split at h
 ·
  exact ⟨N, by rw [f176_0_lp_eq]; exact h⟩
 ·
  cases h
theorem lok176_0 (N : Nat) (hΓ : CtxOk Tryz.prog []) : LoopOk Tryz.prog (mkL N176_0 f176_0_sh (f176_0_F N)) 0 B176_0 := f176_0_ok N (loopsOk_of (l := []) (by kernel_rfl) trivial) hΓ
theorem f176_contract (N : Nat) (hΓ : CtxOk Tryz.prog []) : Contract Tryz.prog 176 { sig := S176, impl := fun _ ds k => call (E176 N) S176 37 B176 R176 ds k } :=
 call_contract (E := E176 N) thOk hΓ mixed ok176.look ok176.body ok176.n ok176.rv ok176.name rfl (by decide) (loopsOk_of (l := [(0, B176_0)]) (by kernel_rfl) (allOk_cons (L := mkL N176_0 f176_0_sh (f176_0_F N)) rfl (lok176_0 N hΓ) trivial))
theorem f176_raw_eq {R : Type} (N : Nat) (xs : List Int) (k : List DV → Option R) : call (E176 N) S176 37 B176 R176 [.lst (.one .u8) 1 xs] k = f176_raw N xs k := by kernel_rfl
def f171_raw {R : Type} (N : Nat) (x : List Int) (k : List DV → Option R) : Option R :=
 let v0 := IntKind.i64.wrap (Int.tdiv 0 4);
let v1 := IntKind.i64.wrap (8 * Int.tmod 0 4);
let v2 := IntKind.u64.wrap v1;
let v3 := shrI .u32 (x.getD (mulE v0.toNat 1) 0) v2;
let v4 := IntKind.u8.wrap v3;
let v5 := (List.replicate 32 0).set (mulE (Int.toNat 0) 1) v4;
let v6 := IntKind.i64.wrap (0 + 1);
let v7 := IntKind.i64.wrap (v6.tdiv 4);
let v8 := IntKind.i64.wrap (8 * v6.tmod 4);
let v9 := IntKind.u64.wrap v8;
let v10 := shrI .u32 (x.getD (mulE v7.toNat 1) 0) v9;
let v11 := IntKind.u8.wrap v10;
let v12 := v5.set (mulE v6.toNat 1) v11;
let v13 := IntKind.i64.wrap (v6 + 1);
let v14 := IntKind.i64.wrap (v13.tdiv 4);
let v15 := IntKind.i64.wrap (8 * v13.tmod 4);
let v16 := IntKind.u64.wrap v15;
let v17 := shrI .u32 (x.getD (mulE v14.toNat 1) 0) v16;
let v18 := IntKind.u8.wrap v17;
let v19 := v12.set (mulE v13.toNat 1) v18;
let v20 := IntKind.i64.wrap (v13 + 1);
let v21 := IntKind.i64.wrap (v20.tdiv 4);
let v22 := IntKind.i64.wrap (8 * v20.tmod 4);
let v23 := IntKind.u64.wrap v22;
let v24 := shrI .u32 (x.getD (mulE v21.toNat 1) 0) v23;
let v25 := IntKind.u8.wrap v24;
let v26 := v19.set (mulE v20.toNat 1) v25;
let v27 := IntKind.i64.wrap (v20 + 1);
let v28 := IntKind.i64.wrap (v27.tdiv 4);
let v29 := IntKind.i64.wrap (8 * v27.tmod 4);
let v30 := IntKind.u64.wrap v29;
let v31 := shrI .u32 (x.getD (mulE v28.toNat 1) 0) v30;
let v32 := IntKind.u8.wrap v31;
let v33 := v26.set (mulE v27.toNat 1) v32;
let v34 := IntKind.i64.wrap (v27 + 1);
let v35 := IntKind.i64.wrap (v34.tdiv 4);
let v36 := IntKind.i64.wrap (8 * v34.tmod 4);
let v37 := IntKind.u64.wrap v36;
let v38 := shrI .u32 (x.getD (mulE v35.toNat 1) 0) v37;
let v39 := IntKind.u8.wrap v38;
let v40 := v33.set (mulE v34.toNat 1) v39;
let v41 := IntKind.i64.wrap (v34 + 1);
let v42 := IntKind.i64.wrap (v41.tdiv 4);
let v43 := IntKind.i64.wrap (8 * v41.tmod 4);
let v44 := IntKind.u64.wrap v43;
let v45 := shrI .u32 (x.getD (mulE v42.toNat 1) 0) v44;
let v46 := IntKind.u8.wrap v45;
let v47 := v40.set (mulE v41.toNat 1) v46;
let v48 := IntKind.i64.wrap (v41 + 1);
let v49 := IntKind.i64.wrap (v48.tdiv 4);
let v50 := IntKind.i64.wrap (8 * v48.tmod 4);
let v51 := IntKind.u64.wrap v50;
let v52 := shrI .u32 (x.getD (mulE v49.toNat 1) 0) v51;
let v53 := IntKind.u8.wrap v52;
let v54 := v47.set (mulE v48.toNat 1) v53;
let v55 := IntKind.i64.wrap (v48 + 1);
let v56 := IntKind.i64.wrap (v55.tdiv 4);
let v57 := IntKind.i64.wrap (8 * v55.tmod 4);
let v58 := IntKind.u64.wrap v57;
let v59 := shrI .u32 (x.getD (mulE v56.toNat 1) 0) v58;
let v60 := IntKind.u8.wrap v59;
let v61 := v54.set (mulE v55.toNat 1) v60;
let v62 := IntKind.i64.wrap (v55 + 1);
let v63 := IntKind.i64.wrap (v62.tdiv 4);
let v64 := IntKind.i64.wrap (8 * v62.tmod 4);
let v65 := IntKind.u64.wrap v64;
let v66 := shrI .u32 (x.getD (mulE v63.toNat 1) 0) v65;
let v67 := IntKind.u8.wrap v66;
let v68 := v61.set (mulE v62.toNat 1) v67;
let v69 := IntKind.i64.wrap (v62 + 1);
let v70 := IntKind.i64.wrap (v69.tdiv 4);
let v71 := IntKind.i64.wrap (8 * v69.tmod 4);
let v72 := IntKind.u64.wrap v71;
let v73 := shrI .u32 (x.getD (mulE v70.toNat 1) 0) v72;
let v74 := IntKind.u8.wrap v73;
let v75 := v68.set (mulE v69.toNat 1) v74;
let v76 := IntKind.i64.wrap (v69 + 1);
let v77 := IntKind.i64.wrap (v76.tdiv 4);
let v78 := IntKind.i64.wrap (8 * v76.tmod 4);
let v79 := IntKind.u64.wrap v78;
let v80 := shrI .u32 (x.getD (mulE v77.toNat 1) 0) v79;
let v81 := IntKind.u8.wrap v80;
let v82 := v75.set (mulE v76.toNat 1) v81;
let v83 := IntKind.i64.wrap (v76 + 1);
let v84 := IntKind.i64.wrap (v83.tdiv 4);
let v85 := IntKind.i64.wrap (8 * v83.tmod 4);
let v86 := IntKind.u64.wrap v85;
let v87 := shrI .u32 (x.getD (mulE v84.toNat 1) 0) v86;
let v88 := IntKind.u8.wrap v87;
let v89 := v82.set (mulE v83.toNat 1) v88;
let v90 := IntKind.i64.wrap (v83 + 1);
let v91 := IntKind.i64.wrap (v90.tdiv 4);
let v92 := IntKind.i64.wrap (8 * v90.tmod 4);
let v93 := IntKind.u64.wrap v92;
let v94 := shrI .u32 (x.getD (mulE v91.toNat 1) 0) v93;
let v95 := IntKind.u8.wrap v94;
let v96 := v89.set (mulE v90.toNat 1) v95;
let v97 := IntKind.i64.wrap (v90 + 1);
let v98 := IntKind.i64.wrap (v97.tdiv 4);
let v99 := IntKind.i64.wrap (8 * v97.tmod 4);
let v100 := IntKind.u64.wrap v99;
let v101 := shrI .u32 (x.getD (mulE v98.toNat 1) 0) v100;
let v102 := IntKind.u8.wrap v101;
let v103 := v96.set (mulE v97.toNat 1) v102;
let v104 := IntKind.i64.wrap (v97 + 1);
let v105 := IntKind.i64.wrap (v104.tdiv 4);
let v106 := IntKind.i64.wrap (8 * v104.tmod 4);
let v107 := IntKind.u64.wrap v106;
let v108 := shrI .u32 (x.getD (mulE v105.toNat 1) 0) v107;
let v109 := IntKind.u8.wrap v108;
let v110 := v103.set (mulE v104.toNat 1) v109;
let v111 := IntKind.i64.wrap (v104 + 1);
let v112 := IntKind.i64.wrap (v111.tdiv 4);
let v113 := IntKind.i64.wrap (8 * v111.tmod 4);
let v114 := IntKind.u64.wrap v113;
let v115 := shrI .u32 (x.getD (mulE v112.toNat 1) 0) v114;
let v116 := IntKind.u8.wrap v115;
let v117 := v110.set (mulE v111.toNat 1) v116;
let v118 := IntKind.i64.wrap (v111 + 1);
let v119 := IntKind.i64.wrap (v118.tdiv 4);
let v120 := IntKind.i64.wrap (8 * v118.tmod 4);
let v121 := IntKind.u64.wrap v120;
let v122 := shrI .u32 (x.getD (mulE v119.toNat 1) 0) v121;
let v123 := IntKind.u8.wrap v122;
let v124 := v117.set (mulE v118.toNat 1) v123;
let v125 := IntKind.i64.wrap (v118 + 1);
let v126 := IntKind.i64.wrap (v125.tdiv 4);
let v127 := IntKind.i64.wrap (8 * v125.tmod 4);
let v128 := IntKind.u64.wrap v127;
let v129 := shrI .u32 (x.getD (mulE v126.toNat 1) 0) v128;
let v130 := IntKind.u8.wrap v129;
let v131 := v124.set (mulE v125.toNat 1) v130;
let v132 := IntKind.i64.wrap (v125 + 1);
let v133 := IntKind.i64.wrap (v132.tdiv 4);
let v134 := IntKind.i64.wrap (8 * v132.tmod 4);
let v135 := IntKind.u64.wrap v134;
let v136 := shrI .u32 (x.getD (mulE v133.toNat 1) 0) v135;
let v137 := IntKind.u8.wrap v136;
let v138 := v131.set (mulE v132.toNat 1) v137;
let v139 := IntKind.i64.wrap (v132 + 1);
let v140 := IntKind.i64.wrap (v139.tdiv 4);
let v141 := IntKind.i64.wrap (8 * v139.tmod 4);
let v142 := IntKind.u64.wrap v141;
let v143 := shrI .u32 (x.getD (mulE v140.toNat 1) 0) v142;
let v144 := IntKind.u8.wrap v143;
let v145 := v138.set (mulE v139.toNat 1) v144;
let v146 := IntKind.i64.wrap (v139 + 1);
let v147 := IntKind.i64.wrap (v146.tdiv 4);
let v148 := IntKind.i64.wrap (8 * v146.tmod 4);
let v149 := IntKind.u64.wrap v148;
let v150 := shrI .u32 (x.getD (mulE v147.toNat 1) 0) v149;
let v151 := IntKind.u8.wrap v150;
let v152 := v145.set (mulE v146.toNat 1) v151;
let v153 := IntKind.i64.wrap (v146 + 1);
let v154 := IntKind.i64.wrap (v153.tdiv 4);
let v155 := IntKind.i64.wrap (8 * v153.tmod 4);
let v156 := IntKind.u64.wrap v155;
let v157 := shrI .u32 (x.getD (mulE v154.toNat 1) 0) v156;
let v158 := IntKind.u8.wrap v157;
let v159 := v152.set (mulE v153.toNat 1) v158;
let v160 := IntKind.i64.wrap (v153 + 1);
let v161 := IntKind.i64.wrap (v160.tdiv 4);
let v162 := IntKind.i64.wrap (8 * v160.tmod 4);
let v163 := IntKind.u64.wrap v162;
let v164 := shrI .u32 (x.getD (mulE v161.toNat 1) 0) v163;
let v165 := IntKind.u8.wrap v164;
let v166 := v159.set (mulE v160.toNat 1) v165;
let v167 := IntKind.i64.wrap (v160 + 1);
let v168 := IntKind.i64.wrap (v167.tdiv 4);
let v169 := IntKind.i64.wrap (8 * v167.tmod 4);
let v170 := IntKind.u64.wrap v169;
let v171 := shrI .u32 (x.getD (mulE v168.toNat 1) 0) v170;
let v172 := IntKind.u8.wrap v171;
let v173 := v166.set (mulE v167.toNat 1) v172;
let v174 := IntKind.i64.wrap (v167 + 1);
let v175 := IntKind.i64.wrap (v174.tdiv 4);
let v176 := IntKind.i64.wrap (8 * v174.tmod 4);
let v177 := IntKind.u64.wrap v176;
let v178 := shrI .u32 (x.getD (mulE v175.toNat 1) 0) v177;
let v179 := IntKind.u8.wrap v178;
let v180 := v173.set (mulE v174.toNat 1) v179;
let v181 := IntKind.i64.wrap (v174 + 1);
let v182 := IntKind.i64.wrap (v181.tdiv 4);
let v183 := IntKind.i64.wrap (8 * v181.tmod 4);
let v184 := IntKind.u64.wrap v183;
let v185 := shrI .u32 (x.getD (mulE v182.toNat 1) 0) v184;
let v186 := IntKind.u8.wrap v185;
let v187 := v180.set (mulE v181.toNat 1) v186;
let v188 := IntKind.i64.wrap (v181 + 1);
let v189 := IntKind.i64.wrap (v188.tdiv 4);
let v190 := IntKind.i64.wrap (8 * v188.tmod 4);
let v191 := IntKind.u64.wrap v190;
let v192 := shrI .u32 (x.getD (mulE v189.toNat 1) 0) v191;
let v193 := IntKind.u8.wrap v192;
let v194 := v187.set (mulE v188.toNat 1) v193;
let v195 := IntKind.i64.wrap (v188 + 1);
let v196 := IntKind.i64.wrap (v195.tdiv 4);
let v197 := IntKind.i64.wrap (8 * v195.tmod 4);
let v198 := IntKind.u64.wrap v197;
let v199 := shrI .u32 (x.getD (mulE v196.toNat 1) 0) v198;
let v200 := IntKind.u8.wrap v199;
let v201 := v194.set (mulE v195.toNat 1) v200;
let v202 := IntKind.i64.wrap (v195 + 1);
let v203 := IntKind.i64.wrap (v202.tdiv 4);
let v204 := IntKind.i64.wrap (8 * v202.tmod 4);
let v205 := IntKind.u64.wrap v204;
let v206 := shrI .u32 (x.getD (mulE v203.toNat 1) 0) v205;
let v207 := IntKind.u8.wrap v206;
let v208 := v201.set (mulE v202.toNat 1) v207;
let v209 := IntKind.i64.wrap (v202 + 1);
let v210 := IntKind.i64.wrap (v209.tdiv 4);
let v211 := IntKind.i64.wrap (8 * v209.tmod 4);
let v212 := IntKind.u64.wrap v211;
let v213 := shrI .u32 (x.getD (mulE v210.toNat 1) 0) v212;
let v214 := IntKind.u8.wrap v213;
let v215 := v208.set (mulE v209.toNat 1) v214;
let v216 := IntKind.i64.wrap (v209 + 1);
let v217 := IntKind.i64.wrap (v216.tdiv 4);
let v218 := IntKind.i64.wrap (8 * v216.tmod 4);
let v219 := IntKind.u64.wrap v218;
let v220 := shrI .u32 (x.getD (mulE v217.toNat 1) 0) v219;
let v221 := IntKind.u8.wrap v220;
let v222 := v215.set (mulE v216.toNat 1) v221;
k [.v (.one (.ints .u8 32 v222))]
def E171 (N : Nat) : Env := { Θ := Th, Γ := [], K := K171, ν := N171, fuel := 60, lp := [] }
theorem f171_contract (N : Nat) (hΓ : CtxOk Tryz.prog []) : Contract Tryz.prog 171 { sig := S171, impl := fun _ ds k => call (E171 N) S171 22 B171 R171 ds k } :=
 call_contract (E := E171 N) thOk hΓ mixed ok171.look ok171.body ok171.n ok171.rv ok171.name rfl (by decide) (loopsOk_of (l := [(0, B171_0)]) (by kernel_rfl) (allOk_skip rfl trivial))
theorem f171_raw_eq {R : Type} (N : Nat) (x : List Int) (k : List DV → Option R) : call (E171 N) S171 22 B171 R171 [.v (.one (.ints .u32 8 x))] k = f171_raw N x k := by kernel_rfl
def f120_raw {R : Type} (N : Nat) (x : Int) (k : List DV → Option R) : Option R :=
 let v0 := IntKind.i64.wrap (8 * 0);
let v1 := IntKind.u64.wrap v0;
let v2 := shrI .u64 x v1;
let v3 := IntKind.u8.wrap v2;
let v4 := (List.replicate 32 0).set (mulE (Int.toNat 0) 1) v3;
let v5 := IntKind.i64.wrap (0 + 1);
let v6 := IntKind.i64.wrap (8 * v5);
let v7 := IntKind.u64.wrap v6;
let v8 := shrI .u64 x v7;
let v9 := IntKind.u8.wrap v8;
let v10 := v4.set (mulE v5.toNat 1) v9;
let v11 := IntKind.i64.wrap (v5 + 1);
let v12 := IntKind.i64.wrap (8 * v11);
let v13 := IntKind.u64.wrap v12;
let v14 := shrI .u64 x v13;
let v15 := IntKind.u8.wrap v14;
let v16 := v10.set (mulE v11.toNat 1) v15;
let v17 := IntKind.i64.wrap (v11 + 1);
let v18 := IntKind.i64.wrap (8 * v17);
let v19 := IntKind.u64.wrap v18;
let v20 := shrI .u64 x v19;
let v21 := IntKind.u8.wrap v20;
let v22 := v16.set (mulE v17.toNat 1) v21;
let v23 := IntKind.i64.wrap (v17 + 1);
let v24 := IntKind.i64.wrap (8 * v23);
let v25 := IntKind.u64.wrap v24;
let v26 := shrI .u64 x v25;
let v27 := IntKind.u8.wrap v26;
let v28 := v22.set (mulE v23.toNat 1) v27;
let v29 := IntKind.i64.wrap (v23 + 1);
let v30 := IntKind.i64.wrap (8 * v29);
let v31 := IntKind.u64.wrap v30;
let v32 := shrI .u64 x v31;
let v33 := IntKind.u8.wrap v32;
let v34 := v28.set (mulE v29.toNat 1) v33;
let v35 := IntKind.i64.wrap (v29 + 1);
let v36 := IntKind.i64.wrap (8 * v35);
let v37 := IntKind.u64.wrap v36;
let v38 := shrI .u64 x v37;
let v39 := IntKind.u8.wrap v38;
let v40 := v34.set (mulE v35.toNat 1) v39;
let v41 := IntKind.i64.wrap (v35 + 1);
let v42 := IntKind.i64.wrap (8 * v41);
let v43 := IntKind.u64.wrap v42;
let v44 := shrI .u64 x v43;
let v45 := IntKind.u8.wrap v44;
let v46 := v40.set (mulE v41.toNat 1) v45;
k [.v (.one (.ints .u8 32 v46))]
def E120 (N : Nat) : Env := { Θ := Th, Γ := [], K := K120, ν := N120, fuel := 60, lp := [] }
theorem f120_contract (N : Nat) (hΓ : CtxOk Tryz.prog []) : Contract Tryz.prog 120 { sig := S120, impl := fun _ ds k => call (E120 N) S120 18 B120 R120 ds k } :=
 call_contract (E := E120 N) thOk hΓ mixed ok120.look ok120.body ok120.n ok120.rv ok120.name rfl (by decide) (loopsOk_of (l := [(0, B120_0)]) (by kernel_rfl) (allOk_skip rfl trivial))
theorem f120_raw_eq {R : Type} (N : Nat) (x : Int) (k : List DV → Option R) : call (E120 N) S120 18 B120 R120 [.v (.one (.int .u64 x))] k = f120_raw N x k := by kernel_rfl
def f175_raw {R : Type} (N : Nat)  (k : List DV → Option R) : Option R :=
 let v0 : List Int := (List.replicate 8 0).set 0 1559614445;
let v1 := v0.set 1 1477600026;
let v2 := v1.set 2 2734136534;
let v3 := v2.set 3 350157278;
let v4 := v3.set 4 0;
let v5 := v4.set 5 0;
let v6 := v5.set 6 0;
let v7 := v6.set 7 268435456;
k [.v (.one (.ints .u32 8 v7))]
def E175 (N : Nat) : Env := { Θ := Th, Γ := [], K := K175, ν := N175, fuel := 40, lp := [] }
theorem f175_contract (N : Nat) (hΓ : CtxOk Tryz.prog []) : Contract Tryz.prog 175 { sig := S175, impl := fun _ ds k => call (E175 N) S175 2 B175 R175 ds k } :=
 call_contract (E := E175 N) thOk hΓ mixed ok175.look ok175.body ok175.n ok175.rv ok175.name rfl (by decide) (loopsOk_of (l := []) (by kernel_rfl) trivial)
theorem f175_raw_eq {R : Type} (N : Nat)  (k : List DV → Option R) : call (E175 N) S175 2 B175 R175 [] k = f175_raw N  k := by kernel_rfl
def f188_raw {R : Type} (N : Nat) (x : List Int) (y : Int) (k : List DV → Option R) : Option R :=
 let v0 := shlI .u32 (x.getD (mulE (Int.toNat 0) 1) 0) 1;
let v1 := orI .u32 v0 y;
let v2 : List Int := x.set (mulE (Int.toNat 0) 1) v1;
let v3 := IntKind.i64.wrap (0 + 1);
let v4 := shlI .u32 (v2.getD (mulE v3.toNat 1) 0) 1;
let v5 := shrI .u32 (x.getD (mulE (Int.toNat 0) 1) 0) 31;
let v6 := orI .u32 v4 v5;
let v7 := v2.set (mulE v3.toNat 1) v6;
let v8 := IntKind.i64.wrap (v3 + 1);
let v9 := shlI .u32 (v7.getD (mulE v8.toNat 1) 0) 1;
let v10 := shrI .u32 (v2.getD (mulE v3.toNat 1) 0) 31;
let v11 := orI .u32 v9 v10;
let v12 := v7.set (mulE v8.toNat 1) v11;
let v13 := IntKind.i64.wrap (v8 + 1);
let v14 := shlI .u32 (v12.getD (mulE v13.toNat 1) 0) 1;
let v15 := shrI .u32 (v7.getD (mulE v8.toNat 1) 0) 31;
let v16 := orI .u32 v14 v15;
let v17 := v12.set (mulE v13.toNat 1) v16;
let v18 := IntKind.i64.wrap (v13 + 1);
let v19 := shlI .u32 (v17.getD (mulE v18.toNat 1) 0) 1;
let v20 := shrI .u32 (v12.getD (mulE v13.toNat 1) 0) 31;
let v21 := orI .u32 v19 v20;
let v22 := v17.set (mulE v18.toNat 1) v21;
let v23 := IntKind.i64.wrap (v18 + 1);
let v24 := shlI .u32 (v22.getD (mulE v23.toNat 1) 0) 1;
let v25 := shrI .u32 (v17.getD (mulE v18.toNat 1) 0) 31;
let v26 := orI .u32 v24 v25;
let v27 := v22.set (mulE v23.toNat 1) v26;
let v28 := IntKind.i64.wrap (v23 + 1);
let v29 := shlI .u32 (v27.getD (mulE v28.toNat 1) 0) 1;
let v30 := shrI .u32 (v22.getD (mulE v23.toNat 1) 0) 31;
let v31 := orI .u32 v29 v30;
let v32 := v27.set (mulE v28.toNat 1) v31;
let v33 := IntKind.i64.wrap (v28 + 1);
let v34 := shlI .u32 (v32.getD (mulE v33.toNat 1) 0) 1;
let v35 := shrI .u32 (v27.getD (mulE v28.toNat 1) 0) 31;
let v36 := orI .u32 v34 v35;
let v37 := v32.set (mulE v33.toNat 1) v36;
k [.v (.one (.ints .u32 8 v37))]
def E188 (N : Nat) : Env := { Θ := Th, Γ := [], K := K188, ν := N188, fuel := 40, lp := [] }
theorem f188_contract (N : Nat) (hΓ : CtxOk Tryz.prog []) : Contract Tryz.prog 188 { sig := S188, impl := fun _ ds k => call (E188 N) S188 25 B188 R188 ds k } :=
 call_contract (E := E188 N) thOk hΓ mixed ok188.look ok188.body ok188.n ok188.rv ok188.name rfl (by decide) (loopsOk_of (l := [(0, B188_0)]) (by kernel_rfl) (allOk_skip rfl trivial))
theorem f188_raw_eq {R : Type} (N : Nat) (x : List Int) (y : Int) (k : List DV → Option R) : call (E188 N) S188 25 B188 R188 [.v (.one (.ints .u32 8 x)), .v (.one (.int .u32 y))] k = f188_raw N x y k := by kernel_rfl
def f189_raw {R : Type} (N : Nat) (x y : List Int) (k : List DV → Option R) : Option R :=
 bif x.getD (mulE (Int.toNat 7) 1) 0 != y.getD (mulE (Int.toNat 7) 1) 0 then k [.v (.one (.bool (decide (x.getD (mulE (Int.toNat 7) 1) 0 < y.getD (mulE (Int.toNat 7) 1) 0))))]
else
 let v0 := IntKind.i64.wrap (7 - 1);
 bif x.getD (mulE v0.toNat 1) 0 != y.getD (mulE v0.toNat 1) 0 then k [.v (.one (.bool (decide (x.getD (mulE v0.toNat 1) 0 < y.getD (mulE v0.toNat 1) 0))))]
 else
 let v1 := IntKind.i64.wrap (v0 - 1);
 bif x.getD (mulE v1.toNat 1) 0 != y.getD (mulE v1.toNat 1) 0 then k [.v (.one (.bool (decide (x.getD (mulE v1.toNat 1) 0 < y.getD (mulE v1.toNat 1) 0))))]
 else
 let v2 := IntKind.i64.wrap (v1 - 1);
 bif x.getD (mulE v2.toNat 1) 0 != y.getD (mulE v2.toNat 1) 0 then k [.v (.one (.bool (decide (x.getD (mulE v2.toNat 1) 0 < y.getD (mulE v2.toNat 1) 0))))]
 else
 let v3 := IntKind.i64.wrap (v2 - 1);
 bif x.getD (mulE v3.toNat 1) 0 != y.getD (mulE v3.toNat 1) 0 then k [.v (.one (.bool (decide (x.getD (mulE v3.toNat 1) 0 < y.getD (mulE v3.toNat 1) 0))))]
 else
 let v4 := IntKind.i64.wrap (v3 - 1);
 bif x.getD (mulE v4.toNat 1) 0 != y.getD (mulE v4.toNat 1) 0 then k [.v (.one (.bool (decide (x.getD (mulE v4.toNat 1) 0 < y.getD (mulE v4.toNat 1) 0))))]
 else
 let v5 := IntKind.i64.wrap (v4 - 1);
 bif x.getD (mulE v5.toNat 1) 0 != y.getD (mulE v5.toNat 1) 0 then k [.v (.one (.bool (decide (x.getD (mulE v5.toNat 1) 0 < y.getD (mulE v5.toNat 1) 0))))]
 else
 let v6 := IntKind.i64.wrap (v5 - 1);
 bif x.getD (mulE v6.toNat 1) 0 != y.getD (mulE v6.toNat 1) 0 then k [.v (.one (.bool (decide (x.getD (mulE v6.toNat 1) 0 < y.getD (mulE v6.toNat 1) 0))))] else k [.v (.one (.bool false))]
def E189 (N : Nat) : Env := { Θ := Th, Γ := [], K := K189, ν := N189, fuel := 40, lp := [] }
theorem f189_contract (N : Nat) (hΓ : CtxOk Tryz.prog []) : Contract Tryz.prog 189 { sig := S189, impl := fun _ ds k => call (E189 N) S189 24 B189 R189 ds k } :=
 call_contract (E := E189 N) thOk hΓ mixed ok189.look ok189.body ok189.n ok189.rv ok189.name rfl (by decide) (loopsOk_of (l := [(0, B189_0)]) (by kernel_rfl) (allOk_skip rfl trivial))
theorem f189_raw_eq {R : Type} (N : Nat) (x y : List Int) (k : List DV → Option R) : call (E189 N) S189 24 B189 R189 [.v (.one (.ints .u32 8 x)), .v (.one (.ints .u32 8 y))] k = f189_raw N x y k := by kernel_rfl
def f174_raw {R : Type} (N : Nat) (x y : List Int) (k : List DV → Option R) : Option R :=
 let v0 := IntKind.u64.wrap (x.getD (mulE (Int.toNat 0) 1) 0);
let v1 := IntKind.u64.wrap (y.getD (mulE (Int.toNat 0) 1) 0);
let v2 := IntKind.u64.wrap (v0 - v1);
let v3 := IntKind.u64.wrap (v2 - 0);
let v4 := IntKind.u32.wrap v3;
let v5 : List Int := x.set (mulE (Int.toNat 0) 1) v4;
let v6 := IntKind.i64.wrap (0 + 1);
let v7 := IntKind.u64.wrap (v5.getD (mulE v6.toNat 1) 0);
let v8 := IntKind.u64.wrap (y.getD (mulE v6.toNat 1) 0);
let v9 := IntKind.u64.wrap (v7 - v8);
let v10 := shrI .u64 v3 63;
let v11 := IntKind.u64.wrap (v9 - v10);
let v12 := IntKind.u32.wrap v11;
let v13 := v5.set (mulE v6.toNat 1) v12;
let v14 := IntKind.i64.wrap (v6 + 1);
let v15 := IntKind.u64.wrap (v13.getD (mulE v14.toNat 1) 0);
let v16 := IntKind.u64.wrap (y.getD (mulE v14.toNat 1) 0);
let v17 := IntKind.u64.wrap (v15 - v16);
let v18 := shrI .u64 v11 63;
let v19 := IntKind.u64.wrap (v17 - v18);
let v20 := IntKind.u32.wrap v19;
let v21 := v13.set (mulE v14.toNat 1) v20;
let v22 := IntKind.i64.wrap (v14 + 1);
let v23 := IntKind.u64.wrap (v21.getD (mulE v22.toNat 1) 0);
let v24 := IntKind.u64.wrap (y.getD (mulE v22.toNat 1) 0);
let v25 := IntKind.u64.wrap (v23 - v24);
let v26 := shrI .u64 v19 63;
let v27 := IntKind.u64.wrap (v25 - v26);
let v28 := IntKind.u32.wrap v27;
let v29 := v21.set (mulE v22.toNat 1) v28;
let v30 := IntKind.i64.wrap (v22 + 1);
let v31 := IntKind.u64.wrap (v29.getD (mulE v30.toNat 1) 0);
let v32 := IntKind.u64.wrap (y.getD (mulE v30.toNat 1) 0);
let v33 := IntKind.u64.wrap (v31 - v32);
let v34 := shrI .u64 v27 63;
let v35 := IntKind.u64.wrap (v33 - v34);
let v36 := IntKind.u32.wrap v35;
let v37 := v29.set (mulE v30.toNat 1) v36;
let v38 := IntKind.i64.wrap (v30 + 1);
let v39 := IntKind.u64.wrap (v37.getD (mulE v38.toNat 1) 0);
let v40 := IntKind.u64.wrap (y.getD (mulE v38.toNat 1) 0);
let v41 := IntKind.u64.wrap (v39 - v40);
let v42 := shrI .u64 v35 63;
let v43 := IntKind.u64.wrap (v41 - v42);
let v44 := IntKind.u32.wrap v43;
let v45 := v37.set (mulE v38.toNat 1) v44;
let v46 := IntKind.i64.wrap (v38 + 1);
let v47 := IntKind.u64.wrap (v45.getD (mulE v46.toNat 1) 0);
let v48 := IntKind.u64.wrap (y.getD (mulE v46.toNat 1) 0);
let v49 := IntKind.u64.wrap (v47 - v48);
let v50 := shrI .u64 v43 63;
let v51 := IntKind.u64.wrap (v49 - v50);
let v52 := IntKind.u32.wrap v51;
let v53 := v45.set (mulE v46.toNat 1) v52;
let v54 := IntKind.i64.wrap (v46 + 1);
let v55 := IntKind.u64.wrap (v53.getD (mulE v54.toNat 1) 0);
let v56 := IntKind.u64.wrap (y.getD (mulE v54.toNat 1) 0);
let v57 := IntKind.u64.wrap (v55 - v56);
let v58 := shrI .u64 v51 63;
let v59 := IntKind.u64.wrap (v57 - v58);
let v60 := IntKind.u32.wrap v59;
let v61 := v53.set (mulE v54.toNat 1) v60;
k [.v (.one (.ints .u32 8 v61))]
def E174 (N : Nat) : Env := { Θ := Th, Γ := [], K := K174, ν := N174, fuel := 40, lp := [] }
theorem f174_contract (N : Nat) (hΓ : CtxOk Tryz.prog []) : Contract Tryz.prog 174 { sig := S174, impl := fun _ ds k => call (E174 N) S174 30 B174 R174 ds k } :=
 call_contract (E := E174 N) thOk hΓ mixed ok174.look ok174.body ok174.n ok174.rv ok174.name rfl (by decide) (loopsOk_of (l := [(0, B174_0)]) (by kernel_rfl) (allOk_skip rfl trivial))
theorem f174_raw_eq {R : Type} (N : Nat) (x y : List Int) (k : List DV → Option R) : call (E174 N) S174 30 B174 R174 [.v (.one (.ints .u32 8 x)), .v (.one (.ints .u32 8 y))] k = f174_raw N x y k := by kernel_rfl
end
end Go.Proofs.YtogcijgklnfjjaaGreat
