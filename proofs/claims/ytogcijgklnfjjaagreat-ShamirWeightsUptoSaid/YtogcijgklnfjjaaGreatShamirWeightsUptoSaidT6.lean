/- ShamirWeights: for any identifiers, identifier and place whose data stay within 1,048,576: Lagrange and Weights answer as the document. -/
import Derived.Test.YtogcijgklnfjjaaGreatShamirWeightsUptoSaidT5
import Derived.WalkKit
import Derived.ProofKit
import Derived.JoinedCond
set_option linter.unusedVariables false
set_option linter.unusedSimpArgs false

namespace Go.Proofs.YtogcijgklnfjjaaGreat
noncomputable section
open Go Go.Eng
set_option maxRecDepth 100000
set_option linter.unusedVariables false
def f7_raw {R : Type} (N : Nat) (ids : List Int) (d : Int) (x : List Int) (k : List DV → Option R) : Option R :=
 let v0 := IntKind.i64.wrap (nI (rowLen 1 ids) + 3);
bif decide (0 ≤ v0) && (decide (v0 ≤ v0) && (decide (v0 ≤ 281474976710656) && decide (v0 * 8 ≤ 281474976710656))) then
 bif decide (0 = 0) && (zerosOf (mulE v0.toNat 1)).length.ble 1073741823 then
 bif decide (0 = 0) && (ids.length.ble 1073741823 && ids.length.ble (mkI (zerosOf (mulE v0.toNat 1)).length).length) then
 bif (rowLen 1 (overG ids (mkI (zerosOf (mulE v0.toNat 1)).length)) * 8).ble big48 && (rowLen 1 (overG ids (mkI (zerosOf (mulE v0.toNat 1)).length))).ble big48 then
 bif hiOk (some (nI (rowLen 1 ids))) (rowLen 1 (overG ids (mkI (zerosOf (mulE v0.toNat 1)).length))) then
 let v1 := Go.Eng.sub (overG ids (mkI (zerosOf (mulE v0.toNat 1)).length)) .z (mulE (Go.Eng.subN (hiNat (some (nI (rowLen 1 ids))) (rowLen 1 (overG ids (mkI (zerosOf (mulE v0.toNat 1)).length)))) none) 1);
 bif v1.length.ble 1073741823 && okB x then
 bif decide (idsN v1 = 0) then
 bif decide (idxE v1 d v1.length 0 < 0) then
 bif ids.length.ble 1073741823 && okB x then
 bif decide (idsN ids = 0) then
 bif decide (idxE ids d ids.length 0 < 0) then
 bif decide (0 ≤ v0) && (decide (v0 ≤ v0) && (decide (v0 ≤ 281474976710656) && decide (v0 * 8 ≤ 281474976710656))) then
 bif decide (0 = 0) && (zerosOf (mulE v0.toNat 1)).length.ble 1073741823 then
 bif decide (0 = 0) && (ids.length.ble 1073741823 && ids.length.ble (mkI (zerosOf (mulE v0.toNat 1)).length).length) then
 bif (rowLen 1 (overG ids (mkI (zerosOf (mulE v0.toNat 1)).length)) * 8).ble big48 && (rowLen 1 (overG ids (mkI (zerosOf (mulE v0.toNat 1)).length))).ble big48 then
 bif hiOk (some (nI (rowLen 1 ids))) (rowLen 1 (overG ids (mkI (zerosOf (mulE v0.toNat 1)).length))) then
 bif v1.length.ble 1073741823 then
 bif decide (idsN v1 = 0) then
 bif ids.length.ble 1073741823 then
 bif decide (idsN ids = 0) then
 bif decide (zS = zS) then
 bif okF (arrN (basG (plF v1) 0 v1.length) v1.length) && okF (arrN (basG (plF ids) 0 ids.length) ids.length) then
 let v2 : Bool := bif true then decide (arrN (basG (plF v1) 0 v1.length) v1.length = arrN (basG (plF ids) 0 ids.length) ids.length) else false;
 bif v2 then
 bif decide (overG ids (mkI (zerosOf (mulE v0.toNat 1)).length) = overG ids (mkI (zerosOf (mulE v0.toNat 1)).length)) && (overG ids (mkI (zerosOf (mulE v0.toNat 1)).length)).length.ble 1073741823 then
 bif decide (overG ids (mkI (zerosOf (mulE v0.toNat 1)).length) = overG ids (mkI (zerosOf (mulE v0.toNat 1)).length)) && (overG ids (mkI (zerosOf (mulE v0.toNat 1)).length)).length.ble 1073741823 then
 let v3 : Bool := bif true then true else false;
 k [.v (.one (.bool v3))]
 else none
 else none
 else none
 else none
 else none
 else
 bif decide (zS = zS) then
 bif okF (arrN (basG (plF v1) 0 v1.length) v1.length) && okF [] then
 let v4 : Bool := bif true then decide (arrN (basG (plF v1) 0 v1.length) v1.length = []) else false;
 bif v4 then
 let v5 : Bool := bif true then 0 == idsN ids else false;
 bif v5 then
 bif decide (overG ids (mkI (zerosOf (mulE v0.toNat 1)).length) = overG ids (mkI (zerosOf (mulE v0.toNat 1)).length)) && (overG ids (mkI (zerosOf (mulE v0.toNat 1)).length)).length.ble 1073741823 then
 bif decide (overG ids (mkI (zerosOf (mulE v0.toNat 1)).length) = overG ids (mkI (zerosOf (mulE v0.toNat 1)).length)) && (overG ids (mkI (zerosOf (mulE v0.toNat 1)).length)).length.ble 1073741823 then
 let v6 : Bool := bif true then true else false;
 k [.v (.one (.bool v6))]
 else none
 else none
 else none
 else none
 else none
 else none
 else none
 else
 bif ids.length.ble 1073741823 then
 bif decide (idsN ids = 0) then
 bif decide (zS = zS) then
 bif okF [] && okF (arrN (basG (plF ids) 0 ids.length) ids.length) then
 let v7 : Bool := bif true then decide ([] = arrN (basG (plF ids) 0 ids.length) ids.length) else false;
 bif v7 then
 let v8 : Bool := bif true then idsN v1 == 0 else false;
 bif v8 then
 bif decide (overG ids (mkI (zerosOf (mulE v0.toNat 1)).length) = overG ids (mkI (zerosOf (mulE v0.toNat 1)).length)) && (overG ids (mkI (zerosOf (mulE v0.toNat 1)).length)).length.ble 1073741823 then
 bif decide (overG ids (mkI (zerosOf (mulE v0.toNat 1)).length) = overG ids (mkI (zerosOf (mulE v0.toNat 1)).length)) && (overG ids (mkI (zerosOf (mulE v0.toNat 1)).length)).length.ble 1073741823 then
 let v9 : Bool := bif true then true else false;
 k [.v (.one (.bool v9))]
 else none
 else none
 else none
 else none
 else none
 else none
 else
 bif decide (zS = zS) then
 let v10 : Bool := bif true then idsN v1 == idsN ids else false;
 bif v10 then
 bif decide (overG ids (mkI (zerosOf (mulE v0.toNat 1)).length) = overG ids (mkI (zerosOf (mulE v0.toNat 1)).length)) && (overG ids (mkI (zerosOf (mulE v0.toNat 1)).length)).length.ble 1073741823 then
 bif decide (overG ids (mkI (zerosOf (mulE v0.toNat 1)).length) = overG ids (mkI (zerosOf (mulE v0.toNat 1)).length)) && (overG ids (mkI (zerosOf (mulE v0.toNat 1)).length)).length.ble 1073741823 then
 let v11 : Bool := bif true then true else false;
 k [.v (.one (.bool v11))]
 else none
 else none
 else none
 else none
 else none
 else none
 else none
 else none
 else none
 else none
 else none
 else bif decide (0 ≤ v0) && (decide (v0 ≤ v0) && (decide (v0 ≤ 281474976710656) && decide (v0 * 8 ≤ 281474976710656))) then bif decide (0 = 0) && (zerosOf (mulE v0.toNat 1)).length.ble 1073741823 then bif decide (0 = 0) && (ids.length.ble 1073741823 && ids.length.ble (mkI (zerosOf (mulE v0.toNat 1)).length).length) then bif (rowLen 1 (overG ids (mkI (zerosOf (mulE v0.toNat 1)).length)) * 8).ble big48 && (rowLen 1 (overG ids (mkI (zerosOf (mulE v0.toNat 1)).length))).ble big48 then bif hiOk (some (nI (rowLen 1 ids))) (rowLen 1 (overG ids (mkI (zerosOf (mulE v0.toNat 1)).length))) then bif v1.length.ble 1073741823 then bif decide (idsN v1 = 0) then bif ids.length.ble 1073741823 then bif decide (idsN ids = 0) then bif decide (zS = sN (basG (plF ids) (vS x) ids.length (idxE ids d ids.length 0).toNat)) then none else none else bif decide (zS = sN (basG (plF ids) (vS x) ids.length (idxE ids d ids.length 0).toNat)) then none else none else none else bif ids.length.ble 1073741823 then bif decide (idsN ids = 0) then bif decide (zS = sN (basG (plF ids) (vS x) ids.length (idxE ids d ids.length 0).toNat)) then none else none else bif decide (zS = sN (basG (plF ids) (vS x) ids.length (idxE ids d ids.length 0).toNat)) then none else none else none else none else none else none else none else none else none
 else
 bif decide (0 ≤ v0) && (decide (v0 ≤ v0) && (decide (v0 ≤ 281474976710656) && decide (v0 * 8 ≤ 281474976710656))) then
 bif decide (0 = 0) && (zerosOf (mulE v0.toNat 1)).length.ble 1073741823 then
 bif decide (0 = 0) && (ids.length.ble 1073741823 && ids.length.ble (mkI (zerosOf (mulE v0.toNat 1)).length).length) then
 bif (rowLen 1 (overG ids (mkI (zerosOf (mulE v0.toNat 1)).length)) * 8).ble big48 && (rowLen 1 (overG ids (mkI (zerosOf (mulE v0.toNat 1)).length))).ble big48 then
 bif hiOk (some (nI (rowLen 1 ids))) (rowLen 1 (overG ids (mkI (zerosOf (mulE v0.toNat 1)).length))) then
 bif v1.length.ble 1073741823 then
 bif decide (idsN v1 = 0) then
 bif ids.length.ble 1073741823 then
 bif decide (idsN ids = 0) then
 bif decide (zS = zS) then
 let v12 : Bool := bif true then 92 == idsN ids else false;
 bif v12 then
 bif okF (arrN (basG (plF v1) 0 v1.length) v1.length) && okF (arrN (basG (plF ids) 0 ids.length) ids.length) then
 let v13 : Bool := bif true then decide (arrN (basG (plF v1) 0 v1.length) v1.length = arrN (basG (plF ids) 0 ids.length) ids.length) else false;
 bif v13 then
 bif decide (overG ids (mkI (zerosOf (mulE v0.toNat 1)).length) = overG ids (mkI (zerosOf (mulE v0.toNat 1)).length)) && (overG ids (mkI (zerosOf (mulE v0.toNat 1)).length)).length.ble 1073741823 then
 bif decide (overG ids (mkI (zerosOf (mulE v0.toNat 1)).length) = overG ids (mkI (zerosOf (mulE v0.toNat 1)).length)) && (overG ids (mkI (zerosOf (mulE v0.toNat 1)).length)).length.ble 1073741823 then
 let v14 : Bool := bif true then true else false;
 k [.v (.one (.bool v14))]
 else none
 else none
 else none
 else none
 else none
 else none
 else
 bif decide (zS = zS) then
 let v15 : Bool := bif true then 92 == idsN ids else false;
 bif v15 then
 bif okF (arrN (basG (plF v1) 0 v1.length) v1.length) && okF [] then
 let v16 : Bool := bif true then decide (arrN (basG (plF v1) 0 v1.length) v1.length = []) else false;
 bif v16 then
 let v17 : Bool := bif true then 0 == idsN ids else false;
 bif v17 then
 bif decide (overG ids (mkI (zerosOf (mulE v0.toNat 1)).length) = overG ids (mkI (zerosOf (mulE v0.toNat 1)).length)) && (overG ids (mkI (zerosOf (mulE v0.toNat 1)).length)).length.ble 1073741823 then
 bif decide (overG ids (mkI (zerosOf (mulE v0.toNat 1)).length) = overG ids (mkI (zerosOf (mulE v0.toNat 1)).length)) && (overG ids (mkI (zerosOf (mulE v0.toNat 1)).length)).length.ble 1073741823 then
 let v18 : Bool := bif true then true else false;
 k [.v (.one (.bool v18))]
 else none
 else none
 else none
 else none
 else none
 else none
 else none
 else none
 else
 bif ids.length.ble 1073741823 then
 bif decide (idsN ids = 0) then
 bif decide (zS = zS) then
 let v19 : Bool := bif true then 92 == idsN ids else false;
 bif v19 then
 bif okF [] && okF (arrN (basG (plF ids) 0 ids.length) ids.length) then
 let v20 : Bool := bif true then decide ([] = arrN (basG (plF ids) 0 ids.length) ids.length) else false;
 bif v20 then
 let v21 : Bool := bif true then idsN v1 == 0 else false;
 bif v21 then
 bif decide (overG ids (mkI (zerosOf (mulE v0.toNat 1)).length) = overG ids (mkI (zerosOf (mulE v0.toNat 1)).length)) && (overG ids (mkI (zerosOf (mulE v0.toNat 1)).length)).length.ble 1073741823 then
 bif decide (overG ids (mkI (zerosOf (mulE v0.toNat 1)).length) = overG ids (mkI (zerosOf (mulE v0.toNat 1)).length)) && (overG ids (mkI (zerosOf (mulE v0.toNat 1)).length)).length.ble 1073741823 then
 let v22 : Bool := bif true then true else false;
 k [.v (.one (.bool v22))]
 else none
 else none
 else none
 else none
 else none
 else none
 else none
 else
 bif decide (zS = zS) then
 let v23 : Bool := bif true then 92 == idsN ids else false;
 bif v23 then
 let v24 : Bool := bif true then idsN v1 == idsN ids else false;
 bif v24 then
 bif decide (overG ids (mkI (zerosOf (mulE v0.toNat 1)).length) = overG ids (mkI (zerosOf (mulE v0.toNat 1)).length)) && (overG ids (mkI (zerosOf (mulE v0.toNat 1)).length)).length.ble 1073741823 then
 bif decide (overG ids (mkI (zerosOf (mulE v0.toNat 1)).length) = overG ids (mkI (zerosOf (mulE v0.toNat 1)).length)) && (overG ids (mkI (zerosOf (mulE v0.toNat 1)).length)).length.ble 1073741823 then
 let v25 : Bool := bif true then true else false;
 k [.v (.one (.bool v25))]
 else none
 else none
 else none
 else none
 else none
 else none
 else none
 else none
 else none
 else none
 else none
 else none
 else none
 else
 bif ids.length.ble 1073741823 && okB x then
 bif decide (idsN ids = 0) then
 bif decide (idxE ids d ids.length 0 < 0) then bif decide (0 ≤ v0) && (decide (v0 ≤ v0) && (decide (v0 ≤ 281474976710656) && decide (v0 * 8 ≤ 281474976710656))) then bif decide (0 = 0) && (zerosOf (mulE v0.toNat 1)).length.ble 1073741823 then bif decide (0 = 0) && (ids.length.ble 1073741823 && ids.length.ble (mkI (zerosOf (mulE v0.toNat 1)).length).length) then bif (rowLen 1 (overG ids (mkI (zerosOf (mulE v0.toNat 1)).length)) * 8).ble big48 && (rowLen 1 (overG ids (mkI (zerosOf (mulE v0.toNat 1)).length))).ble big48 then bif hiOk (some (nI (rowLen 1 ids))) (rowLen 1 (overG ids (mkI (zerosOf (mulE v0.toNat 1)).length))) then bif v1.length.ble 1073741823 then bif decide (idsN v1 = 0) then bif ids.length.ble 1073741823 then bif decide (idsN ids = 0) then bif decide (sN (basG (plF v1) (vS x) v1.length (idxE v1 d v1.length 0).toNat) = zS) then none else none else bif decide (sN (basG (plF v1) (vS x) v1.length (idxE v1 d v1.length 0).toNat) = zS) then none else none else none else bif ids.length.ble 1073741823 then bif decide (idsN ids = 0) then bif decide (sN (basG (plF v1) (vS x) v1.length (idxE v1 d v1.length 0).toNat) = zS) then none else none else bif decide (sN (basG (plF v1) (vS x) v1.length (idxE v1 d v1.length 0).toNat) = zS) then none else none else none else none else none else none else none else none else none
 else
 bif decide (0 ≤ v0) && (decide (v0 ≤ v0) && (decide (v0 ≤ 281474976710656) && decide (v0 * 8 ≤ 281474976710656))) then
 bif decide (0 = 0) && (zerosOf (mulE v0.toNat 1)).length.ble 1073741823 then
 bif decide (0 = 0) && (ids.length.ble 1073741823 && ids.length.ble (mkI (zerosOf (mulE v0.toNat 1)).length).length) then
 bif (rowLen 1 (overG ids (mkI (zerosOf (mulE v0.toNat 1)).length)) * 8).ble big48 && (rowLen 1 (overG ids (mkI (zerosOf (mulE v0.toNat 1)).length))).ble big48 then
 bif hiOk (some (nI (rowLen 1 ids))) (rowLen 1 (overG ids (mkI (zerosOf (mulE v0.toNat 1)).length))) then
 bif v1.length.ble 1073741823 then
 bif decide (idsN v1 = 0) then
 bif ids.length.ble 1073741823 then
 bif decide (idsN ids = 0) then
 bif decide (sN (basG (plF v1) (vS x) v1.length (idxE v1 d v1.length 0).toNat) = sN (basG (plF ids) (vS x) ids.length (idxE ids d ids.length 0).toNat)) then
 bif okF (arrN (basG (plF v1) 0 v1.length) v1.length) && okF (arrN (basG (plF ids) 0 ids.length) ids.length) then
 let v26 : Bool := bif true then decide (arrN (basG (plF v1) 0 v1.length) v1.length = arrN (basG (plF ids) 0 ids.length) ids.length) else false;
 bif v26 then
 bif decide (overG ids (mkI (zerosOf (mulE v0.toNat 1)).length) = overG ids (mkI (zerosOf (mulE v0.toNat 1)).length)) && (overG ids (mkI (zerosOf (mulE v0.toNat 1)).length)).length.ble 1073741823 then
 bif decide (overG ids (mkI (zerosOf (mulE v0.toNat 1)).length) = overG ids (mkI (zerosOf (mulE v0.toNat 1)).length)) && (overG ids (mkI (zerosOf (mulE v0.toNat 1)).length)).length.ble 1073741823 then
 let v27 : Bool := bif true then true else false;
 k [.v (.one (.bool v27))]
 else none
 else none
 else none
 else none
 else none
 else
 bif decide (sN (basG (plF v1) (vS x) v1.length (idxE v1 d v1.length 0).toNat) = sN (basG (plF ids) (vS x) ids.length (idxE ids d ids.length 0).toNat)) then
 bif okF (arrN (basG (plF v1) 0 v1.length) v1.length) && okF [] then
 let v28 : Bool := bif true then decide (arrN (basG (plF v1) 0 v1.length) v1.length = []) else false;
 bif v28 then
 let v29 : Bool := bif true then 0 == idsN ids else false;
 bif v29 then
 bif decide (overG ids (mkI (zerosOf (mulE v0.toNat 1)).length) = overG ids (mkI (zerosOf (mulE v0.toNat 1)).length)) && (overG ids (mkI (zerosOf (mulE v0.toNat 1)).length)).length.ble 1073741823 then
 bif decide (overG ids (mkI (zerosOf (mulE v0.toNat 1)).length) = overG ids (mkI (zerosOf (mulE v0.toNat 1)).length)) && (overG ids (mkI (zerosOf (mulE v0.toNat 1)).length)).length.ble 1073741823 then
 let v30 : Bool := bif true then true else false;
 k [.v (.one (.bool v30))]
 else none
 else none
 else none
 else none
 else none
 else none
 else none
 else
 bif ids.length.ble 1073741823 then
 bif decide (idsN ids = 0) then
 bif decide (sN (basG (plF v1) (vS x) v1.length (idxE v1 d v1.length 0).toNat) = sN (basG (plF ids) (vS x) ids.length (idxE ids d ids.length 0).toNat)) then
 bif okF [] && okF (arrN (basG (plF ids) 0 ids.length) ids.length) then
 let v31 : Bool := bif true then decide ([] = arrN (basG (plF ids) 0 ids.length) ids.length) else false;
 bif v31 then
 let v32 : Bool := bif true then idsN v1 == 0 else false;
 bif v32 then
 bif decide (overG ids (mkI (zerosOf (mulE v0.toNat 1)).length) = overG ids (mkI (zerosOf (mulE v0.toNat 1)).length)) && (overG ids (mkI (zerosOf (mulE v0.toNat 1)).length)).length.ble 1073741823 then
 bif decide (overG ids (mkI (zerosOf (mulE v0.toNat 1)).length) = overG ids (mkI (zerosOf (mulE v0.toNat 1)).length)) && (overG ids (mkI (zerosOf (mulE v0.toNat 1)).length)).length.ble 1073741823 then
 let v33 : Bool := bif true then true else false;
 k [.v (.one (.bool v33))]
 else none
 else none
 else none
 else none
 else none
 else none
 else
 bif decide (sN (basG (plF v1) (vS x) v1.length (idxE v1 d v1.length 0).toNat) = sN (basG (plF ids) (vS x) ids.length (idxE ids d ids.length 0).toNat)) then
 let v34 : Bool := bif true then idsN v1 == idsN ids else false;
 bif v34 then
 bif decide (overG ids (mkI (zerosOf (mulE v0.toNat 1)).length) = overG ids (mkI (zerosOf (mulE v0.toNat 1)).length)) && (overG ids (mkI (zerosOf (mulE v0.toNat 1)).length)).length.ble 1073741823 then
 bif decide (overG ids (mkI (zerosOf (mulE v0.toNat 1)).length) = overG ids (mkI (zerosOf (mulE v0.toNat 1)).length)) && (overG ids (mkI (zerosOf (mulE v0.toNat 1)).length)).length.ble 1073741823 then
 let v35 : Bool := bif true then true else false;
 k [.v (.one (.bool v35))]
 else none
 else none
 else none
 else none
 else none
 else none
 else none
 else none
 else none
 else none
 else none
 else
 bif decide (0 ≤ v0) && (decide (v0 ≤ v0) && (decide (v0 ≤ 281474976710656) && decide (v0 * 8 ≤ 281474976710656))) then
 bif decide (0 = 0) && (zerosOf (mulE v0.toNat 1)).length.ble 1073741823 then
 bif decide (0 = 0) && (ids.length.ble 1073741823 && ids.length.ble (mkI (zerosOf (mulE v0.toNat 1)).length).length) then
 bif (rowLen 1 (overG ids (mkI (zerosOf (mulE v0.toNat 1)).length)) * 8).ble big48 && (rowLen 1 (overG ids (mkI (zerosOf (mulE v0.toNat 1)).length))).ble big48 then
 bif hiOk (some (nI (rowLen 1 ids))) (rowLen 1 (overG ids (mkI (zerosOf (mulE v0.toNat 1)).length))) then
 bif v1.length.ble 1073741823 then
 bif decide (idsN v1 = 0) then
 bif ids.length.ble 1073741823 then
 bif decide (idsN ids = 0) then
 bif decide (sN (basG (plF v1) (vS x) v1.length (idxE v1 d v1.length 0).toNat) = zS) then
 let v36 : Bool := bif true then 0 == idsN ids else false;
 bif v36 then
 bif okF (arrN (basG (plF v1) 0 v1.length) v1.length) && okF (arrN (basG (plF ids) 0 ids.length) ids.length) then
 let v37 : Bool := bif true then decide (arrN (basG (plF v1) 0 v1.length) v1.length = arrN (basG (plF ids) 0 ids.length) ids.length) else false;
 bif v37 then
 bif decide (overG ids (mkI (zerosOf (mulE v0.toNat 1)).length) = overG ids (mkI (zerosOf (mulE v0.toNat 1)).length)) && (overG ids (mkI (zerosOf (mulE v0.toNat 1)).length)).length.ble 1073741823 then
 bif decide (overG ids (mkI (zerosOf (mulE v0.toNat 1)).length) = overG ids (mkI (zerosOf (mulE v0.toNat 1)).length)) && (overG ids (mkI (zerosOf (mulE v0.toNat 1)).length)).length.ble 1073741823 then
 let v38 : Bool := bif true then true else false;
 k [.v (.one (.bool v38))]
 else none
 else none
 else none
 else none
 else none
 else none
 else
 bif decide (sN (basG (plF v1) (vS x) v1.length (idxE v1 d v1.length 0).toNat) = zS) then
 let v39 : Bool := bif true then 0 == idsN ids else false;
 bif v39 then
 bif okF (arrN (basG (plF v1) 0 v1.length) v1.length) && okF [] then
 let v40 : Bool := bif true then decide (arrN (basG (plF v1) 0 v1.length) v1.length = []) else false;
 bif v40 then
 bif v39 then
 bif decide (overG ids (mkI (zerosOf (mulE v0.toNat 1)).length) = overG ids (mkI (zerosOf (mulE v0.toNat 1)).length)) && (overG ids (mkI (zerosOf (mulE v0.toNat 1)).length)).length.ble 1073741823 then
 bif decide (overG ids (mkI (zerosOf (mulE v0.toNat 1)).length) = overG ids (mkI (zerosOf (mulE v0.toNat 1)).length)) && (overG ids (mkI (zerosOf (mulE v0.toNat 1)).length)).length.ble 1073741823 then
 let v41 : Bool := bif true then true else false;
 k [.v (.one (.bool v41))]
 else none
 else none
 else none
 else none
 else none
 else none
 else none
 else none
 else
 bif ids.length.ble 1073741823 then
 bif decide (idsN ids = 0) then
 bif decide (sN (basG (plF v1) (vS x) v1.length (idxE v1 d v1.length 0).toNat) = zS) then
 let v42 : Bool := bif true then 0 == idsN ids else false;
 bif v42 then
 bif okF [] && okF (arrN (basG (plF ids) 0 ids.length) ids.length) then
 let v43 : Bool := bif true then decide ([] = arrN (basG (plF ids) 0 ids.length) ids.length) else false;
 bif v43 then
 let v44 : Bool := bif true then idsN v1 == 0 else false;
 bif v44 then
 bif decide (overG ids (mkI (zerosOf (mulE v0.toNat 1)).length) = overG ids (mkI (zerosOf (mulE v0.toNat 1)).length)) && (overG ids (mkI (zerosOf (mulE v0.toNat 1)).length)).length.ble 1073741823 then
 bif decide (overG ids (mkI (zerosOf (mulE v0.toNat 1)).length) = overG ids (mkI (zerosOf (mulE v0.toNat 1)).length)) && (overG ids (mkI (zerosOf (mulE v0.toNat 1)).length)).length.ble 1073741823 then
 let v45 : Bool := bif true then true else false;
 k [.v (.one (.bool v45))]
 else none
 else none
 else none
 else none
 else none
 else none
 else none
 else
 bif decide (sN (basG (plF v1) (vS x) v1.length (idxE v1 d v1.length 0).toNat) = zS) then
 let v46 : Bool := bif true then 0 == idsN ids else false;
 bif v46 then
 let v47 : Bool := bif true then idsN v1 == idsN ids else false;
 bif v47 then
 bif decide (overG ids (mkI (zerosOf (mulE v0.toNat 1)).length) = overG ids (mkI (zerosOf (mulE v0.toNat 1)).length)) && (overG ids (mkI (zerosOf (mulE v0.toNat 1)).length)).length.ble 1073741823 then
 bif decide (overG ids (mkI (zerosOf (mulE v0.toNat 1)).length) = overG ids (mkI (zerosOf (mulE v0.toNat 1)).length)) && (overG ids (mkI (zerosOf (mulE v0.toNat 1)).length)).length.ble 1073741823 then
 let v48 : Bool := bif true then true else false;
 k [.v (.one (.bool v48))]
 else none
 else none
 else none
 else none
 else none
 else none
 else none
 else none
 else none
 else none
 else none
 else none
 else none
 else
 bif ids.length.ble 1073741823 && okB x then
 bif decide (idsN ids = 0) then
 bif decide (idxE ids d ids.length 0 < 0) then
 bif decide (0 ≤ v0) && (decide (v0 ≤ v0) && (decide (v0 ≤ 281474976710656) && decide (v0 * 8 ≤ 281474976710656))) then
 bif decide (0 = 0) && (zerosOf (mulE v0.toNat 1)).length.ble 1073741823 then
 bif decide (0 = 0) && (ids.length.ble 1073741823 && ids.length.ble (mkI (zerosOf (mulE v0.toNat 1)).length).length) then
 bif (rowLen 1 (overG ids (mkI (zerosOf (mulE v0.toNat 1)).length)) * 8).ble big48 && (rowLen 1 (overG ids (mkI (zerosOf (mulE v0.toNat 1)).length))).ble big48 then
 bif hiOk (some (nI (rowLen 1 ids))) (rowLen 1 (overG ids (mkI (zerosOf (mulE v0.toNat 1)).length))) then
 bif v1.length.ble 1073741823 then
 bif decide (idsN v1 = 0) then
 bif ids.length.ble 1073741823 then
 bif decide (idsN ids = 0) then
 bif decide (zS = zS) then
 let v49 : Bool := bif true then idsN v1 == 92 else false;
 bif v49 then
 bif okF (arrN (basG (plF v1) 0 v1.length) v1.length) && okF (arrN (basG (plF ids) 0 ids.length) ids.length) then
 let v50 : Bool := bif true then decide (arrN (basG (plF v1) 0 v1.length) v1.length = arrN (basG (plF ids) 0 ids.length) ids.length) else false;
 bif v50 then
 bif decide (overG ids (mkI (zerosOf (mulE v0.toNat 1)).length) = overG ids (mkI (zerosOf (mulE v0.toNat 1)).length)) && (overG ids (mkI (zerosOf (mulE v0.toNat 1)).length)).length.ble 1073741823 then
 bif decide (overG ids (mkI (zerosOf (mulE v0.toNat 1)).length) = overG ids (mkI (zerosOf (mulE v0.toNat 1)).length)) && (overG ids (mkI (zerosOf (mulE v0.toNat 1)).length)).length.ble 1073741823 then
 let v51 : Bool := bif true then true else false;
 k [.v (.one (.bool v51))]
 else none
 else none
 else none
 else none
 else none
 else none
 else
 bif decide (zS = zS) then
 let v52 : Bool := bif true then idsN v1 == 92 else false;
 bif v52 then
 bif okF (arrN (basG (plF v1) 0 v1.length) v1.length) && okF [] then
 let v53 : Bool := bif true then decide (arrN (basG (plF v1) 0 v1.length) v1.length = []) else false;
 bif v53 then
 let v54 : Bool := bif true then 0 == idsN ids else false;
 bif v54 then
 bif decide (overG ids (mkI (zerosOf (mulE v0.toNat 1)).length) = overG ids (mkI (zerosOf (mulE v0.toNat 1)).length)) && (overG ids (mkI (zerosOf (mulE v0.toNat 1)).length)).length.ble 1073741823 then
 bif decide (overG ids (mkI (zerosOf (mulE v0.toNat 1)).length) = overG ids (mkI (zerosOf (mulE v0.toNat 1)).length)) && (overG ids (mkI (zerosOf (mulE v0.toNat 1)).length)).length.ble 1073741823 then
 let v55 : Bool := bif true then true else false;
 k [.v (.one (.bool v55))]
 else none
 else none
 else none
 else none
 else none
 else none
 else none
 else none
 else
 bif ids.length.ble 1073741823 then
 bif decide (idsN ids = 0) then
 bif decide (zS = zS) then
 let v56 : Bool := bif true then idsN v1 == 92 else false;
 bif v56 then
 bif okF [] && okF (arrN (basG (plF ids) 0 ids.length) ids.length) then
 let v57 : Bool := bif true then decide ([] = arrN (basG (plF ids) 0 ids.length) ids.length) else false;
 bif v57 then
 let v58 : Bool := bif true then idsN v1 == 0 else false;
 bif v58 then
 bif decide (overG ids (mkI (zerosOf (mulE v0.toNat 1)).length) = overG ids (mkI (zerosOf (mulE v0.toNat 1)).length)) && (overG ids (mkI (zerosOf (mulE v0.toNat 1)).length)).length.ble 1073741823 then
 bif decide (overG ids (mkI (zerosOf (mulE v0.toNat 1)).length) = overG ids (mkI (zerosOf (mulE v0.toNat 1)).length)) && (overG ids (mkI (zerosOf (mulE v0.toNat 1)).length)).length.ble 1073741823 then
 let v59 : Bool := bif true then true else false;
 k [.v (.one (.bool v59))]
 else none
 else none
 else none
 else none
 else none
 else none
 else none
 else
 bif decide (zS = zS) then
 let v60 : Bool := bif true then idsN v1 == 92 else false;
 bif v60 then
 let v61 : Bool := bif true then idsN v1 == idsN ids else false;
 bif v61 then
 bif decide (overG ids (mkI (zerosOf (mulE v0.toNat 1)).length) = overG ids (mkI (zerosOf (mulE v0.toNat 1)).length)) && (overG ids (mkI (zerosOf (mulE v0.toNat 1)).length)).length.ble 1073741823 then
 bif decide (overG ids (mkI (zerosOf (mulE v0.toNat 1)).length) = overG ids (mkI (zerosOf (mulE v0.toNat 1)).length)) && (overG ids (mkI (zerosOf (mulE v0.toNat 1)).length)).length.ble 1073741823 then
 let v62 : Bool := bif true then true else false;
 k [.v (.one (.bool v62))]
 else none
 else none
 else none
 else none
 else none
 else none
 else none
 else none
 else none
 else none
 else none
 else none
 else
 bif decide (0 ≤ v0) && (decide (v0 ≤ v0) && (decide (v0 ≤ 281474976710656) && decide (v0 * 8 ≤ 281474976710656))) then
 bif decide (0 = 0) && (zerosOf (mulE v0.toNat 1)).length.ble 1073741823 then
 bif decide (0 = 0) && (ids.length.ble 1073741823 && ids.length.ble (mkI (zerosOf (mulE v0.toNat 1)).length).length) then
 bif (rowLen 1 (overG ids (mkI (zerosOf (mulE v0.toNat 1)).length)) * 8).ble big48 && (rowLen 1 (overG ids (mkI (zerosOf (mulE v0.toNat 1)).length))).ble big48 then
 bif hiOk (some (nI (rowLen 1 ids))) (rowLen 1 (overG ids (mkI (zerosOf (mulE v0.toNat 1)).length))) then
 bif v1.length.ble 1073741823 then
 bif decide (idsN v1 = 0) then
 bif ids.length.ble 1073741823 then
 bif decide (idsN ids = 0) then
 bif decide (zS = sN (basG (plF ids) (vS x) ids.length (idxE ids d ids.length 0).toNat)) then
 let v63 : Bool := bif true then idsN v1 == 0 else false;
 bif v63 then
 bif okF (arrN (basG (plF v1) 0 v1.length) v1.length) && okF (arrN (basG (plF ids) 0 ids.length) ids.length) then
 let v64 : Bool := bif true then decide (arrN (basG (plF v1) 0 v1.length) v1.length = arrN (basG (plF ids) 0 ids.length) ids.length) else false;
 bif v64 then
 bif decide (overG ids (mkI (zerosOf (mulE v0.toNat 1)).length) = overG ids (mkI (zerosOf (mulE v0.toNat 1)).length)) && (overG ids (mkI (zerosOf (mulE v0.toNat 1)).length)).length.ble 1073741823 then
 bif decide (overG ids (mkI (zerosOf (mulE v0.toNat 1)).length) = overG ids (mkI (zerosOf (mulE v0.toNat 1)).length)) && (overG ids (mkI (zerosOf (mulE v0.toNat 1)).length)).length.ble 1073741823 then
 let v65 : Bool := bif true then true else false;
 k [.v (.one (.bool v65))]
 else none
 else none
 else none
 else none
 else none
 else none
 else
 bif decide (zS = sN (basG (plF ids) (vS x) ids.length (idxE ids d ids.length 0).toNat)) then
 let v66 : Bool := bif true then idsN v1 == 0 else false;
 bif v66 then
 bif okF (arrN (basG (plF v1) 0 v1.length) v1.length) && okF [] then
 let v67 : Bool := bif true then decide (arrN (basG (plF v1) 0 v1.length) v1.length = []) else false;
 bif v67 then
 let v68 : Bool := bif true then 0 == idsN ids else false;
 bif v68 then
 bif decide (overG ids (mkI (zerosOf (mulE v0.toNat 1)).length) = overG ids (mkI (zerosOf (mulE v0.toNat 1)).length)) && (overG ids (mkI (zerosOf (mulE v0.toNat 1)).length)).length.ble 1073741823 then
 bif decide (overG ids (mkI (zerosOf (mulE v0.toNat 1)).length) = overG ids (mkI (zerosOf (mulE v0.toNat 1)).length)) && (overG ids (mkI (zerosOf (mulE v0.toNat 1)).length)).length.ble 1073741823 then
 let v69 : Bool := bif true then true else false;
 k [.v (.one (.bool v69))]
 else none
 else none
 else none
 else none
 else none
 else none
 else none
 else none
 else
 bif ids.length.ble 1073741823 then
 bif decide (idsN ids = 0) then
 bif decide (zS = sN (basG (plF ids) (vS x) ids.length (idxE ids d ids.length 0).toNat)) then
 let v70 : Bool := bif true then idsN v1 == 0 else false;
 bif v70 then
 bif okF [] && okF (arrN (basG (plF ids) 0 ids.length) ids.length) then
 let v71 : Bool := bif true then decide ([] = arrN (basG (plF ids) 0 ids.length) ids.length) else false;
 bif v71 then
 bif v70 then
 bif decide (overG ids (mkI (zerosOf (mulE v0.toNat 1)).length) = overG ids (mkI (zerosOf (mulE v0.toNat 1)).length)) && (overG ids (mkI (zerosOf (mulE v0.toNat 1)).length)).length.ble 1073741823 then
 bif decide (overG ids (mkI (zerosOf (mulE v0.toNat 1)).length) = overG ids (mkI (zerosOf (mulE v0.toNat 1)).length)) && (overG ids (mkI (zerosOf (mulE v0.toNat 1)).length)).length.ble 1073741823 then
 let v72 : Bool := bif true then true else false;
 k [.v (.one (.bool v72))]
 else none
 else none
 else none
 else none
 else none
 else none
 else none
 else
 bif decide (zS = sN (basG (plF ids) (vS x) ids.length (idxE ids d ids.length 0).toNat)) then
 let v73 : Bool := bif true then idsN v1 == 0 else false;
 bif v73 then
 let v74 : Bool := bif true then idsN v1 == idsN ids else false;
 bif v74 then
 bif decide (overG ids (mkI (zerosOf (mulE v0.toNat 1)).length) = overG ids (mkI (zerosOf (mulE v0.toNat 1)).length)) && (overG ids (mkI (zerosOf (mulE v0.toNat 1)).length)).length.ble 1073741823 then
 bif decide (overG ids (mkI (zerosOf (mulE v0.toNat 1)).length) = overG ids (mkI (zerosOf (mulE v0.toNat 1)).length)) && (overG ids (mkI (zerosOf (mulE v0.toNat 1)).length)).length.ble 1073741823 then
 let v75 : Bool := bif true then true else false;
 k [.v (.one (.bool v75))]
 else none
 else none
 else none
 else none
 else none
 else none
 else none
 else none
 else none
 else none
 else none
 else none
 else
 bif decide (0 ≤ v0) && (decide (v0 ≤ v0) && (decide (v0 ≤ 281474976710656) && decide (v0 * 8 ≤ 281474976710656))) then
 bif decide (0 = 0) && (zerosOf (mulE v0.toNat 1)).length.ble 1073741823 then
 bif decide (0 = 0) && (ids.length.ble 1073741823 && ids.length.ble (mkI (zerosOf (mulE v0.toNat 1)).length).length) then
 bif (rowLen 1 (overG ids (mkI (zerosOf (mulE v0.toNat 1)).length)) * 8).ble big48 && (rowLen 1 (overG ids (mkI (zerosOf (mulE v0.toNat 1)).length))).ble big48 then
 bif hiOk (some (nI (rowLen 1 ids))) (rowLen 1 (overG ids (mkI (zerosOf (mulE v0.toNat 1)).length))) then
 bif v1.length.ble 1073741823 then
 bif decide (idsN v1 = 0) then
 bif ids.length.ble 1073741823 then
 bif decide (idsN ids = 0) then
 bif decide (zS = zS) then
 let v76 : Bool := bif true then idsN v1 == idsN ids else false;
 bif v76 then
 bif okF (arrN (basG (plF v1) 0 v1.length) v1.length) && okF (arrN (basG (plF ids) 0 ids.length) ids.length) then
 let v77 : Bool := bif true then decide (arrN (basG (plF v1) 0 v1.length) v1.length = arrN (basG (plF ids) 0 ids.length) ids.length) else false;
 bif v77 then
 bif decide (overG ids (mkI (zerosOf (mulE v0.toNat 1)).length) = overG ids (mkI (zerosOf (mulE v0.toNat 1)).length)) && (overG ids (mkI (zerosOf (mulE v0.toNat 1)).length)).length.ble 1073741823 then
 bif decide (overG ids (mkI (zerosOf (mulE v0.toNat 1)).length) = overG ids (mkI (zerosOf (mulE v0.toNat 1)).length)) && (overG ids (mkI (zerosOf (mulE v0.toNat 1)).length)).length.ble 1073741823 then
 let v78 : Bool := bif true then true else false;
 k [.v (.one (.bool v78))]
 else none
 else none
 else none
 else none
 else none
 else none
 else
 bif decide (zS = zS) then
 let v79 : Bool := bif true then idsN v1 == idsN ids else false;
 bif v79 then
 bif okF (arrN (basG (plF v1) 0 v1.length) v1.length) && okF [] then
 let v80 : Bool := bif true then decide (arrN (basG (plF v1) 0 v1.length) v1.length = []) else false;
 bif v80 then
 let v81 : Bool := bif true then 0 == idsN ids else false;
 bif v81 then
 bif decide (overG ids (mkI (zerosOf (mulE v0.toNat 1)).length) = overG ids (mkI (zerosOf (mulE v0.toNat 1)).length)) && (overG ids (mkI (zerosOf (mulE v0.toNat 1)).length)).length.ble 1073741823 then
 bif decide (overG ids (mkI (zerosOf (mulE v0.toNat 1)).length) = overG ids (mkI (zerosOf (mulE v0.toNat 1)).length)) && (overG ids (mkI (zerosOf (mulE v0.toNat 1)).length)).length.ble 1073741823 then
 let v82 : Bool := bif true then true else false;
 k [.v (.one (.bool v82))]
 else none
 else none
 else none
 else none
 else none
 else none
 else none
 else none
 else
 bif ids.length.ble 1073741823 then
 bif decide (idsN ids = 0) then
 bif decide (zS = zS) then
 let v83 : Bool := bif true then idsN v1 == idsN ids else false;
 bif v83 then
 bif okF [] && okF (arrN (basG (plF ids) 0 ids.length) ids.length) then
 let v84 : Bool := bif true then decide ([] = arrN (basG (plF ids) 0 ids.length) ids.length) else false;
 bif v84 then
 let v85 : Bool := bif true then idsN v1 == 0 else false;
 bif v85 then
 bif decide (overG ids (mkI (zerosOf (mulE v0.toNat 1)).length) = overG ids (mkI (zerosOf (mulE v0.toNat 1)).length)) && (overG ids (mkI (zerosOf (mulE v0.toNat 1)).length)).length.ble 1073741823 then
 bif decide (overG ids (mkI (zerosOf (mulE v0.toNat 1)).length) = overG ids (mkI (zerosOf (mulE v0.toNat 1)).length)) && (overG ids (mkI (zerosOf (mulE v0.toNat 1)).length)).length.ble 1073741823 then
 let v86 : Bool := bif true then true else false;
 k [.v (.one (.bool v86))]
 else none
 else none
 else none
 else none
 else none
 else none
 else none
 else
 bif decide (zS = zS) then
 let v87 : Bool := bif true then idsN v1 == idsN ids else false;
 bif v87 then
 bif v87 then
 bif decide (overG ids (mkI (zerosOf (mulE v0.toNat 1)).length) = overG ids (mkI (zerosOf (mulE v0.toNat 1)).length)) && (overG ids (mkI (zerosOf (mulE v0.toNat 1)).length)).length.ble 1073741823 then
 bif decide (overG ids (mkI (zerosOf (mulE v0.toNat 1)).length) = overG ids (mkI (zerosOf (mulE v0.toNat 1)).length)) && (overG ids (mkI (zerosOf (mulE v0.toNat 1)).length)).length.ble 1073741823 then
 let v88 : Bool := bif true then true else false;
 k [.v (.one (.bool v88))]
 else none
 else none
 else none
 else none
 else none
 else none
 else none
 else none
 else none
 else none
 else none
 else none
 else none
 else none
 else none
 else none
 else none
 else none
else none
def E7 (N : Nat) : Env := { Θ := Th, Γ := GE7, K := K7, ν := N7, fuel := 0, lp := [] }
theorem f7_loops (N : Nat) (hΓ : CtxOk Tryz.prog GE7) : LoopsOk Tryz.prog (E7 N).lp B7 := loopsOk_of (l := []) (by kernel_rfl) trivial
theorem f7_raw_eq {R : Type} (N : Nat) (ids : List Int) (d : Int) (x : List Int) (k : List DV → Option R) : exec (E7 N) B7 (start7 68 ids d x) (retK Th { ps := [], rs := [.val] } [] R7 k) = f7_raw N ids d x k := by kernel_rfl
set_option linter.unusedVariables false
theorem mkI_len (n : Nat) : (mkI n).length = n := by unfold mkI; rw [List.length_map, List.length_range]
theorem overI_take (x y : List Int) (h : x.length ≤ y.length) : List.take x.length (overG x y) = x := by
 apply List.ext_getElem?
 intro i
 unfold overG fillG
 by_cases hi : i < x.length
 ·
  rw [List.getElem?_take_of_lt hi, List.getElem?_mapIdx, List.getElem?_eq_getElem (show i < y.length by omega), List.getElem?_eq_getElem hi]
  simp [hi]
 ·
  rw [List.getElem?_eq_none (by rw [List.length_take]; omega), List.getElem?_eq_none (by omega)]
theorem f7_true {ids x : List Int} {d : Int} {m : Nat} (hx : okB x = true) (hm : ids.length = m) (hb : m ≤ 1048576) :
  f7_raw 0 ids d x some = some [.v (.one (.bool true))] := by
 have w2 : IntKind.i64.wrap ((m : Int) + 3) = ((m + 3 : Nat) : Int) := by rw [show (m : Int) + 3 = ((m + 3 : Nat) : Int) by omega]; exact wi64 (by omega)
 have z2 : (zerosOf (mulE (Int.toNat ((m + 3 : Nat) : Int)) 1)).length = m + 3 := zeros_len _
 have hI : (overG ids (mkI (m + 3))).length = m + 3 := by rw [overG_length, mkI_len]
 have hIr : rowLen 1 (overG ids (mkI (m + 3))) = m + 3 := hI
 have hIt : List.take m (overG ids (mkI (m + 3))) = ids := by
  have := overI_take ids (mkI (m + 3)) (by rw [mkI_len]; omega)
  rw [hm] at this; exact this
 have b2 : (decide ((0 : Int) ≤ ((m + 3 : Nat) : Int)) && (decide (((m + 3 : Nat) : Int) ≤ ((m + 3 : Nat) : Int)) && (decide (((m + 3 : Nat) : Int) ≤ 281474976710656) && decide (((m + 3 : Nat) : Int) * 8 ≤ 281474976710656)))) = true := by
  simp only [Bool.and_eq_true, decide_eq_true_eq]; omega
 have h2 : hiOk (some (m : Int)) (m + 3) = true := by
  show (decide ((0 : Int) ≤ (m : Int)) && decide ((m : Int) ≤ ((m + 3 : Nat) : Int))) = true
  rw [decide_eq_true (by omega), decide_eq_true (by omega)]; rfl
 have c2 : Go.Eng.sub (overG ids (mkI (m + 3))) Off.z (mulE (Go.Eng.subN (hiNat (some (m : Int)) (m + 3)) none) 1) = ids := hIt
 have s2 : (Nat.ble ((m + 3) * 8) big48 && Nat.ble (m + 3) big48) = true := by
  rw [Bool.and_eq_true, Nat.ble_eq, Nat.ble_eq]; unfold big48; omega
 have t2 : Nat.ble m (m + 3) = true := Nat.ble_eq_true_of_le (by omega)
 have t3 : Nat.ble m 1073741823 = true := Nat.ble_eq_true_of_le (by omega)
 have t4 : Nat.ble (m + 3) 1073741823 = true := Nat.ble_eq_true_of_le (by omega)
 have o1 : idsN ids = 0 → okF (arrN (basG (plF ids) 0 m) m) = true := fun h => by
  have := (ids_ok h).le
  exact arr_okF (by omega)
 unfold f7_raw
 simp only [rows1, hm, w2, b2, z2, mkI_len, t2, t3, t4, hI, hIr, s2, h2, c2, hx, decide_true, Bool.and_self, cond_true, Bool.not_true, cond_false, beq_self_eq_true]
 by_cases hi : idsN ids = 0
 ·
  have := o1 hi
  cases hd : decide (idxE ids d m 0 < 0) <;> simp [hi, this]
 ·
  simp [hi]
end
end Go.Proofs.YtogcijgklnfjjaaGreat
namespace Go.Proofs.YtogcijgklnfjjaaGreat
noncomputable section
open Go Go.Eng Go.ChangeShapes Go.WideShapes Go.RowKit Go.ChangeAt
set_option maxRecDepth 100000
set_option linter.unusedVariables false
theorem contract7 (H : Type) (enc : TypeId × Value → H) (W : World) (base : Nat) (args : Array Value) (ds gs : List (DataW H)) (before : List MemPlace)
  (hval : ∀ (j : Nat) t v, Tryz.f7.params[j]? = some t → args[j]? = some v → Value.okWide Tryz.prog W .any base t v)
  (hW : DataW.Whole enc Tryz.prog Tryz.f7.params.toList Rows.shamirWeightsSpec.vars false W args.toList ds gs before) (hk : Rows.uptoSmall H (ds ++ gs) = true) :
  Calls Tryz.prog 7 args W fun e W' => ∃ v, e = .returned v ∧ Rows.shamirWeightsSpec.post enc Tryz.prog Tryz.f7 false true false false W args v W' := by
 have hW' := hW
 obtain ⟨p, q, hA, hV, rfl, hfz, hnd⟩ := hW
 obtain ⟨rfl, rfl⟩ := trodVars_none hV
 rw [Tryz.params7] at hA hval
 obtain ⟨v0, vs0, d0, ds0, p0, q0, hargs, rfl, rfl, h0, r0⟩ := trodAll_cons hA
 obtain ⟨v1, vs1, d1, ds1, p1, q1, rfl, rfl, rfl, h1, r1⟩ := trodAll_cons r0
 obtain ⟨v2, vs2, d2, ds2, p2, q2, rfl, rfl, rfl, h2, r2⟩ := trodAll_cons r1
 obtain ⟨rfl, rfl, rfl⟩ := trodAll_nil r2
 obtain rfl : args = #[v0, v1, v2] := by cases args; simp_all
 have hb := bulk_bound hk
 simp only [List.append_nil, Rows.uptoBulkAll, Nat.add_zero] at hb
 obtain ⟨A0, n0, c0, rfl⟩ := okWide_slice Tryz.underlying41 (hval 0 41 v0 rfl rfl)
 obtain ⟨f0, h0⟩ := h0
 obtain ⟨x0, len0, cap0, Ad0, loc0, o01, o02, l0, o04, o05, o06, w0, o08⟩ := open_view (k := .i64) (es := 1) Tryz.underlying41 (by omega) (elInt H enc) h0
 have b0 : len0 ≤ Rows.uptoBulk d0 := bulk_slice o08
 obtain ⟨x1, rfl, rfl, rfl, w1⟩ := open_int Tryz.underlying3 (hval 1 3 v1 rfl rfl) h1
 obtain ⟨x2, rfl, l2, w2⟩ := open_arr Tryz.underlying54 Tryz.underlying5 (by kernel_rfl) (by kernel_rfl) (hval 2 54 v2 rfl rfl) h2
 have hs : Sim W { blk := fun _ => False, loc := ({ loc := locOf [(0, loc0)], tot := fun _ => 0 } : Rho).loc, tot := ({ loc := locOf [(0, loc0)], tot := fun _ => 0 } : Rho).tot, sh := (start7 68 x0 x1 x2).S, out := ({ loc := locOf [(0, loc0)], tot := fun _ => 0 } : Rho).out } ({ loc := locOf [(0, loc0)], tot := fun _ => 0 } : Rho) (start7 68 x0 x1 x2) { tmps := #[.slice A0 n0 c0, .int .i64 x1, .agg (x2.map (Value.int .u8)).toArray] ++ Array.replicate (68 - 3) undef, defers := [] } W := by
  refine sim_startD (s0 := start7 68 x0 x1 x2) (ρ := { loc := locOf [(0, loc0)], tot := fun _ => 0 }) (args := #[.slice A0 n0 c0, .int .i64 x1, .agg (x2.map (Value.int .u8)).toArray]) (n := 68) (avs := [.s (.one (.own 0)), .s (.one (.int .i64 x1)), .s (.one (.ints .u8 32 x2))]) rfl (by simp) rfl ?_ ?_ ?_ (fun b hb => hb.elim) ⟨(show RelAt ({ loc := locOf [(0, loc0)], tot := fun _ => 0 } : Rho) (start7 68 x0 x1 x2).S (.own 0) [Value.slice A0 n0 c0] from rel_own rfl o01 o02 l0 o05 (by omega) rfl), rfl, ⟨rfl, l2⟩, trivial⟩
  ·
   simp [start7, Nodup', putNames]
  ·
   intro j it hi
   simp only [start7, AS.I, findI_cons] at hi
   split at hi
   ·
    rename_i hj; subst hj; injection hi with hi; subst hi
    exact ⟨rfl, ⟨by omega, trivial⟩, ⟨len0, l0⟩, o04⟩
   ·
    simp [findI] at hi
  ·
   intro j p hp
   simp only [locOf] at hp
   split at hp
   ·
    exact o06 p hp
   ·
    cases hp
 have he := f7_true (d := x1) (okB_row l2 w2) rfl (by omega : x0.length ≤ 1048576)
 rw [← f7_raw_eq] at he
 refine (law_calls thOk GE7_ok mixed ok7 (f7_loops _ GE7_ok) (fun _ => id) hs he).mono fun e W' ⟨h1, h2, h3, h4⟩ => ?_
 exact ⟨_, h1, post_of_law laidOut (by kernel_rfl) Tryz.underlying4 rfl (by rw [Tryz.params7]; intro t ht; simp only [List.mem_cons, List.not_mem_nil, or_false] at ht; rcases ht with rfl | rfl | rfl <;> exact ⟨by kernel_rfl, by decide +kernel⟩) ⟨rfl, rfl, rfl⟩ hW' h2 h3 h4⟩
theorem lifted7 (os : Os) (started : os.Started) (H : Type) (enc : TypeId × Value → H) (F : Stop.Interp) :
  ReturnsInHanded {} Tryz.checked os 7 .any ((Rows.OpenSpec.upto Rows.shamirWeightsSpec).pre6 enc Tryz.prog Tryz.f7 Rows.shamirWeightsUptoRow.domain false) (((Rows.OpenSpec.upto Rows.shamirWeightsSpec).at F).post enc Tryz.prog Tryz.f7 false true false false) := by
 refine returnsInHanded_of_cond (C := Tryz.checked) (s := Rows.OpenSpec.upto Rows.shamirWeightsSpec) (k := Rows.uptoSmall) rfl own0 started (by kernel_rfl) Tryz.func7
  (OpenSpec.witness (enc := enc) (C := Tryz.checked) (s := Rows.OpenSpec.upto Rows.shamirWeightsSpec) (k := Rows.uptoSmall) rfl false ⟨#[], #[.slice none 0 0, .int .i64 0, .agg (Array.mk (List.replicate 32 (Value.int .u8 0)))], []⟩ 8 (by kernel_rfl) (by kernel_rfl) (by kernel_rfl)
   (x := ([.nil, .lit (.int .i64 0), .agg (List.replicate 32 (.lit (.int .u8 0)))], [], [])) (by kernel_rfl) rfl (by kernel_rfl)) ?_
 intro W base args ds gs before hval hW _ hk _
 exact contract7 H enc W base args ds gs before hval hW hk
theorem over7 : Rows.shamirWeightsUptoRow.holds Tryz.pinned (Rows.OpenSpec.upto Rows.shamirWeightsSpec) :=
 OpenClaim.holds_of_cond 7 Tryz.f7 rfl rfl rfl rfl rfl rfl rfl ⟨rfl, rfl, rfl, rfl, rfl⟩ rfl rfl rfl rfl rfl (by kernel_rfl) Tryz.func7 (by kernel_rfl)
  (of_decide_eq_true (by kernel_rfl)) (by unfold Func.isWrapper; first | (rw [if_pos (by decide +kernel)]; kernel_rfl) | (rw [if_neg (by decide +kernel)]; exact ⟨rfl, rfl⟩))
  (fun os started H enc _ F => lifted7 os started H enc F)
theorem shamirWeights_holds : Rows.ShamirWeightsUptoSaid := over7
end
end Go.Proofs.YtogcijgklnfjjaaGreat
#print axioms Go.Proofs.YtogcijgklnfjjaaGreat.shamirWeights_holds
