/- The table of these functions, and that each is what the given program's function compiles to; no condition. -/
import Derived.Test.YtgnjkigknenkgaaGreatDoorText
import Derived.Test.YtgnjkigknenkgaaGreatDoorEvThree
import Derived.Test.YtgnjkigknenkgaaGreatDoorEvTwo
import Derived.Test.YtgnjkigknenkgaaGreatDoorProg
import Derived.KernelRfl
section
/- The table of the functions. -/
namespace Go.Ev.P
def tree : Tr := .node (.node (.node (.node (.node (.node (.node .leaf 6 (.code c6) .leaf) 7 (.code c7) (.node .leaf 15 (.code c15) .leaf)) 17 (.code c17) (.node (.node .leaf 19 (.code c19) .leaf) 20 (.code c20) (.leaf))) 22 (.code c22) (.node (.node (.node .leaf 26 (.code c26) .leaf) 28 (.code c28) (.leaf)) 29 (.code c29) (.node (.node .leaf 30 (.code c30) .leaf) 31 (.code c31) (.leaf)))) 32 (.code c32) (.node (.node (.node (.node .leaf 33 (.code c33) .leaf) 34 (.code c34) (.leaf)) 35 (.code c35) (.node (.node .leaf 41 (.code c41) .leaf) 46 (.code c46) (.leaf))) 47 (.code c47) (.node (.node (.node .leaf 49 (.code c49) .leaf) 50 (.code c50) (.leaf)) 53 (.code c53) (.node (.node .leaf 54 (.code c54) .leaf) 55 (.code c55) (.leaf))))) 56 (.code c56) (.node (.node (.node (.node (.node .leaf 57 (.code c57) .leaf) 58 (.code c58) (.leaf)) 60 (.code c60) (.node (.node .leaf 61 (.code c61) .leaf) 62 (.code c62) (.leaf))) 67 (.code c67) (.node (.node (.node .leaf 69 (.code c69) .leaf) 70 (.code c70) (.leaf)) 71 (.code c71) (.node (.node .leaf 72 (.prim (.clone 70 2)) .leaf) 73 (.code c73) (.leaf)))) 74 (.code c74) (.node (.node (.node (.node .leaf 75 (.code c75) .leaf) 76 (.code c76) (.leaf)) 77 (.code c77) (.node (.node .leaf 78 (.code c78) .leaf) 79 (.code c79) (.leaf))) 80 (.code c80) (.node (.node (.node .leaf 87 (.code c87) .leaf) 88 (.code c88) (.leaf)) 89 (.code c89) (.node (.node .leaf 90 (.code c90) .leaf) 91 (.code c91) (.leaf)))))) 99 (.code c99) (.node (.node (.node (.node (.node (.node .leaf 101 (.code c101) .leaf) 102 (.code c102) (.leaf)) 103 (.prim (.clone 99 7)) (.node (.node .leaf 104 (.code c104) .leaf) 105 (.code c105) (.leaf))) 108 (.code c108) (.node (.node (.node .leaf 109 (.code c109) .leaf) 110 (.code c110) (.leaf)) 111 (.code c111) (.node (.node .leaf 112 (.code c112) .leaf) 113 (.code c113) (.leaf)))) 114 (.code c114) (.node (.node (.node (.node .leaf 127 (.code c127) .leaf) 128 (.prim .sortI) (.leaf)) 129 (.iter .ints) (.node (.node .leaf 130 (.code c130) .leaf) 131 (.code c131) (.leaf))) 132 (.code c132) (.node (.node (.node .leaf 133 (.code c133) .leaf) 135 (.code c135) (.leaf)) 137 (.code c137) (.node (.node .leaf 140 (.code c140) .leaf) 141 (.code c141) (.leaf))))) 151 (.code c151) (.node (.node (.node (.node (.node .leaf 152 (.code c152) .leaf) 153 (.code c153) (.leaf)) 154 (.code c154) (.node (.node .leaf 160 (.code c160) .leaf) 161 (.prim (.parseInt 298)) (.leaf))) 162 (.code c162) (.node (.node (.node .leaf 163 (.code c163) .leaf) 164 (.code c164) (.leaf)) 165 (.code c165) (.node (.node .leaf 178 (.code c178) .leaf) 183 (.prim .fmtInt) (.leaf)))) 184 (.code c184) (.node (.node (.node (.node .leaf 185 (.code c185) .leaf) 186 (.code c186) (.leaf)) 203 (.code c203) (.node (.node .leaf 208 (.code c208) .leaf) 230 (.code c230) (.leaf))) 250 (.code c250) (.node (.node (.node .leaf 252 (.code c252) .leaf) 273 (.prim .same) (.leaf)) 284 (.code c284) (.node (.node .leaf 301 (.code c301) .leaf) 317 (.prim .idxByte) (.leaf))))))
def T : Tbl := tree.find
end Go.Ev.P
end

section
/- The evaluator's functions are the program's: part 0. -/
namespace Go.Ev.P
open Go.Proofs
set_option maxRecDepth 100000
theorem ok6 : CodeOK Tryz.prog 6 c6 Tryz.f6 (Tryz.f6.body.getD .skip) := ⟨Tryz.func6, by kernel_rfl, by kernel_rfl, by kernel_rfl, by kernel_rfl, by kernel_rfl⟩
theorem ok7 : CodeOK Tryz.prog 7 c7 Tryz.f7 (Tryz.f7.body.getD .skip) := ⟨Tryz.func7, by kernel_rfl, by kernel_rfl, by kernel_rfl, by kernel_rfl, by kernel_rfl⟩
theorem ok15 : CodeOK Tryz.prog 15 c15 Tryz.f15 (Tryz.f15.body.getD .skip) := ⟨Tryz.func15, by kernel_rfl, by kernel_rfl, by kernel_rfl, by kernel_rfl, by kernel_rfl⟩
theorem ok17 : CodeOK Tryz.prog 17 c17 Tryz.f17 (Tryz.f17.body.getD .skip) := ⟨Tryz.func17, by kernel_rfl, by kernel_rfl, by kernel_rfl, by kernel_rfl, by kernel_rfl⟩
theorem ok19 : CodeOK Tryz.prog 19 c19 Tryz.f19 (Tryz.f19.body.getD .skip) := ⟨Tryz.func19, by kernel_rfl, by kernel_rfl, by kernel_rfl, by kernel_rfl, by kernel_rfl⟩
theorem ok20 : CodeOK Tryz.prog 20 c20 Tryz.f20 (Tryz.f20.body.getD .skip) := ⟨Tryz.func20, by kernel_rfl, by kernel_rfl, by kernel_rfl, by kernel_rfl, by kernel_rfl⟩
theorem ok22 : CodeOK Tryz.prog 22 c22 Tryz.f22 (Tryz.f22.body.getD .skip) := ⟨Tryz.func22, by kernel_rfl, by kernel_rfl, by kernel_rfl, by kernel_rfl, by kernel_rfl⟩
theorem ok26 : CodeOK Tryz.prog 26 c26 Tryz.f26 (Tryz.f26.body.getD .skip) := ⟨Tryz.func26, by kernel_rfl, by kernel_rfl, by kernel_rfl, by kernel_rfl, by kernel_rfl⟩
theorem ok28 : CodeOK Tryz.prog 28 c28 Tryz.f28 (Tryz.f28.body.getD .skip) := ⟨Tryz.func28, by kernel_rfl, by kernel_rfl, by kernel_rfl, by kernel_rfl, by kernel_rfl⟩
theorem ok29 : CodeOK Tryz.prog 29 c29 Tryz.f29 (Tryz.f29.body.getD .skip) := ⟨Tryz.func29, by kernel_rfl, by kernel_rfl, by kernel_rfl, by kernel_rfl, by kernel_rfl⟩
theorem ok30 : CodeOK Tryz.prog 30 c30 Tryz.f30 (Tryz.f30.body.getD .skip) := ⟨Tryz.func30, by kernel_rfl, by kernel_rfl, by kernel_rfl, by kernel_rfl, by kernel_rfl⟩
theorem ok31 : CodeOK Tryz.prog 31 c31 Tryz.f31 (Tryz.f31.body.getD .skip) := ⟨Tryz.func31, by kernel_rfl, by kernel_rfl, by kernel_rfl, by kernel_rfl, by kernel_rfl⟩
theorem ok32 : CodeOK Tryz.prog 32 c32 Tryz.f32 (Tryz.f32.body.getD .skip) := ⟨Tryz.func32, by kernel_rfl, by kernel_rfl, by kernel_rfl, by kernel_rfl, by kernel_rfl⟩
theorem ok33 : CodeOK Tryz.prog 33 c33 Tryz.f33 (Tryz.f33.body.getD .skip) := ⟨Tryz.func33, by kernel_rfl, by kernel_rfl, by kernel_rfl, by kernel_rfl, by kernel_rfl⟩
theorem ok34 : CodeOK Tryz.prog 34 c34 Tryz.f34 (Tryz.f34.body.getD .skip) := ⟨Tryz.func34, by kernel_rfl, by kernel_rfl, by kernel_rfl, by kernel_rfl, by kernel_rfl⟩
theorem ok35 : CodeOK Tryz.prog 35 c35 Tryz.f35 (Tryz.f35.body.getD .skip) := ⟨Tryz.func35, by kernel_rfl, by kernel_rfl, by kernel_rfl, by kernel_rfl, by kernel_rfl⟩
theorem ok41 : CodeOK Tryz.prog 41 c41 Tryz.f41 (Tryz.f41.body.getD .skip) := ⟨Tryz.func41, by kernel_rfl, by kernel_rfl, by kernel_rfl, by kernel_rfl, by kernel_rfl⟩
theorem ok46 : CodeOK Tryz.prog 46 c46 Tryz.f46 (Tryz.f46.body.getD .skip) := ⟨Tryz.func46, by kernel_rfl, by kernel_rfl, by kernel_rfl, by kernel_rfl, by kernel_rfl⟩
theorem ok47 : CodeOK Tryz.prog 47 c47 Tryz.f47 (Tryz.f47.body.getD .skip) := ⟨Tryz.func47, by kernel_rfl, by kernel_rfl, by kernel_rfl, by kernel_rfl, by kernel_rfl⟩
theorem ok49 : CodeOK Tryz.prog 49 c49 Tryz.f49 (Tryz.f49.body.getD .skip) := ⟨Tryz.func49, by kernel_rfl, by kernel_rfl, by kernel_rfl, by kernel_rfl, by kernel_rfl⟩
theorem ok50 : CodeOK Tryz.prog 50 c50 Tryz.f50 (Tryz.f50.body.getD .skip) := ⟨Tryz.func50, by kernel_rfl, by kernel_rfl, by kernel_rfl, by kernel_rfl, by kernel_rfl⟩
theorem ok53 : CodeOK Tryz.prog 53 c53 Tryz.f53 (Tryz.f53.body.getD .skip) := ⟨Tryz.func53, by kernel_rfl, by kernel_rfl, by kernel_rfl, by kernel_rfl, by kernel_rfl⟩
theorem ok54 : CodeOK Tryz.prog 54 c54 Tryz.f54 (Tryz.f54.body.getD .skip) := ⟨Tryz.func54, by kernel_rfl, by kernel_rfl, by kernel_rfl, by kernel_rfl, by kernel_rfl⟩
theorem ok55 : CodeOK Tryz.prog 55 c55 Tryz.f55 (Tryz.f55.body.getD .skip) := ⟨Tryz.func55, by kernel_rfl, by kernel_rfl, by kernel_rfl, by kernel_rfl, by kernel_rfl⟩
theorem ok56 : CodeOK Tryz.prog 56 c56 Tryz.f56 (Tryz.f56.body.getD .skip) := ⟨Tryz.func56, by kernel_rfl, by kernel_rfl, by kernel_rfl, by kernel_rfl, by kernel_rfl⟩
theorem ok57 : CodeOK Tryz.prog 57 c57 Tryz.f57 (Tryz.f57.body.getD .skip) := ⟨Tryz.func57, by kernel_rfl, by kernel_rfl, by kernel_rfl, by kernel_rfl, by kernel_rfl⟩
theorem ok58 : CodeOK Tryz.prog 58 c58 Tryz.f58 (Tryz.f58.body.getD .skip) := ⟨Tryz.func58, by kernel_rfl, by kernel_rfl, by kernel_rfl, by kernel_rfl, by kernel_rfl⟩
theorem ok60 : CodeOK Tryz.prog 60 c60 Tryz.f60 (Tryz.f60.body.getD .skip) := ⟨Tryz.func60, by kernel_rfl, by kernel_rfl, by kernel_rfl, by kernel_rfl, by kernel_rfl⟩
theorem ok61 : CodeOK Tryz.prog 61 c61 Tryz.f61 (Tryz.f61.body.getD .skip) := ⟨Tryz.func61, by kernel_rfl, by kernel_rfl, by kernel_rfl, by kernel_rfl, by kernel_rfl⟩
theorem ok62 : CodeOK Tryz.prog 62 c62 Tryz.f62 (Tryz.f62.body.getD .skip) := ⟨Tryz.func62, by kernel_rfl, by kernel_rfl, by kernel_rfl, by kernel_rfl, by kernel_rfl⟩
end Go.Ev.P
end

section
/- The evaluator's functions are the program's: part 1. -/
namespace Go.Ev.P
open Go.Proofs
set_option maxRecDepth 100000
theorem ok67 : CodeOK Tryz.prog 67 c67 Tryz.f67 (Tryz.f67.body.getD .skip) := ⟨Tryz.func67, by kernel_rfl, by kernel_rfl, by kernel_rfl, by kernel_rfl, by kernel_rfl⟩
theorem ok69 : CodeOK Tryz.prog 69 c69 Tryz.f69 (Tryz.f69.body.getD .skip) := ⟨Tryz.func69, by kernel_rfl, by kernel_rfl, by kernel_rfl, by kernel_rfl, by kernel_rfl⟩
theorem ok70 : CodeOK Tryz.prog 70 c70 Tryz.f70 (Tryz.f70.body.getD .skip) := ⟨Tryz.func70, by kernel_rfl, by kernel_rfl, by kernel_rfl, by kernel_rfl, by kernel_rfl⟩
theorem ok71 : CodeOK Tryz.prog 71 c71 Tryz.f71 (Tryz.f71.body.getD .skip) := ⟨Tryz.func71, by kernel_rfl, by kernel_rfl, by kernel_rfl, by kernel_rfl, by kernel_rfl⟩
theorem ok73 : CodeOK Tryz.prog 73 c73 Tryz.f73 (Tryz.f73.body.getD .skip) := ⟨Tryz.func73, by kernel_rfl, by kernel_rfl, by kernel_rfl, by kernel_rfl, by kernel_rfl⟩
theorem ok74 : CodeOK Tryz.prog 74 c74 Tryz.f74 (Tryz.f74.body.getD .skip) := ⟨Tryz.func74, by kernel_rfl, by kernel_rfl, by kernel_rfl, by kernel_rfl, by kernel_rfl⟩
theorem ok75 : CodeOK Tryz.prog 75 c75 Tryz.f75 (Tryz.f75.body.getD .skip) := ⟨Tryz.func75, by kernel_rfl, by kernel_rfl, by kernel_rfl, by kernel_rfl, by kernel_rfl⟩
theorem ok76 : CodeOK Tryz.prog 76 c76 Tryz.f76 (Tryz.f76.body.getD .skip) := ⟨Tryz.func76, by kernel_rfl, by kernel_rfl, by kernel_rfl, by kernel_rfl, by kernel_rfl⟩
theorem ok77 : CodeOK Tryz.prog 77 c77 Tryz.f77 (Tryz.f77.body.getD .skip) := ⟨Tryz.func77, by kernel_rfl, by kernel_rfl, by kernel_rfl, by kernel_rfl, by kernel_rfl⟩
theorem ok78 : CodeOK Tryz.prog 78 c78 Tryz.f78 (Tryz.f78.body.getD .skip) := ⟨Tryz.func78, by kernel_rfl, by kernel_rfl, by kernel_rfl, by kernel_rfl, by kernel_rfl⟩
theorem ok79 : CodeOK Tryz.prog 79 c79 Tryz.f79 (Tryz.f79.body.getD .skip) := ⟨Tryz.func79, by kernel_rfl, by kernel_rfl, by kernel_rfl, by kernel_rfl, by kernel_rfl⟩
theorem ok80 : CodeOK Tryz.prog 80 c80 Tryz.f80 (Tryz.f80.body.getD .skip) := ⟨Tryz.func80, by kernel_rfl, by kernel_rfl, by kernel_rfl, by kernel_rfl, by kernel_rfl⟩
theorem ok87 : CodeOK Tryz.prog 87 c87 Tryz.f87 (Tryz.f87.body.getD .skip) := ⟨Tryz.func87, by kernel_rfl, by kernel_rfl, by kernel_rfl, by kernel_rfl, by kernel_rfl⟩
theorem ok88 : CodeOK Tryz.prog 88 c88 Tryz.f88 (Tryz.f88.body.getD .skip) := ⟨Tryz.func88, by kernel_rfl, by kernel_rfl, by kernel_rfl, by kernel_rfl, by kernel_rfl⟩
theorem ok89 : CodeOK Tryz.prog 89 c89 Tryz.f89 (Tryz.f89.body.getD .skip) := ⟨Tryz.func89, by kernel_rfl, by kernel_rfl, by kernel_rfl, by kernel_rfl, by kernel_rfl⟩
theorem ok90 : CodeOK Tryz.prog 90 c90 Tryz.f90 (Tryz.f90.body.getD .skip) := ⟨Tryz.func90, by kernel_rfl, by kernel_rfl, by kernel_rfl, by kernel_rfl, by kernel_rfl⟩
theorem ok91 : CodeOK Tryz.prog 91 c91 Tryz.f91 (Tryz.f91.body.getD .skip) := ⟨Tryz.func91, by kernel_rfl, by kernel_rfl, by kernel_rfl, by kernel_rfl, by kernel_rfl⟩
theorem ok99 : CodeOK Tryz.prog 99 c99 Tryz.f99 (Tryz.f99.body.getD .skip) := ⟨Tryz.func99, by kernel_rfl, by kernel_rfl, by kernel_rfl, by kernel_rfl, by kernel_rfl⟩
theorem ok101 : CodeOK Tryz.prog 101 c101 Tryz.f101 (Tryz.f101.body.getD .skip) := ⟨Tryz.func101, by kernel_rfl, by kernel_rfl, by kernel_rfl, by kernel_rfl, by kernel_rfl⟩
theorem ok102 : CodeOK Tryz.prog 102 c102 Tryz.f102 (Tryz.f102.body.getD .skip) := ⟨Tryz.func102, by kernel_rfl, by kernel_rfl, by kernel_rfl, by kernel_rfl, by kernel_rfl⟩
theorem ok104 : CodeOK Tryz.prog 104 c104 Tryz.f104 (Tryz.f104.body.getD .skip) := ⟨Tryz.func104, by kernel_rfl, by kernel_rfl, by kernel_rfl, by kernel_rfl, by kernel_rfl⟩
theorem ok105 : CodeOK Tryz.prog 105 c105 Tryz.f105 (Tryz.f105.body.getD .skip) := ⟨Tryz.func105, by kernel_rfl, by kernel_rfl, by kernel_rfl, by kernel_rfl, by kernel_rfl⟩
theorem ok108 : CodeOK Tryz.prog 108 c108 Tryz.f108 (Tryz.f108.body.getD .skip) := ⟨Tryz.func108, by kernel_rfl, by kernel_rfl, by kernel_rfl, by kernel_rfl, by kernel_rfl⟩
theorem ok109 : CodeOK Tryz.prog 109 c109 Tryz.f109 (Tryz.f109.body.getD .skip) := ⟨Tryz.func109, by kernel_rfl, by kernel_rfl, by kernel_rfl, by kernel_rfl, by kernel_rfl⟩
theorem ok110 : CodeOK Tryz.prog 110 c110 Tryz.f110 (Tryz.f110.body.getD .skip) := ⟨Tryz.func110, by kernel_rfl, by kernel_rfl, by kernel_rfl, by kernel_rfl, by kernel_rfl⟩
theorem ok111 : CodeOK Tryz.prog 111 c111 Tryz.f111 (Tryz.f111.body.getD .skip) := ⟨Tryz.func111, by kernel_rfl, by kernel_rfl, by kernel_rfl, by kernel_rfl, by kernel_rfl⟩
theorem ok112 : CodeOK Tryz.prog 112 c112 Tryz.f112 (Tryz.f112.body.getD .skip) := ⟨Tryz.func112, by kernel_rfl, by kernel_rfl, by kernel_rfl, by kernel_rfl, by kernel_rfl⟩
theorem ok113 : CodeOK Tryz.prog 113 c113 Tryz.f113 (Tryz.f113.body.getD .skip) := ⟨Tryz.func113, by kernel_rfl, by kernel_rfl, by kernel_rfl, by kernel_rfl, by kernel_rfl⟩
theorem ok114 : CodeOK Tryz.prog 114 c114 Tryz.f114 (Tryz.f114.body.getD .skip) := ⟨Tryz.func114, by kernel_rfl, by kernel_rfl, by kernel_rfl, by kernel_rfl, by kernel_rfl⟩
theorem ok127 : CodeOK Tryz.prog 127 c127 Tryz.f127 (Tryz.f127.body.getD .skip) := ⟨Tryz.func127, by kernel_rfl, by kernel_rfl, by kernel_rfl, by kernel_rfl, by kernel_rfl⟩
end Go.Ev.P
end

section
/- The evaluator's functions are the program's: part 2. -/
namespace Go.Ev.P
open Go.Proofs
set_option maxRecDepth 100000
theorem ok130 : CodeOK Tryz.prog 130 c130 Tryz.f130 (Tryz.f130.body.getD .skip) := ⟨Tryz.func130, by kernel_rfl, by kernel_rfl, by kernel_rfl, by kernel_rfl, by kernel_rfl⟩
theorem ok131 : CodeOK Tryz.prog 131 c131 Tryz.f131 (Tryz.f131.body.getD .skip) := ⟨Tryz.func131, by kernel_rfl, by kernel_rfl, by kernel_rfl, by kernel_rfl, by kernel_rfl⟩
theorem ok132 : CodeOK Tryz.prog 132 c132 Tryz.f132 (Tryz.f132.body.getD .skip) := ⟨Tryz.func132, by kernel_rfl, by kernel_rfl, by kernel_rfl, by kernel_rfl, by kernel_rfl⟩
theorem ok133 : CodeOK Tryz.prog 133 c133 Tryz.f133 (Tryz.f133.body.getD .skip) := ⟨Tryz.func133, by kernel_rfl, by kernel_rfl, by kernel_rfl, by kernel_rfl, by kernel_rfl⟩
theorem ok135 : CodeOK Tryz.prog 135 c135 Tryz.f135 (Tryz.f135.body.getD .skip) := ⟨Tryz.func135, by kernel_rfl, by kernel_rfl, by kernel_rfl, by kernel_rfl, by kernel_rfl⟩
theorem ok137 : CodeOK Tryz.prog 137 c137 Tryz.f137 (Tryz.f137.body.getD .skip) := ⟨Tryz.func137, by kernel_rfl, by kernel_rfl, by kernel_rfl, by kernel_rfl, by kernel_rfl⟩
theorem ok140 : CodeOK Tryz.prog 140 c140 Tryz.f140 (Tryz.f140.body.getD .skip) := ⟨Tryz.func140, by kernel_rfl, by kernel_rfl, by kernel_rfl, by kernel_rfl, by kernel_rfl⟩
theorem ok141 : CodeOK Tryz.prog 141 c141 Tryz.f141 (Tryz.f141.body.getD .skip) := ⟨Tryz.func141, by kernel_rfl, by kernel_rfl, by kernel_rfl, by kernel_rfl, by kernel_rfl⟩
theorem ok151 : CodeOK Tryz.prog 151 c151 Tryz.f151 (Tryz.f151.body.getD .skip) := ⟨Tryz.func151, by kernel_rfl, by kernel_rfl, by kernel_rfl, by kernel_rfl, by kernel_rfl⟩
theorem ok152 : CodeOK Tryz.prog 152 c152 Tryz.f152 (Tryz.f152.body.getD .skip) := ⟨Tryz.func152, by kernel_rfl, by kernel_rfl, by kernel_rfl, by kernel_rfl, by kernel_rfl⟩
theorem ok153 : CodeOK Tryz.prog 153 c153 Tryz.f153 (Tryz.f153.body.getD .skip) := ⟨Tryz.func153, by kernel_rfl, by kernel_rfl, by kernel_rfl, by kernel_rfl, by kernel_rfl⟩
theorem ok154 : CodeOK Tryz.prog 154 c154 Tryz.f154 (Tryz.f154.body.getD .skip) := ⟨Tryz.func154, by kernel_rfl, by kernel_rfl, by kernel_rfl, by kernel_rfl, by kernel_rfl⟩
theorem ok160 : CodeOK Tryz.prog 160 c160 Tryz.f160 (Tryz.f160.body.getD .skip) := ⟨Tryz.func160, by kernel_rfl, by kernel_rfl, by kernel_rfl, by kernel_rfl, by kernel_rfl⟩
theorem ok162 : CodeOK Tryz.prog 162 c162 Tryz.f162 (Tryz.f162.body.getD .skip) := ⟨Tryz.func162, by kernel_rfl, by kernel_rfl, by kernel_rfl, by kernel_rfl, by kernel_rfl⟩
theorem ok163 : CodeOK Tryz.prog 163 c163 Tryz.f163 (Tryz.f163.body.getD .skip) := ⟨Tryz.func163, by kernel_rfl, by kernel_rfl, by kernel_rfl, by kernel_rfl, by kernel_rfl⟩
theorem ok164 : CodeOK Tryz.prog 164 c164 Tryz.f164 (Tryz.f164.body.getD .skip) := ⟨Tryz.func164, by kernel_rfl, by kernel_rfl, by kernel_rfl, by kernel_rfl, by kernel_rfl⟩
theorem ok165 : CodeOK Tryz.prog 165 c165 Tryz.f165 (Tryz.f165.body.getD .skip) := ⟨Tryz.func165, by kernel_rfl, by kernel_rfl, by kernel_rfl, by kernel_rfl, by kernel_rfl⟩
theorem ok178 : CodeOK Tryz.prog 178 c178 Tryz.f178 (Tryz.f178.body.getD .skip) := ⟨Tryz.func178, by kernel_rfl, by kernel_rfl, by kernel_rfl, by kernel_rfl, by kernel_rfl⟩
theorem ok184 : CodeOK Tryz.prog 184 c184 Tryz.f184 (Tryz.f184.body.getD .skip) := ⟨Tryz.func184, by kernel_rfl, by kernel_rfl, by kernel_rfl, by kernel_rfl, by kernel_rfl⟩
theorem ok185 : CodeOK Tryz.prog 185 c185 Tryz.f185 (Tryz.f185.body.getD .skip) := ⟨Tryz.func185, by kernel_rfl, by kernel_rfl, by kernel_rfl, by kernel_rfl, by kernel_rfl⟩
theorem ok186 : CodeOK Tryz.prog 186 c186 Tryz.f186 (Tryz.f186.body.getD .skip) := ⟨Tryz.func186, by kernel_rfl, by kernel_rfl, by kernel_rfl, by kernel_rfl, by kernel_rfl⟩
theorem ok203 : CodeOK Tryz.prog 203 c203 Tryz.f203 (Tryz.f203.body.getD .skip) := ⟨Tryz.func203, by kernel_rfl, by kernel_rfl, by kernel_rfl, by kernel_rfl, by kernel_rfl⟩
theorem ok208 : CodeOK Tryz.prog 208 c208 Tryz.f208 (Tryz.f208.body.getD .skip) := ⟨Tryz.func208, by kernel_rfl, by kernel_rfl, by kernel_rfl, by kernel_rfl, by kernel_rfl⟩
theorem ok230 : CodeOK Tryz.prog 230 c230 Tryz.f230 (Tryz.f230.body.getD .skip) := ⟨Tryz.func230, by kernel_rfl, by kernel_rfl, by kernel_rfl, by kernel_rfl, by kernel_rfl⟩
theorem ok250 : CodeOK Tryz.prog 250 c250 Tryz.f250 (Tryz.f250.body.getD .skip) := ⟨Tryz.func250, by kernel_rfl, by kernel_rfl, by kernel_rfl, by kernel_rfl, by kernel_rfl⟩
theorem ok252 : CodeOK Tryz.prog 252 c252 Tryz.f252 (Tryz.f252.body.getD .skip) := ⟨Tryz.func252, by kernel_rfl, by kernel_rfl, by kernel_rfl, by kernel_rfl, by kernel_rfl⟩
theorem ok284 : CodeOK Tryz.prog 284 c284 Tryz.f284 (Tryz.f284.body.getD .skip) := ⟨Tryz.func284, by kernel_rfl, by kernel_rfl, by kernel_rfl, by kernel_rfl, by kernel_rfl⟩
theorem ok301 : CodeOK Tryz.prog 301 c301 Tryz.f301 (Tryz.f301.body.getD .skip) := ⟨Tryz.func301, by kernel_rfl, by kernel_rfl, by kernel_rfl, by kernel_rfl, by kernel_rfl⟩
end Go.Ev.P
end

section
/- The table is the program's. -/
namespace Go.Ev.P
open Go.Proofs
set_option maxRecDepth 100000
theorem tok {w0 : World} (h72 : PrimOK Tryz.prog w0 72 (.clone 70 2)) (h103 : PrimOK Tryz.prog w0 103 (.clone 99 7)) (h128 : PrimOK Tryz.prog w0 128 .sortI) (h161 : PrimOK Tryz.prog w0 161 (.parseInt 298)) (h183 : PrimOK Tryz.prog w0 183 .fmtInt) (h273 : PrimOK Tryz.prog w0 273 .same) (h317 : PrimOK Tryz.prog w0 317 .idxByte) (h129 : IterOK Tryz.prog 129 .ints) : TOK Tryz.prog w0 T :=
  Tr.tok (t := tree) (show tree.All (FDOK Tryz.prog w0) from ⟨⟨⟨⟨⟨⟨⟨trivial, ⟨_, _, ok6⟩, trivial⟩, ⟨_, _, ok7⟩, ⟨trivial, ⟨_, _, ok15⟩, trivial⟩⟩, ⟨_, _, ok17⟩, ⟨⟨trivial, ⟨_, _, ok19⟩, trivial⟩, ⟨_, _, ok20⟩, trivial⟩⟩, ⟨_, _, ok22⟩, ⟨⟨⟨trivial, ⟨_, _, ok26⟩, trivial⟩, ⟨_, _, ok28⟩, trivial⟩, ⟨_, _, ok29⟩, ⟨⟨trivial, ⟨_, _, ok30⟩, trivial⟩, ⟨_, _, ok31⟩, trivial⟩⟩⟩, ⟨_, _, ok32⟩, ⟨⟨⟨⟨trivial, ⟨_, _, ok33⟩, trivial⟩, ⟨_, _, ok34⟩, trivial⟩, ⟨_, _, ok35⟩, ⟨⟨trivial, ⟨_, _, ok41⟩, trivial⟩, ⟨_, _, ok46⟩, trivial⟩⟩, ⟨_, _, ok47⟩, ⟨⟨⟨trivial, ⟨_, _, ok49⟩, trivial⟩, ⟨_, _, ok50⟩, trivial⟩, ⟨_, _, ok53⟩, ⟨⟨trivial, ⟨_, _, ok54⟩, trivial⟩, ⟨_, _, ok55⟩, trivial⟩⟩⟩⟩, ⟨_, _, ok56⟩, ⟨⟨⟨⟨⟨trivial, ⟨_, _, ok57⟩, trivial⟩, ⟨_, _, ok58⟩, trivial⟩, ⟨_, _, ok60⟩, ⟨⟨trivial, ⟨_, _, ok61⟩, trivial⟩, ⟨_, _, ok62⟩, trivial⟩⟩, ⟨_, _, ok67⟩, ⟨⟨⟨trivial, ⟨_, _, ok69⟩, trivial⟩, ⟨_, _, ok70⟩, trivial⟩, ⟨_, _, ok71⟩, ⟨⟨trivial, h72, trivial⟩, ⟨_, _, ok73⟩, trivial⟩⟩⟩, ⟨_, _, ok74⟩, ⟨⟨⟨⟨trivial, ⟨_, _, ok75⟩, trivial⟩, ⟨_, _, ok76⟩, trivial⟩, ⟨_, _, ok77⟩, ⟨⟨trivial, ⟨_, _, ok78⟩, trivial⟩, ⟨_, _, ok79⟩, trivial⟩⟩, ⟨_, _, ok80⟩, ⟨⟨⟨trivial, ⟨_, _, ok87⟩, trivial⟩, ⟨_, _, ok88⟩, trivial⟩, ⟨_, _, ok89⟩, ⟨⟨trivial, ⟨_, _, ok90⟩, trivial⟩, ⟨_, _, ok91⟩, trivial⟩⟩⟩⟩⟩, ⟨_, _, ok99⟩, ⟨⟨⟨⟨⟨⟨trivial, ⟨_, _, ok101⟩, trivial⟩, ⟨_, _, ok102⟩, trivial⟩, h103, ⟨⟨trivial, ⟨_, _, ok104⟩, trivial⟩, ⟨_, _, ok105⟩, trivial⟩⟩, ⟨_, _, ok108⟩, ⟨⟨⟨trivial, ⟨_, _, ok109⟩, trivial⟩, ⟨_, _, ok110⟩, trivial⟩, ⟨_, _, ok111⟩, ⟨⟨trivial, ⟨_, _, ok112⟩, trivial⟩, ⟨_, _, ok113⟩, trivial⟩⟩⟩, ⟨_, _, ok114⟩, ⟨⟨⟨⟨trivial, ⟨_, _, ok127⟩, trivial⟩, h128, trivial⟩, h129, ⟨⟨trivial, ⟨_, _, ok130⟩, trivial⟩, ⟨_, _, ok131⟩, trivial⟩⟩, ⟨_, _, ok132⟩, ⟨⟨⟨trivial, ⟨_, _, ok133⟩, trivial⟩, ⟨_, _, ok135⟩, trivial⟩, ⟨_, _, ok137⟩, ⟨⟨trivial, ⟨_, _, ok140⟩, trivial⟩, ⟨_, _, ok141⟩, trivial⟩⟩⟩⟩, ⟨_, _, ok151⟩, ⟨⟨⟨⟨⟨trivial, ⟨_, _, ok152⟩, trivial⟩, ⟨_, _, ok153⟩, trivial⟩, ⟨_, _, ok154⟩, ⟨⟨trivial, ⟨_, _, ok160⟩, trivial⟩, h161, trivial⟩⟩, ⟨_, _, ok162⟩, ⟨⟨⟨trivial, ⟨_, _, ok163⟩, trivial⟩, ⟨_, _, ok164⟩, trivial⟩, ⟨_, _, ok165⟩, ⟨⟨trivial, ⟨_, _, ok178⟩, trivial⟩, h183, trivial⟩⟩⟩, ⟨_, _, ok184⟩, ⟨⟨⟨⟨trivial, ⟨_, _, ok185⟩, trivial⟩, ⟨_, _, ok186⟩, trivial⟩, ⟨_, _, ok203⟩, ⟨⟨trivial, ⟨_, _, ok208⟩, trivial⟩, ⟨_, _, ok230⟩, trivial⟩⟩, ⟨_, _, ok250⟩, ⟨⟨⟨trivial, ⟨_, _, ok252⟩, trivial⟩, h273, trivial⟩, ⟨_, _, ok284⟩, ⟨⟨trivial, ⟨_, _, ok301⟩, trivial⟩, h317, trivial⟩⟩⟩⟩⟩⟩)
end Go.Ev.P
end
