import Derived.Test.YtciondmibomehaaGreatDoorHB
import Derived.Test.YtciondmibomehaaGreatDoorProg
import Derived.KernelRfl
set_option maxRecDepth 100000
set_option linter.unusedSectionVars false
set_option linter.unusedVariables false
set_option linter.unusedSimpArgs false
set_option linter.constructorNameAsVariable false
noncomputable section
namespace Go.Fm
open Go.Proofs
instance ctxV1 : CtxV := { site := siteOf Tryz.prog, views := fun u => bif u == 125 then [(125, 0, 1), (127, 0, 1)] else [], meths := fun n => bif n == "Replace" then [623, 625, 628, 632] else [] }
class Gl where
 gl : List (Nat × Obj)
instance ctxI [Gl] : Ctx := { toCtxV := ctxV1, gl := Gl.gl }
theorem mix0 : Tryz.prog.follows .mixedOrders = true := by decide +kernel
end Go.Fm
namespace Go.Fm
open Go.Proofs
theorem rs5 : resFn Tryz.prog 25 [] = some fn5 := by kernel_rfl
theorem rs6 : resFn Tryz.prog 10 [] = some fn6 := by kernel_rfl
theorem rs7 : resFn Tryz.prog 14 [(6,⟨[([0,1,2,3,4,5,6,7,8,9,10,11,12,13,14,15,16,17,18,19,20,21,22,23,24,25,26,27,28,29,30,31,32,33,34],[],some 35,[]),([36,37,38,39,40,41,42,43,44,45,46,47,48,49,50,51,52,53,54,55,56,57,58,59,60,61,62,63,64,65,66],[],none,[])],[0,0,3,7,15,0,0,96,224,480,1023,2047,4095,4095,16383,32767,65535,4095,4095,397311,921599,1970175,4194303,8388607,16777215,33554431,33554431,134217727,268435455,536870911,33554431,33554431,3254779903,7549747199,16139681791,34359738367,68719476735,137438953471,274877906943,549755813887,549755813887,2199023255551,4398046511103,8796093022207,17592186044415,549755813887,549755813887,106102872080383,246840360435711,528315337146367,1091265290567679,2251799813685247,4503599627370495,9007199254740991,18014398509481983,36028797018963967,36028797018963967,144115188075855871,288230376151711743,576460752303423487,36028797018963967,36028797018963967,3494793310839504895,8106479329266892799,17329851366121668607,36893488147419103231,73786976294838206463]⟩)] = some fn7 := by kernel_rfl
theorem rs19 : resFn Tryz.prog 31 [] = some fn19 := by kernel_rfl
theorem rs20 : resFn Tryz.prog 8 [] = some fn20 := by kernel_rfl
theorem rs21 : resFn Tryz.prog 29 [] = some fn21 := by kernel_rfl
theorem rs22 : resFn Tryz.prog 30 [] = some fn22 := by kernel_rfl
theorem rs23 : resFn Tryz.prog 13 [] = some fn23 := by kernel_rfl
theorem rs24 : resFn Tryz.prog 43 [(6,⟨[([0,1,2,3,4,5,6,7,8],[],none,[])],[0,0,3,7,0,0,48,112,255]⟩)] = some fn24 := by kernel_rfl
theorem rs28 : resFn Tryz.prog 47 [] = some fn28 := by kernel_rfl
theorem rs39 : resFn Tryz.prog 58 [(1,⟨[([0,1,2,3,4,5,6,7,8,9],[],some 10,[]),([11],[],none,[])],[0,1,3,7,15,0,32,96,224,480,1023,2047]⟩)] = some fn39 := by kernel_rfl
theorem rs44 : resFn Tryz.prog 63 [] = some fn44 := by kernel_rfl
theorem rs45 : resFn Tryz.prog 64 [] = some fn45 := by kernel_rfl
theorem rs46 : resFn Tryz.prog 65 [] = some fn46 := by kernel_rfl
theorem rs50 : resFn Tryz.prog 69 [] = some fn50 := by kernel_rfl
theorem rs52 : resFn Tryz.prog 73 [(3,⟨[([0,1,2,3,4,5,6,7,8,9,10,11],[],none,[])],[0,0,3,0,0,0,32,112,248,7,1023,2047]⟩)] = some fn52 := by kernel_rfl
theorem rs53 : resFn Tryz.prog 32 [] = some fn53 := by kernel_rfl
theorem rs54 : resFn Tryz.prog 33 [] = some fn54 := by kernel_rfl
theorem rs55 : resFn Tryz.prog 34 [(10,⟨[([0,1,2],[],some 3,[1]),([4],[4],some 5,[]),([6],[],some 7,[]),([],[],none,[])],[0,1,0,4,12,31,63,127]⟩)] = some fn55 := by kernel_rfl
theorem rs56 : resFn Tryz.prog 27 [(2,⟨[([0,1,2,3,4,5,6,7,9,10,12,13,14,15,16,17,25,26,29,30,31,38,39,40,41],[],some 8,[13,16,26,30,39]),([],[],some 11,[13,16,26,30,39]),([18,19,20,21,22,23],[],some 24,[26,30,39]),([],[],some 27,[30,39]),([],[],some 28,[30,39]),([32,33,34,35,36],[],some 37,[39]),([],[],some 42,[]),([43],[43],some 44,[]),([45],[],none,[])],[0,1,3,7,15,31,63,127,255,0,512,2047,0,4096,12288,0,32768,126976,262143,524287,1048575,2097151,4194303,8388607,16777215,0,33554432,134217727,268435455,0,536870912,1610612736,4294967295,8589934591,17179869183,34359738367,68719476735,137438953471,0,274877906944,824633720832,1924145348608,4398046511103,8796093022207,17592186044415,35184372088831]⟩)] = some fn56 := by kernel_rfl
theorem rs57 : resFn Tryz.prog 39 [(5,⟨[([0,1,2,3,4,5,6,7,8,9],[],none,[])],[0,0,3,0,0,16,56,7,255,511]⟩)] = some fn57 := by kernel_rfl
theorem rs58 : resFn Tryz.prog 40 [] = some fn58 := by kernel_rfl
theorem rs59 : resFn Tryz.prog 38 [] = some fn59 := by kernel_rfl
theorem rs60 : resFn Tryz.prog 41 [] = some fn60 := by kernel_rfl
theorem rs61 : resFn Tryz.prog 42 [] = some fn61 := by kernel_rfl
theorem rs62 : resFn Tryz.prog 9 [] = some fn62 := by kernel_rfl
theorem rs101 : resFn Tryz.prog 119 [] = some fn101 := by kernel_rfl
theorem rs102 : resFn Tryz.prog 120 [] = some fn102 := by kernel_rfl
theorem rs103 : resFn Tryz.prog 121 [] = some fn103 := by kernel_rfl
theorem rs114 : resFn Tryz.prog 70 [] = some fn114 := by kernel_rfl
theorem rs121 : resFn Tryz.prog 138 [] = some fn121 := by kernel_rfl
theorem rs123 : resFn Tryz.prog 141 [] = some fn123 := by kernel_rfl
theorem rs124 : resFn Tryz.prog 74 [] = some fn124 := by kernel_rfl
theorem rs125 : resFn Tryz.prog 75 [] = some fn125 := by kernel_rfl
theorem rs127 : resFn Tryz.prog 78 [] = some fn127 := by kernel_rfl
theorem rs128 : resFn Tryz.prog 79 [] = some fn128 := by kernel_rfl
theorem rs129 : resFn Tryz.prog 71 [] = some fn129 := by kernel_rfl
theorem rs130 : resFn Tryz.prog 80 [] = some fn130 := by kernel_rfl
theorem rs131 : resFn Tryz.prog 35 [] = some fn131 := by kernel_rfl
theorem rs132 : resFn Tryz.prog 81 [] = some fn132 := by kernel_rfl
theorem rs133 : resFn Tryz.prog 36 [] = some fn133 := by kernel_rfl
theorem rs151 : resFn Tryz.prog 145 [] = some fn151 := by kernel_rfl
theorem rs188 : resFn Tryz.prog 198 [] = some fn188 := by kernel_rfl
theorem rs189 : resFn Tryz.prog 199 [] = some fn189 := by kernel_rfl
theorem rs203 : resFn Tryz.prog 139 [] = some fn203 := by kernel_rfl
theorem rs209 : resFn Tryz.prog 219 [] = some fn209 := by kernel_rfl
theorem rs222 : resFn Tryz.prog 229 [] = some fn222 := by kernel_rfl
theorem rs279 : resFn Tryz.prog 292 [] = some fn279 := by kernel_rfl
theorem rs17 : resFn Tryz.prog 24 [] = some fn17 := by kernel_rfl
theorem rs51 : resFn Tryz.prog 28 [] = some fn51 := by kernel_rfl
theorem rs122 : resFn Tryz.prog 72 [(1,⟨[([0,1,3,4,6,7],[],some 2,[4,7]),([5],[5],some 8,[]),([9],[],none,[])],[0,1,3,0,8,31,0,64,255,511]⟩)] = some fn122 := by kernel_rfl
theorem rs88 : resFn Tryz.prog 106 [] = some fn88 := by kernel_rfl
theorem rs174 : resFn Tryz.prog 184 [(3,⟨[([0,1,2,3,4,5,6,7,8,9,10,11,12],[],none,[])],[0,1,3,7,15,0,32,96,224,480,1023,0,4095]⟩)] = some fn174 := by kernel_rfl
theorem rs246 : resFn Tryz.prog 259 [(0,⟨[([0,1,2,3,4,5,6,7,9,10,11,12,13],[],some 8,[12]),([14,15],[],none,[])],[0,1,3,7,15,31,0,127,255,0,512,1536,3584,7680,16383,32767]⟩)] = some fn246 := by kernel_rfl
theorem rs165 : resFn Tryz.prog 175 [] = some fn165 := by kernel_rfl
theorem rs737 : resFn Tryz.prog 743 [(9,⟨[([0,1,2,3,4,5,6,7,8,9,10,11,12,13],[],none,[])],[0,0,0,0,8,4,36,124,252,508,1020,2046,4095,8191]⟩),(28,⟨[([0,1,2,3,4,5,6,7,8,9],[],some 10,[]),([11,12],[],none,[])],[0,0,0,6,0,0,16,80,240,496,1022,2047,4095]⟩)] = some fn737 := by kernel_rfl
theorem rs197 : resFn Tryz.prog 140 [] = some fn197 := by kernel_rfl
theorem rs292 : resFn Tryz.prog 218 [] = some fn292 := by kernel_rfl
theorem rse4 : resFn Tryz.prog 4 [] = some fe4 := by kernel_rfl
theorem rse6 : resFn Tryz.prog 6 [] = some fe6 := by kernel_rfl
theorem rse7 : resFn Tryz.prog 7 [] = some fe7 := by kernel_rfl
theorem rse11 : resFn Tryz.prog 11 [] = some fn21 := by kernel_rfl
theorem rse12 : resFn Tryz.prog 12 [] = some fe12 := by kernel_rfl
theorem rse37 : resFn Tryz.prog 37 [(1,⟨[([0,1,4,5],[],some 2,[5]),([3,6,7],[],none,[])],[0,1,3,7,0,16,63,127]⟩)] = some fe37 := by kernel_rfl
theorem rse3 : resFn Tryz.prog 3 [] = some fe3 := by kernel_rfl
def gfns : List (Nat × RFn) := [(25, fn5), (10, fn6), (14, fn7), (31, fn19), (8, fn20), (29, fn21), (30, fn22), (13, fn23), (43, fn24), (47, fn28), (58, fn39), (63, fn44), (64, fn45), (65, fn46), (69, fn50), (73, fn52), (32, fn53), (33, fn54), (34, fn55), (27, fn56), (39, fn57), (40, fn58), (38, fn59), (41, fn60), (42, fn61), (9, fn62), (119, fn101), (120, fn102), (121, fn103), (70, fn114), (138, fn121), (141, fn123), (74, fn124), (75, fn125), (78, fn127), (79, fn128), (71, fn129), (80, fn130), (35, fn131), (81, fn132), (36, fn133), (145, fn151), (198, fn188), (199, fn189), (139, fn203), (219, fn209), (229, fn222), (292, fn279), (24, fn17), (28, fn51), (72, fn122), (106, fn88), (184, fn174), (259, fn246), (175, fn165), (743, fn737), (140, fn197), (218, fn292), (4, fe4), (6, fe6), (7, fe7), (11, fn21), (12, fe12), (37, fe37), (3, fe3)]
def envG (nats : List (Nat × (List V → Option V))) (mnats : List (Nat × (List V → Mem → Nat → Option (V × Mem × Nat)))) : Env' := { nat := ofList nats, fns := ofList gfns, sites := ofList [], mnat := ofList mnats, dfns := ofList [] }
section
variable [Gl]
theorem gfns_ok : ∀ q ∈ gfns, FnOk Tryz.prog q.1 q.2 :=
 fMc ⟨resFn_ok (fun _ => rfl) rs5, fMc ⟨resFn_ok (fun _ => rfl) rs6, fMc ⟨resFn_ok (fun _ => rfl) rs7, fMc ⟨resFn_ok (fun _ => rfl) rs19, fMc ⟨resFn_ok (fun _ => rfl) rs20, fMc ⟨resFn_ok (fun _ => rfl) rs21, fMc ⟨resFn_ok (fun _ => rfl) rs22, fMc ⟨resFn_ok (fun _ => rfl) rs23, fMc ⟨resFn_ok (fun _ => rfl) rs24, fMc ⟨resFn_ok (fun _ => rfl) rs28, fMc ⟨resFn_ok (fun _ => rfl) rs39, fMc ⟨resFn_ok (fun _ => rfl) rs44, fMc ⟨resFn_ok (fun _ => rfl) rs45, fMc ⟨resFn_ok (fun _ => rfl) rs46, fMc ⟨resFn_ok (fun _ => rfl) rs50, fMc ⟨resFn_ok (fun _ => rfl) rs52, fMc ⟨resFn_ok (fun _ => rfl) rs53, fMc ⟨resFn_ok (fun _ => rfl) rs54, fMc ⟨resFn_ok (fun _ => rfl) rs55, fMc ⟨resFn_ok (fun _ => rfl) rs56, fMc ⟨resFn_ok (fun _ => rfl) rs57, fMc ⟨resFn_ok (fun _ => rfl) rs58, fMc ⟨resFn_ok (fun _ => rfl) rs59, fMc ⟨resFn_ok (fun _ => rfl) rs60, fMc ⟨resFn_ok (fun _ => rfl) rs61, fMc ⟨resFn_ok (fun _ => rfl) rs62, fMc ⟨resFn_ok (fun _ => rfl) rs101, fMc ⟨resFn_ok (fun _ => rfl) rs102, fMc ⟨resFn_ok (fun _ => rfl) rs103, fMc ⟨resFn_ok (fun _ => rfl) rs114, fMc ⟨resFn_ok (fun _ => rfl) rs121, fMc ⟨resFn_ok (fun _ => rfl) rs123, fMc ⟨resFn_ok (fun _ => rfl) rs124, fMc ⟨resFn_ok (fun _ => rfl) rs125, fMc ⟨resFn_ok (fun _ => rfl) rs127, fMc ⟨resFn_ok (fun _ => rfl) rs128, fMc ⟨resFn_ok (fun _ => rfl) rs129, fMc ⟨resFn_ok (fun _ => rfl) rs130, fMc ⟨resFn_ok (fun _ => rfl) rs131, fMc ⟨resFn_ok (fun _ => rfl) rs132, fMc ⟨resFn_ok (fun _ => rfl) rs133, fMc ⟨resFn_ok (fun _ => rfl) rs151, fMc ⟨resFn_ok (fun _ => rfl) rs188, fMc ⟨resFn_ok (fun _ => rfl) rs189, fMc ⟨resFn_ok (fun _ => rfl) rs203, fMc ⟨resFn_ok (fun _ => rfl) rs209, fMc ⟨resFn_ok (fun _ => rfl) rs222, fMc ⟨resFn_ok (fun _ => rfl) rs279, fMc ⟨resFn_ok (fun _ => rfl) rs17, fMc ⟨resFn_ok (fun _ => rfl) rs51, fMc ⟨resFn_ok (fun _ => rfl) rs122, fMc ⟨resFn_ok (fun _ => rfl) rs88, fMc ⟨resFn_ok (fun _ => rfl) rs174, fMc ⟨resFn_ok (fun _ => rfl) rs246, fMc ⟨resFn_ok (fun _ => rfl) rs165, fMc ⟨resFn_ok (fun _ => rfl) rs737, fMc ⟨resFn_ok (fun _ => rfl) rs197, fMc ⟨resFn_ok (fun _ => rfl) rs292, fMc ⟨resFn_ok (fun _ => rfl) rse4, fMc ⟨resFn_ok (fun _ => rfl) rse6, fMc ⟨resFn_ok (fun _ => rfl) rse7, fMc ⟨resFn_ok (fun _ => rfl) rse11, fMc ⟨resFn_ok (fun _ => rfl) rse12, fMc ⟨resFn_ok (fun _ => rfl) rse37, fMc ⟨resFn_ok (fun _ => rfl) rse3, fun q hq => by cases hq⟩⟩⟩⟩⟩⟩⟩⟩⟩⟩⟩⟩⟩⟩⟩⟩⟩⟩⟩⟩⟩⟩⟩⟩⟩⟩⟩⟩⟩⟩⟩⟩⟩⟩⟩⟩⟩⟩⟩⟩⟩⟩⟩⟩⟩⟩⟩⟩⟩⟩⟩⟩⟩⟩⟩⟩⟩⟩⟩⟩⟩⟩⟩⟩⟩
theorem envG_ok {nats : List (Nat × (List V → Option V))} {mnats : List (Nat × (List V → Mem → Nat → Option (V × Mem × Nat)))} (h1 : ∀ q ∈ nats, NSpec Tryz.prog q.1 q.2) (h2 : ∀ q ∈ mnats, MSpec Tryz.prog q.1 q.2) : EnvOk Tryz.prog (envG nats mnats) :=
 envOk_of (nats := nats) (mnats := mnats) (fns := gfns) (sites := []) (dfns := []) rfl rfl rfl rfl rfl h1 h2 gfns_ok (fun q hq => by cases hq) (fun q hq => by cases hq) mix0
theorem en322 : Entry Tryz.prog 322 Extern.BytealgIndexByte.indexByte := ⟨Tryz.f322, Tryz.func322, by kernel_rfl, by kernel_rfl, by kernel_rfl, by kernel_rfl⟩
theorem nsP309 : NSpec Tryz.prog 322 tIndexByte := ns_indexByte (P := Tryz.prog) (f := 322) en322
theorem en216 : Entry Tryz.prog 216 Extern.AbiNoEscape.same := ⟨Tryz.f216, Tryz.func216, by kernel_rfl, by kernel_rfl, by kernel_rfl, by kernel_rfl⟩
theorem nsP208 : NSpec Tryz.prog 216 tSame := ns_same (P := Tryz.prog) (f := 216) (fun _ _ => rfl) en216
theorem nsP57 : NSpec Tryz.prog 39 tCut := ns_tCut (envG_ok (nats := []) (mnats := []) (fun q hq => by cases hq) (fun q hq => by cases hq)) (show Has (envG [] []) 39 fn57 from ⟨by kernel_rfl, by kernel_rfl, by kernel_rfl⟩)
theorem nsP130 : NSpec Tryz.prog 80 tDig8 := ns_tDig8 (envG_ok (nats := []) (mnats := []) (fun q hq => by cases hq) (fun q hq => by cases hq)) (show Has (envG [] []) 80 fn130 from ⟨by kernel_rfl, by kernel_rfl, by kernel_rfl⟩)
theorem nsP125 : NSpec Tryz.prog 75 tDig32 := ns_tDig32 (envG_ok (nats := []) (mnats := []) (fun q hq => by cases hq) (fun q hq => by cases hq)) (show Has (envG [] []) 75 fn125 from ⟨by kernel_rfl, by kernel_rfl, by kernel_rfl⟩)
theorem nsP58 : NSpec Tryz.prog 40 tIsInt := ns_tIsInt (envG_ok (nats := [(80, tDig8)]) (mnats := []) (fMc ⟨(nsP130), fun q hq => by cases hq⟩) (fun q hq => by cases hq)) (show Has (envG [(80, tDig8)] []) 40 fn58 from ⟨by kernel_rfl, by kernel_rfl, by kernel_rfl⟩) (by kernel_rfl)
theorem nsP61 : NSpec Tryz.prog 42 tInteger := ns_tInteger (envG_ok (nats := []) (mnats := []) (fun q hq => by cases hq) (fun q hq => by cases hq)) (show Has (envG [] []) 42 fn61 from ⟨by kernel_rfl, by kernel_rfl, by kernel_rfl⟩)
theorem nsP188 : NSpec Tryz.prog 198 tDec := ns_tDec (envG_ok (nats := []) (mnats := []) (fun q hq => by cases hq) (fun q hq => by cases hq)) (show Has (envG [] []) 198 fn188 from ⟨by kernel_rfl, by kernel_rfl, by kernel_rfl⟩)
theorem nsP44 : NSpec Tryz.prog 63 tFromInt := ns_tFromInt (envG_ok (nats := [(198, tDec)]) (mnats := []) (fMc ⟨(nsP188), fun q hq => by cases hq⟩) (fun q hq => by cases hq)) (show Has (envG [(198, tDec)] []) 63 fn44 from ⟨by kernel_rfl, by kernel_rfl, by kernel_rfl⟩) (show Has (envG [(198, tDec)] []) 120 fn102 from ⟨by kernel_rfl, by kernel_rfl, by kernel_rfl⟩) (show Has (envG [(198, tDec)] []) 199 fn189 from ⟨by kernel_rfl, by kernel_rfl, by kernel_rfl⟩) (show Has (envG [(198, tDec)] []) 292 fn279 from ⟨by kernel_rfl, by kernel_rfl, by kernel_rfl⟩) (show Has (envG [(198, tDec)] []) 119 fn101 from ⟨by kernel_rfl, by kernel_rfl, by kernel_rfl⟩) (by kernel_rfl)
theorem nsP59 : NSpec Tryz.prog 38 tSumS := ns_tSumS (envG_ok (nats := [(63, tFromInt)]) (mnats := []) (fMc ⟨(nsP44), fun q hq => by cases hq⟩) (fun q hq => by cases hq)) (show Has (envG [(63, tFromInt)] []) 38 fn59 from ⟨by kernel_rfl, by kernel_rfl, by kernel_rfl⟩) (by kernel_rfl)
theorem nsP131 : NSpec Tryz.prog 35 tKSize := ns_tKSize (envG_ok (nats := []) (mnats := []) (fun q hq => by cases hq) (fun q hq => by cases hq)) (show Has (envG [] []) 35 fn131 from ⟨by kernel_rfl, by kernel_rfl, by kernel_rfl⟩)
theorem nsP133 : NSpec Tryz.prog 36 tNameS := ns_tNameR (envG_ok (nats := []) (mnats := []) (fun q hq => by cases hq) (fun q hq => by cases hq)) (show Has (envG [] []) 36 fn133 from ⟨by kernel_rfl, by kernel_rfl, by kernel_rfl⟩)
theorem nsP28 : NSpec Tryz.prog 47 tNameS := ns_tNameP (envG_ok (nats := []) (mnats := []) (fun q hq => by cases hq) (fun q hq => by cases hq)) (show Has (envG [] []) 47 fn28 from ⟨by kernel_rfl, by kernel_rfl, by kernel_rfl⟩)
theorem nsP132 : NSpec Tryz.prog 81 tPlainS := ns_tPlainR (envG_ok (nats := []) (mnats := []) (fun q hq => by cases hq) (fun q hq => by cases hq)) (show Has (envG [] []) 81 fn132 from ⟨by kernel_rfl, by kernel_rfl, by kernel_rfl⟩)
theorem nsP22 : NSpec Tryz.prog 30 tWhen := ns_tWhen (envG_ok (nats := []) (mnats := []) (fun q hq => by cases hq) (fun q hq => by cases hq)) (show Has (envG [] []) 30 fn22 from ⟨by kernel_rfl, by kernel_rfl, by kernel_rfl⟩)
theorem nsP123 : NSpec Tryz.prog 141 tIdx1 := ns_tIdx1 (envG_ok (nats := [(322, tIndexByte)]) (mnats := []) (fMc ⟨(nsP309), fun q hq => by cases hq⟩) (fun q hq => by cases hq)) (show Has (envG [(322, tIndexByte)] []) 141 fn123 from ⟨by kernel_rfl, by kernel_rfl, by kernel_rfl⟩) (show Has (envG [(322, tIndexByte)] []) 219 fn209 from ⟨by kernel_rfl, by kernel_rfl, by kernel_rfl⟩) (by kernel_rfl)
theorem nsP52 : NSpec Tryz.prog 73 tCut1 := ns_tCutL (envG_ok (nats := [(141, tIdx1)]) (mnats := []) (fMc ⟨(nsP123), fun q hq => by cases hq⟩) (fun q hq => by cases hq)) (show Has (envG [(141, tIdx1)] []) 73 fn52 from ⟨by kernel_rfl, by kernel_rfl, by kernel_rfl⟩) (by kernel_rfl)
theorem nsP19 : NSpec Tryz.prog 31 tCut1 := ns_tCut1 (envG_ok (nats := [(73, tCut1)]) (mnats := []) (fMc ⟨(nsP52), fun q hq => by cases hq⟩) (fun q hq => by cases hq)) (show Has (envG [(73, tCut1)] []) 31 fn19 from ⟨by kernel_rfl, by kernel_rfl, by kernel_rfl⟩) (by kernel_rfl)
theorem nsP103 : NSpec Tryz.prog 121 tIdx1 := ns_tIndex (envG_ok (nats := [(141, tIdx1)]) (mnats := []) (fMc ⟨(nsP123), fun q hq => by cases hq⟩) (fun q hq => by cases hq)) (show Has (envG [(141, tIdx1)] []) 121 fn103 from ⟨by kernel_rfl, by kernel_rfl, by kernel_rfl⟩) (by kernel_rfl)
theorem nsP45 : NSpec Tryz.prog 64 tHas1 := ns_tHas1 (envG_ok (nats := [(121, tIdx1)]) (mnats := []) (fMc ⟨(nsP103), fun q hq => by cases hq⟩) (fun q hq => by cases hq)) (show Has (envG [(121, tIdx1)] []) 64 fn45 from ⟨by kernel_rfl, by kernel_rfl, by kernel_rfl⟩) (by kernel_rfl)
theorem nsP222 : NSpec Tryz.prog 229 tPre1 := ns_tPreL (envG_ok (nats := []) (mnats := []) (fun q hq => by cases hq) (fun q hq => by cases hq)) (show Has (envG [] []) 229 fn222 from ⟨by kernel_rfl, by kernel_rfl, by kernel_rfl⟩)
theorem nsP151 : NSpec Tryz.prog 145 tPre1 := ns_tPre1 (envG_ok (nats := [(229, tPre1)]) (mnats := []) (fMc ⟨(nsP222), fun q hq => by cases hq⟩) (fun q hq => by cases hq)) (show Has (envG [(229, tPre1)] []) 145 fn151 from ⟨by kernel_rfl, by kernel_rfl, by kernel_rfl⟩) (by kernel_rfl)
theorem nsP46 : NSpec Tryz.prog 65 tForm := ns_tForm (envG_ok (nats := []) (mnats := []) (fun q hq => by cases hq) (fun q hq => by cases hq)) (show Has (envG [] []) 65 fn46 from ⟨by kernel_rfl, by kernel_rfl, by kernel_rfl⟩)
theorem nsP128 : NSpec Tryz.prog 79 tPlainS := ns_tPlainP (envG_ok (nats := [(216, tSame), (31, tCut1), (145, tPre1), (64, tHas1)]) (mnats := []) (fMc ⟨(nsP208), fMc ⟨(nsP19), fMc ⟨(nsP151), fMc ⟨(nsP45), fun q hq => by cases hq⟩⟩⟩⟩) (fun q hq => by cases hq)) (show Has (envG [(216, tSame), (31, tCut1), (145, tPre1), (64, tHas1)] []) 79 fn128 from ⟨by kernel_rfl, by kernel_rfl, by kernel_rfl⟩) (show Has (envG [(216, tSame), (31, tCut1), (145, tPre1), (64, tHas1)] []) 69 fn50 from ⟨by kernel_rfl, by kernel_rfl, by kernel_rfl⟩) (show Has (envG [(216, tSame), (31, tCut1), (145, tPre1), (64, tHas1)] []) 138 fn121 from ⟨by kernel_rfl, by kernel_rfl, by kernel_rfl⟩) (show Has (envG [(216, tSame), (31, tCut1), (145, tPre1), (64, tHas1)] []) 58 fn39 from ⟨by kernel_rfl, by kernel_rfl, by kernel_rfl⟩) (by kernel_rfl) (by kernel_rfl) (by kernel_rfl) (by kernel_rfl)
theorem msP60 : MSpec Tryz.prog 41 (tEv (parO parseR)) := ms_parR (envG_ok (nats := [(39, tCut), (35, tKSize), (81, tPlainS)]) (mnats := []) (fMc ⟨(nsP57), fMc ⟨(nsP131), fMc ⟨(nsP132), fun q hq => by cases hq⟩⟩⟩) (fun q hq => by cases hq)) (show Has (envG [(39, tCut), (35, tKSize), (81, tPlainS)] []) 41 fn60 from ⟨by kernel_rfl, by kernel_rfl, by kernel_rfl⟩) (by kernel_rfl) (by kernel_rfl) (by kernel_rfl)
theorem msP62 : MSpec Tryz.prog 9 (tChk) := ms_chkR (envG_ok (nats := [(35, tKSize), (36, tNameS)]) (mnats := []) (fMc ⟨(nsP131), fMc ⟨(nsP133), fun q hq => by cases hq⟩⟩) (fun q hq => by cases hq)) (show Has (envG [(35, tKSize), (36, tNameS)] []) 9 fn62 from ⟨by kernel_rfl, by kernel_rfl, by kernel_rfl⟩) (by kernel_rfl) (by kernel_rfl)
theorem msP23 : MSpec Tryz.prog 13 (tEv decO) := ms_decR (envG_ok (nats := [(39, tCut), (40, tIsInt), (38, tSumS), (42, tInteger)]) (mnats := [(41, tEv (parO parseR)), (9, tChk)]) (fMc ⟨(nsP57), fMc ⟨(nsP58), fMc ⟨(nsP59), fMc ⟨(nsP61), fun q hq => by cases hq⟩⟩⟩⟩) (fMc ⟨(msP60), fMc ⟨(msP62), fun q hq => by cases hq⟩⟩)) (show Has (envG [(39, tCut), (40, tIsInt), (38, tSumS), (42, tInteger)] [(41, tEv (parO parseR)), (9, tChk)]) 13 fn23 from ⟨by kernel_rfl, by kernel_rfl, by kernel_rfl⟩) (by kernel_rfl) (by kernel_rfl) (by kernel_rfl) (by kernel_rfl) (by kernel_rfl) (by kernel_rfl) (by kernel_rfl) (by kernel_rfl)
theorem nsP54 (nsP69 : NSpec Tryz.prog 77 tFromInt) : NSpec Tryz.prog 33 tSumS := ns_tSumP (envG_ok (nats := [(77, tFromInt)]) (mnats := []) (fMc ⟨nsP69, fun q hq => by cases hq⟩) (fun q hq => by cases hq)) (show Has (envG [(77, tFromInt)] []) 33 fn54 from ⟨by kernel_rfl, by kernel_rfl, by kernel_rfl⟩) (by kernel_rfl)
theorem nsP53 (nsP126 : NSpec Tryz.prog 76 tAtoi) : NSpec Tryz.prog 32 tIntP := ns_tIntP (envG_ok (nats := [(75, tDig32), (76, tAtoi)]) (mnats := []) (fMc ⟨(nsP125), fMc ⟨nsP126, fun q hq => by cases hq⟩⟩) (fun q hq => by cases hq)) (show Has (envG [(75, tDig32), (76, tAtoi)] []) 32 fn53 from ⟨by kernel_rfl, by kernel_rfl, by kernel_rfl⟩) (show Has (envG [(75, tDig32), (76, tAtoi)] []) 74 fn124 from ⟨by kernel_rfl, by kernel_rfl, by kernel_rfl⟩) (by kernel_rfl) (by kernel_rfl)
theorem msP55 : MSpec Tryz.prog 34 (tEv (parO parseP)) := ms_parP (envG_ok (nats := [(31, tCut1), (65, tForm), (79, tPlainS)]) (mnats := []) (fMc ⟨(nsP19), fMc ⟨(nsP46), fMc ⟨(nsP128), fun q hq => by cases hq⟩⟩⟩) (fun q hq => by cases hq)) (show Has (envG [(31, tCut1), (65, tForm), (79, tPlainS)] []) 34 fn55 from ⟨by kernel_rfl, by kernel_rfl, by kernel_rfl⟩) (show Has (envG [(31, tCut1), (65, tForm), (79, tPlainS)] []) 78 fn127 from ⟨by kernel_rfl, by kernel_rfl, by kernel_rfl⟩) (by kernel_rfl) (by kernel_rfl) (by kernel_rfl)
theorem msP56 : MSpec Tryz.prog 27 (tChk) := ms_chkP (envG_ok (nats := [(65, tForm), (30, tWhen), (47, tNameS)]) (mnats := []) (fMc ⟨(nsP46), fMc ⟨(nsP22), fMc ⟨(nsP28), fun q hq => by cases hq⟩⟩⟩) (fun q hq => by cases hq)) (show Has (envG [(65, tForm), (30, tWhen), (47, tNameS)] []) 27 fn56 from ⟨by kernel_rfl, by kernel_rfl, by kernel_rfl⟩) (by kernel_rfl) (by kernel_rfl) (show Has (envG [(65, tForm), (30, tWhen), (47, tNameS)] []) 29 fn21 from ⟨by kernel_rfl, by kernel_rfl, by kernel_rfl⟩) (show Has (envG [(65, tForm), (30, tWhen), (47, tNameS)] []) 70 fn114 from ⟨by kernel_rfl, by kernel_rfl, by kernel_rfl⟩) (show Has (envG [(65, tForm), (30, tWhen), (47, tNameS)] []) 139 fn203 from ⟨by kernel_rfl, by kernel_rfl, by kernel_rfl⟩) (show Has (envG [(65, tForm), (30, tWhen), (47, tNameS)] []) 71 fn129 from ⟨by kernel_rfl, by kernel_rfl, by kernel_rfl⟩) (by kernel_rfl)
theorem msP20 (nsP69 : NSpec Tryz.prog 77 tFromInt) (nsP126 : NSpec Tryz.prog 76 tAtoi) : MSpec Tryz.prog 8 (tEv decO) := ms_decP (envG_ok (nats := [(31, tCut1), (32, tIntP), (33, tSumS)]) (mnats := [(34, tEv (parO parseP)), (27, tChk)]) (fMc ⟨(nsP19), fMc ⟨(nsP53 nsP126), fMc ⟨(nsP54 nsP69), fun q hq => by cases hq⟩⟩⟩) (fMc ⟨(msP55), fMc ⟨(msP56), fun q hq => by cases hq⟩⟩)) (show Has (envG [(31, tCut1), (32, tIntP), (33, tSumS)] [(34, tEv (parO parseP)), (27, tChk)]) 8 fn20 from ⟨by kernel_rfl, by kernel_rfl, by kernel_rfl⟩) (by kernel_rfl) (by kernel_rfl) (by kernel_rfl) (by kernel_rfl) (by kernel_rfl) (by kernel_rfl) (by kernel_rfl)
theorem nsP17 : NSpec Tryz.prog 24 tEsc := ns_tEsc (envG_ok (nats := []) (mnats := []) (fun q hq => by cases hq) (fun q hq => by cases hq)) (show Has (envG [] []) 24 fn17 from ⟨by kernel_rfl, by kernel_rfl, by kernel_rfl⟩)
theorem nsP165 (nsP242 : NSpec Tryz.prog 255 tCount) : NSpec Tryz.prog 175 tCount1 := ns_tCount1 (envG_ok (nats := [(255, tCount)]) (mnats := []) (fMc ⟨nsP242, fun q hq => by cases hq⟩) (fun q hq => by cases hq)) (show Has (envG [(255, tCount)] []) 175 fn165 from ⟨by kernel_rfl, by kernel_rfl, by kernel_rfl⟩) (by kernel_rfl)
end
end Go.Fm
end
