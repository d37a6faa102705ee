import Derived.JoinedOf
import Derived.KernelRfl
import Derived.Test.YtammfmmmblgkkaaGreatDoorProg
import Derived.Test.YtammfmmmblgkkaaGreatDoorRows
set_option maxRecDepth 100000
set_option linter.unusedSectionVars false
set_option linter.unusedVariables false
set_option linter.unusedSimpArgs false
set_option linter.constructorNameAsVariable false
namespace Go.Fm
theorem map_cut {α β : Type} {f : α → β} {l : List α} {a k b : Nat} {A B : List β} (hb : b = a + k) (h1 : ((l.drop a).take k).map f = A) (h2 : (l.drop b).map f = B) : (l.drop a).map f = A ++ B := by
 subst hb
 rw [← h1, ← h2, ← List.map_append]
 congr 1
 rw [← List.drop_drop, List.take_append_drop]
def bitN (m f : Nat) : Bool := Nat.beq (Nat.land (Nat.shiftRight m f) 1) 1
theorem bitN_eq (m f : Nat) : bitN m f = m.testBit f := by
 have e : Nat.land (Nat.shiftRight m f) 1 = (m >>> f) % 2 := by
  show (m >>> f) &&& 1 = _
  exact Nat.and_one_is_mod _
 unfold bitN
 rw [e, Nat.testBit_eq_decide_div_mod_eq, ← Nat.shiftRight_eq_div_pow]
 cases h : decide (m >>> f % 2 = 1) with
 | true => rw [of_decide_eq_true h]; rfl
 | false =>
  have h2 := of_decide_eq_false h
  cases h3 : Nat.beq (m >>> f % 2) 1 with
  | false => rfl
  | true => exact absurd (Nat.eq_of_beq_eq_true h3) h2
def nthD {α : Type} (d : α) : List α → Nat → α
 | [], _ => d
 | a :: _, 0 => a
 | _ :: r, n + 1 => nthD d r n
theorem nthD_eq {α : Type} (d : α) : ∀ (l : List α) (n : Nat), nthD d l n = (l[n]?).getD d
 | [], n => by simp [nthD]
 | a :: r, 0 => rfl
 | a :: r, n + 1 => by simp [nthD, nthD_eq d r n]
def cloM (T : List (List Nat)) : Nat → List Nat → Nat → List Nat → Option (List Nat)
 | _, [], _, seen => some seen.reverse
 | 0, _ :: _, _, _ => none
 | n + 1, f :: todo, mask, seen => bif bitN mask f then cloM T n todo mask seen else cloM T n (nthD [] T f ++ todo) (Nat.lor mask (Nat.shiftLeft 1 f)) (f :: seen)
theorem cloM_ok {P : Program} {T : List (List Nat)} (hT : P.funcs.toList.map P.leadsTo = T) : ∀ (k : Nat) (todo : List Nat) (mask : Nat) (seen r : List Nat), (∀ f, mask.testBit f = seen.contains f) → cloM T k todo mask seen = some r → ∀ n, k ≤ n → P.closureVia n todo seen = r
 | k, [], mask, seen, r, hm, h, n, hn => by
  have h : some seen.reverse = some r := by cases k <;> exact h
  injection h with h; subst h
  cases n <;> rfl
 | 0, f :: todo, mask, seen, r, hm, h, n, hn => by cases h
 | k + 1, f :: todo, mask, seen, r, hm, h, n, hn => by
  obtain ⟨n, rfl⟩ : ∃ n', n = n' + 1 := ⟨n - 1, by omega⟩
  unfold cloM at h
  unfold Program.closureVia
  rw [bitN_eq, hm] at h
  cases hc : seen.contains f with
  | true =>
   rw [hc] at h
   simp only [cond_true] at h
   rw [if_pos rfl]
   exact cloM_ok hT k todo mask seen r hm h n (by omega)
  | false =>
   rw [hc] at h
   simp only [cond_false] at h
   rw [if_neg (by simp)]
   have e : (P.funcs[f]?).elim [] P.leadsTo = nthD [] T f := by
    rw [nthD_eq, ← hT, List.getElem?_map, Array.getElem?_toList]
    cases P.funcs[f]? <;> rfl
   rw [e]
   refine cloM_ok hT k _ _ _ r (fun g => ?_) h n (by omega)
   show (mask ||| (1 <<< f)).testBit g = _
   rw [Nat.testBit_or, hm, Nat.testBit_shiftLeft]
   simp only [List.contains_cons]
   by_cases hg : g = f
   ·subst hg; simp
   ·have h1 : (g == f) = false := by simpa using hg
    rw [h1, Bool.false_or]
    by_cases hle : f ≤ g
    ·have : 0 < g - f := by omega
     simp [hle, Nat.testBit_one_eq_true_iff_self_eq_zero]
     omega
    ·simp [hle]
theorem closure_of {P : Program} {T : List (List Nat)} (hT : P.funcs.toList.map P.leadsTo = T) {f : Nat} {k : Nat} {r : List Nat} (h : cloM T k [f] 0 [] = some r) (hk : k ≤ 1 + (T.map fun x => x.length + 1).sum) : P.closure f = r := by
 unfold Program.closure
 have e : (P.funcs.toList.map fun g => (P.leadsTo g).length + 1) = T.map fun x => x.length + 1 := by
  rw [← hT, List.map_map]; rfl
 rw [e]
 exact cloM_ok hT k [f] 0 [] r (fun f => by simp) h _ hk
theorem grown_fix {P : Program} {L : List TypeId} (h : P.grow L = L) : ∀ n, P.grown n L = L
 | 0 => rfl
 | n + 1 => by
  show P.grown n (P.grow L) = L
  rw [h]; exact grown_fix h n
theorem book_plain {P : Program} {t : TypeId} (h : P.grow [t] = [t]) : P.book t = [t] := grown_fix h _
theorem range_cut {p : Nat → Bool} {a k b n : Nat} (hb : b = a + k) (h1 : ((List.range' a k).all p) = true) (h2 : ∀ i, b ≤ i → i < n → p i = true) : ∀ i, a ≤ i → i < n → p i = true := by
 intro i hi hn
 by_cases h : i < b
 ·exact List.all_eq_true.1 h1 i (List.mem_range'_1.2 ⟨hi, by omega⟩)
 ·exact h2 i (by omega) hn
theorem range_all {p : Nat → Bool} {n : Nat} (h : ∀ i, 0 ≤ i → i < n → p i = true) : ((List.range n).all p) = true := List.all_eq_true.2 fun i hi => h i (Nat.zero_le _) (List.mem_range.1 hi)
theorem range_end {p : Nat → Bool} {b n : Nat} (h : n ≤ b) : ∀ i, b ≤ i → i < n → p i = true := fun i h1 h2 => by omega
theorem and2 {a b : Bool} (h1 : a = true) (h2 : b = true) : (a && b) = true := by rw [h1, h2]; rfl
end Go.Fm
namespace Go.Fm
open Go.Proofs
def t0 : List (List Nat) := [[],[],[1],[4,5,6,7,4],[8,9,10,8,11,12,13,14,14,15,17,16,16,16,18,5,18],[19,20,22,21],[23],[24],[25,26],[26,27],[26,22,22,21,28,22,22,29,21,30,31,32],[33,22,22,21,34,34,35,36],[36,37,27,37,38,39],[36,40,41,42,43],[44,44,44],[],[22,45,22,21,34,46,47,48,49],[],[51,50,39],[52],[19,53,54,19,53,55,56],[],[],[57,58,59,57,60,58,61,62],[],[63,64],[65,66,67],[69,27,70,27,27],[],[19,71,72,72,74,74,73,75],[19,74,76,74,74],[77,78,79],[80,81,81,81],[82],[83],[34,84,85,86,8],[28,22,22,21,87,85,22],[88,50],[],[],[],[89,90,91,92,93,93,94],[95,95,95,95],[97,99,98,96,100],[102,101],[103],[],[55,22,56,21,104,69],[105,106,109,110,111,112,113],[85,114,115,116,117,116,118,120,119,88],[121],[122,54],[123],[124,125,126],[69],[127,46,128],[46,22,22,22,114,129,22,22,22,21],[],[130],[44],[57,131,57,132],[],[131,133],[]]
theorem ld0 : ((Tryz.prog.funcs.toList.drop 0).take 64).map Tryz.prog.leadsTo = t0 := by kernel_rfl
def t64 : List (List Nat) := [[135,134],[65],[66],[68],[22,22,22,21,22,28,22,22,21,70,22,22,22,21],[136],[137,139,140,139,141,139,142,143],[146],[147],[148,148,149,150],[151,152,126,154,155,153,154,156,157],[],[154],[79,79,77,79,70],[158,158],[154,76],[],[69,159,160,161,162,50,50,39],[163],[164,165,103],[79,166,166,166,167,168,168,168,170,169,171,169],[172],[],[84,22,22,173,21,26],[174,50,50,50,39],[90],[31],[175,176,21,177,94],[75,80,69,79,178,91],[84,179,95],[],[32,32,32],[],[28,98,180,181,96,182],[],[184,183],[185,98,99,99,98,98,98,96,29,186,187,98],[188,188],[189],[123],[86,116,190],[],[107,108],[43,191,79,192,193,140,194],[],[195],[196,12,197,108],[198,69],[199,200,108],[201,202,197,108],[203],[28],[],[204,205],[206,207],[],[],[208],[69,46,197,88],[209,210,209,211,210,212],[],[],[213,214],[19]]
theorem ld64 : ((Tryz.prog.funcs.toList.drop 64).take 64).map Tryz.prog.leadsTo = t64 := by kernel_rfl
def t128 : List (List Nat) := [[45,19,50,151,50,151,50,39],[28],[],[],[],[],[215,85,216],[217,134],[218],[138],[157],[219],[80,80,156,76,153,153,156,153,220],[138,140],[153,153,220],[144,79,145],[149],[221,142],[222],[],[157],[],[159,159,160,223,223,149,154,224,156],[222],[225],[227,227,226,159,159,228,223],[],[154,153,153],[159,159,229,223,230,231,223,231,223],[159,223],[232,81,152],[227],[230,233,234,234,235,236,234,236,237,234,234],[238],[239,151,151,151,151,151,174,50,38,38,38,39,50,39],[],[240,241],[240,242,103],[79,79,79],[],[243],[244],[138],[138],[],[114,245,22],[121,246],[28,22],[140,140,140],[],[142,142,142],[32],[247,248,249,250,252,253,144,251],[254,255,256,98],[180,254,257,258,248,144,166,79,259,260,261,79,259,260,263,262],[119],[],[79,79,264,265,266,264,268,270,273,264,274,275,264,265,276,277],[30],[153,153,278],[],[279],[280,281,282,283],[284,285]]
theorem ld128 : ((Tryz.prog.funcs.toList.drop 128).take 64).map Tryz.prog.leadsTo = t128 := by kernel_rfl
def t192 : List (List Nat) := [[286],[287],[78,32],[43,288,96,289],[43,28,22,21,290,290],[291,292],[293,294,295],[296,284],[297,298,299],[300,301,302,303,304,305],[306,50,307,308,88,38,39],[],[],[],[],[],[],[309],[],[],[310],[311],[312,313,314,315],[316],[215],[215,317,216,217],[318,319,320,321],[],[149,157,157,73,322,322],[220],[],[],[157,156],[222],[],[],[226,323,323,234],[323,234],[],[324,234],[159,325],[235],[],[325],[],[323,233,226,323,226,323,324,324,323],[318,319,320,321],[326,226],[],[327],[],[],[],[28],[328],[254],[258,258,258,258],[329],[144,144,144],[],[330,144,330,144,330,144],[331,330],[332],[333]]
theorem ld192 : ((Tryz.prog.funcs.toList.drop 192).take 64).map Tryz.prog.leadsTo = t192 := by kernel_rfl
def t256 : List (List Nat) := [[30,144],[],[30,30,30],[330,145,178,330,145,178,176,330,145,178,176,330,140],[154,73,322,153,76,154,142,148,73,76,145,178,142],[138,138,138],[334],[335,335,336,79,142,142,336,142,337,338],[],[],[267],[79,79,142,138,138,272,272,138,138,138,141,272,138,141,272,138,138,272,272,271],[269,138,269],[187],[142,272,271],[],[],[272,271],[144],[267],[144],[154,154,220,142,79,79,79,142,142,140,140,272,79,79,138,138,272,272],[224,149],[],[11,13,117,339],[117,117,22,22,21,340],[117,117,341,343,118,118,118,342,339],[344],[345,346,305],[347,186,277,348,349],[],[79,166,350,258,258,258,253,140,176,176,178,176,154,154,220,142,154,154,220,178],[29,30,144],[191,351,352,353,303,193,354,30,187,79,355,30,187,356,30,187],[30,357],[],[359,358],[43,361,362,295,360,363,364,295],[365],[],[43,98],[368,369,338],[79,166,370,140,176],[78,32],[43,372,371],[97,345],[373],[374,376,375],[248,377,378,379,380,381,330,330,330,330,141,138,382,78,372,372,371,383,179],[374,384,375],[372,385,386,371],[],[],[],[],[387],[388],[388],[388,69,389],[388,69,389],[124,125,390,124,391,392],[215,216,64,215,216,28,216,53,216],[],[325,393,394]]
theorem ld256 : ((Tryz.prog.funcs.toList.drop 256).take 64).map Tryz.prog.leadsTo = t256 := by kernel_rfl
def t320 : List (List Nat) := [[],[395,396],[149,157,157,150],[],[],[],[],[],[],[],[142,142,140,142,140],[142,142,141,142,142,141,142,142,141],[29],[],[397,398,399],[144,138],[79,400,187],[166,79,166,79,142,79,142,79,142,401],[402],[340,403],[404,405,407,408],[409],[411,412,412,412,413,414,414,415,414,414,415,22,43,21],[341,416,341,410],[],[182],[417,347,345,345,418,419,303,420,421],[99,99],[95,32,422,423],[424,425,334],[368,426,401,427],[99,99,428],[78,32],[429],[79,258,330,187],[430,79,79,431,140,79,145,432,79,79,187],[347,186,258,141,141,141,141,141,141,187,145],[144,138,357,75,75],[433,434],[435],[],[295,295,360,436],[295,410,295,360],[199,287,437],[439,440,441,366,442],[366,367],[444,443],[445,446,447],[424,448,425],[],[79,166,253,79,145,140,176,176,79,145,178,176],[],[],[296,346],[297,297],[334],[369,338],[],[449,450],[],[],[166,30],[451],[452,86]]
theorem ld320 : ((Tryz.prog.funcs.toList.drop 320).take 64).map Tryz.prog.leadsTo = t320 := by kernel_rfl
def t384 : List (List Nat) := [[454,453],[],[455,456,372,457,372,372,458,29,371],[459,459,459,459,459,459,460],[],[],[],[390,125],[209],[],[],[],[461,462],[260,32,75,78],[464,463],[],[],[465,467,466],[469,144,470,469,144,401],[],[],[406],[471],[],[472,473],[410,118],[474],[475],[476],[478,477],[480,479],[177],[482],[285,347,345,185,186,271,348,483],[303],[303],[305],[303],[254,29,484,258,30,250,485],[180,486,484,248,381,259,485],[486],[454,487,263],[489,488,490],[491,95],[374,492,250,493,494,495],[],[345,417,347,345,345,303,303],[248,497,258,498,499,187,500,269],[501,79,502,79,345,502,79,258,258,330,330,145],[503],[504,505,433,506],[507,508],[254,258,250,295],[258,438],[509],[],[510],[512,513,511],[],[514],[],[515,518,517,512,519,511],[520],[521,523,522]]
theorem ld384 : ((Tryz.prog.funcs.toList.drop 384).take 64).map Tryz.prog.leadsTo = t384 := by kernel_rfl
def t448 : List (List Nat) := [[524,524,524,496],[525,526],[422,423],[],[],[338,527,402,402],[381],[],[383,172],[],[],[],[459,459,459,459,459,459],[],[],[478,528],[448],[530,529,531,532,533],[478,534],[468,468,331,330,144],[141,141,141],[330,141],[535,469,469,144,144,144,141,145,468,178,176],[536],[],[537],[],[],[538,539],[540,541,542,543,544,545,546,547,548,477,477],[549,325],[550],[481],[551],[],[297,486,257,381,402,375],[],[397],[154,154,148,73,75,149,251,251,251,29,484],[79,263,553,552],[555,554],[],[397],[78,78,78],[397,527,533,269,369,470,166,556,176],[491,95],[478,557],[448,30,30,187,496],[],[368,558,427],[468,559],[478,560],[],[79,79,79,272,271,348],[297,486,257,381,166,402,533,269,556,176,493],[],[561],[562],[564,563],[565],[566],[567,568,250,144,569],[],[514]]
theorem ld448 : ((Tryz.prog.funcs.toList.drop 448).take 64).map Tryz.prog.leadsTo = t448 := by kernel_rfl
def t512 : List (List Nat) := [[],[],[],[516,119],[],[416,570],[571],[],[512,572,511],[166,79,176,140,144,221,178],[573,574,573,573,574],[575,576],[577,577],[],[525,578],[261,138],[579,580,581,582,583,584,585,586,528,528],[587,466],[588],[187,187,187,496],[],[531],[589,590,591,592,593,594,595,596,534,534],[597],[],[598,598,598],[],[],[546],[599,599],[600,601],[602,602,602,603],[],[546,546,546],[604,604],[546,546],[546,546,546,546],[],[],[],[605],[533,269],[478,606],[448],[166,535,331,176,154,154,220,178],[607,608,609,610,611,612,613,614,557,557],[465],[615],[616,617,618,619,620,621,622,623,560,560],[624,625,626,627,628],[629,624,630,631,626],[],[],[151,632],[566,566,566,566,566],[497,258,381,469,144],[633],[469,144,144,144,512,469,520,144,468,141,145,178,176],[478,634],[],[410],[187,187,496],[141,141,142,141,141,142,187],[497,258,144,468,141,145,178,176]]
theorem ld512 : ((Tryz.prog.funcs.toList.drop 512).take 64).map Tryz.prog.leadsTo = t512 := by kernel_rfl
def t576 : List (List Nat) := [[635,636,573,637,638,639,640,641,639,640],[],[642,642,642,642],[],[643,643],[600,601],[644,644,644,645],[],[],[],[],[646],[],[],[647,647],[600,601],[648,648,648,649],[],[],[],[],[],[],[546,546],[478],[],[603],[650,650,650],[],[],[651,652,653,654,655,656,657,658,606,606],[],[659,659],[600,601],[660,660,660,661],[],[],[],[],[330,330,145],[],[662,662],[600,601],[663,663,663,664],[],[],[],[],[],[],[],[],[665,625,666,667,625,668,669,668,667,630,626,627],[],[],[670,625,671,671],[],[381,330,144,330,330,138,144,144,178,178,176,142,142,140],[672,673,674,675,676,677,678,679,680,634,634],[],[478,681],[],[573],[]]
theorem ld576 : ((Tryz.prog.funcs.toList.drop 576).take 64).map Tryz.prog.leadsTo = t576 := by kernel_rfl
def t640 : List (List Nat) := [[574],[682],[30,138,32],[],[645],[683,683,683],[],[],[649],[684,684,684],[546],[],[685,685],[600,601],[686,686,686,687],[],[],[],[],[],[661],[688,688,688],[],[664],[689,689,689],[],[],[],[],[],[],[],[678],[690,690],[600,601],[691,691,691,692],[],[678,678,678],[577,577],[678,678],[678,678,678,678],[693,694,695,696,697,698,699,700,681,681],[],[],[],[],[687],[701,701,701],[],[],[678,678],[692],[702,702,702],[],[703,703],[600,601],[704,704,704,705],[],[],[],[],[],[678],[]]
theorem ld640 : ((Tryz.prog.funcs.toList.drop 640).take 64).map Tryz.prog.leadsTo = t640 := by kernel_rfl
def t704 : List (List Nat) := [[705],[706,706,706],[],[],[],[],[],[],[],[],[],[],[],[],[],[],[],[],[],[],[],[],[],[],[730,174,50,50,50,39],[733,730],[],[732],[733,734],[],[151],[],[733],[165],[733],[741,372],[],[],[744,744,744,372],[],[30,30,187],[744,372,30,144,372,371],[],[741],[],[],[],[],[],[121],[359,358],[],[],[],[],[],[],[],[],[],[389,389]]
theorem ld704 : ((Tryz.prog.funcs.toList.drop 704).take 64).map Tryz.prog.leadsTo = t704 := by kernel_rfl
theorem ldE : (Tryz.prog.funcs.toList.drop 768).map Tryz.prog.leadsTo = [] := by kernel_rfl
def tAll : List (List Nat) := t0 ++ (t64 ++ (t128 ++ (t192 ++ (t256 ++ (t320 ++ (t384 ++ (t448 ++ (t512 ++ (t576 ++ (t640 ++ (t704 ++ [])))))))))))
theorem ldAll : Tryz.prog.funcs.toList.map Tryz.prog.leadsTo = tAll := map_cut rfl ld0 (map_cut rfl ld64 (map_cut rfl ld128 (map_cut rfl ld192 (map_cut rfl ld256 (map_cut rfl ld320 (map_cut rfl ld384 (map_cut rfl ld448 (map_cut rfl ld512 (map_cut rfl ld576 (map_cut rfl ld640 (map_cut rfl ld704 (ldE))))))))))))
def clo : List Nat := [3,4,8,25,63,64,135,217,215,316,124,125,390,391,392,209,309,317,216,28,53,126,213,311,387,459,460,214,312,388,313,314,69,136,218,318,319,325,393,394,320,321,395,396,461,462,389,315,134,85,172,26,65,66,67,68,22,21,70,137,138,157,159,227,223,139,219,140,80,156,229,323,234,230,231,324,76,154,153,226,228,220,149,73,148,150,160,233,235,236,237,224,322,141,142,143,144,79,145,221,9,27,10,29,19,52,123,210,211,212,310,71,146,222,72,147,74,151,152,225,155,75,30,31,77,78,158,232,81,161,238,162,239,326,174,121,208,246,328,50,38,39,32,11,33,82,163,34,83,164,240,241,327,165,242,103,35,84,166,167,168,243,170,169,244,171,86,36,87,173,114,203,245,12,37,88,13,40,41,89,90,91,175,176,177,94,92,178,93,179,95,42,43,97,98,180,247,254,332,248,258,249,329,250,252,330,253,331,251,181,255,333,256,96,182,257,259,260,261,263,335,336,400,187,278,337,401,465,530,588,529,587,646,466,478,549,534,589,590,647,591,600,601,592,648,649,684,593,594,595,596,531,496,532,533,467,468,338,402,469,470,535,597,262,334,397,398,464,448,524,577,463,528,579,580,643,581,582,644,645,683,583,584,585,586,399,99,184,183,119,100,185,264,265,266,267,272,271,268,269,270,273,274,275,276,277,186,14,44,102,189,279,101,188,15,17,16,45,46,47,55,127,128,56,129,104,116,190,280,117,204,205,339,340,404,405,406,471,536,407,408,472,473,537,598,403,281,282,341,409,410,474,118,206,207,343,416,482,342,411,475,412,476,538,539,413,477,540,546,604,541,599,542,543,602,603,650,544,545,547,548,414,480,481,551,479,550,415,283,344,48,105,106,107,191,284,345,346,417,285,347,348,422,484,485,423,486,381,349,424,425,454,487,553,552,605,483,297,368,369,375,418,303,374,376,419,420,305,384,453,527,421,192,286,193,287,350,426,489,488,555,554,606,651,652,685,653,654,686,687,701,655,656,657,658,490,427,491,194,108,109,195,288,289,351,428,492,556,493,494,557,607,608,659,609,610,660,661,688,611,612,613,614,495,352,353,429,354,355,430,431,497,558,498,559,615,499,560,616,617,662,618,619,663,664,689,620,621,622,623,500,432,501,502,356,110,196,290,357,197,291,292,359,435,507,565,632,508,566,358,433,503,434,504,561,624,625,626,627,628,665,666,667,668,669,630,505,562,629,631,670,671,506,564,563,111,198,293,361,295,360,436,362,363,199,296,437,438,509,567,568,633,569,512,520,572,511,514,364,439,440,510,441,513,366,444,443,442,294,365,367,445,515,516,518,571,517,570,634,672,678,673,690,674,675,691,692,702,676,677,679,680,519,446,447,521,523,575,576,635,636,681,693,694,703,695,696,704,705,706,697,698,699,700,573,637,638,639,640,574,641,682,522,112,200,298,370,299,113,201,300,372,371,301,302,373,304,377,378,449,525,526,578,642,450,379,380,382,451,383,452,202,306,385,386,455,456,457,458,307,308,49,115,120,18,51,122,54,5,20,6,23,57,58,130,59,60,131,132,61,62,133,7,24]
theorem cloRun : cloM tAll 1791 [3] 0 [] = some clo := by kernel_rfl
theorem cloSum : Nat.ble 1791 (1 + (tAll.map fun x => x.length + 1).sum) = true := by kernel_rfl
theorem clo3 : Tryz.prog.closure 3 = clo := closure_of ldAll cloRun (Nat.le_of_ble_eq_true cloSum)
end Go.Fm
namespace Go.Proofs.YtammfmmmblgkkaaGreatDoor
open Go Go.Fm
abbrev rw_ : OpenClaim := Rows.yardRecoversRow
abbrev sp_ : ChangeSpec := Rows.yardRecoversSpec
theorem j1 : rw_.wf (OpenSpec.ofChange sp_) = true := by kernel_rfl
theorem j3 : mapsRowed Tryz.prog = true := by kernel_rfl
theorem j5 : namedTie Tryz.prog rw_.named sp_.vars = true := by kernel_rfl
theorem j6 : (rw_.stops == []) = true := by kernel_rfl
theorem j7 : (Tryz.prog.stops == []) = true := by kernel_rfl
theorem j8 : (rw_.knobs == []) = true := by kernel_rfl
theorem j9 : (Tryz.prog.stopKnobs == []) = true := by kernel_rfl
theorem gr9 : Tryz.prog.grow [9] = [9] := by kernel_rfl
theorem gr4 : Tryz.prog.grow [4] = [4] := by kernel_rfl
theorem bk9 : Tryz.prog.book 9 = [9] := book_plain gr9
theorem bk4 : Tryz.prog.book 4 = [4] := book_plain gr4
theorem par3 : Tryz.f3.params = #[9] := by kernel_rfl
theorem res3 : Tryz.f3.resultTypes = #[4] := by kernel_rfl
theorem read9 : Tryz.prog.readableRec 9 = true := by unfold Program.readableRec; rw [bk9]; kernel_rfl
theorem read4 : Tryz.prog.readableRec 4 = true := by unfold Program.readableRec; rw [bk4]; kernel_rfl
theorem maps9 : Tryz.prog.mapsRec 9 = false := by unfold Program.mapsRec; rw [bk9]; kernel_rfl
theorem ifs9 : Tryz.prog.ifacesRec 9 = false := by unfold Program.ifacesRec; rw [bk9]; kernel_rfl
theorem ifs4 : Tryz.prog.ifacesRec 4 = false := by unfold Program.ifacesRec; rw [bk4]; kernel_rfl
theorem lps9 : Tryz.prog.loopsFrom 9 = false := by unfold Program.loopsFrom; rw [bk9]; kernel_rfl
theorem lps4 : Tryz.prog.loopsFrom 4 = false := by unfold Program.loopsFrom; rw [bk4]; kernel_rfl
theorem wk9 : Tryz.prog.wideKeysFrom 9 = false := by unfold Program.wideKeysFrom; rw [bk9]; kernel_rfl
theorem wk4 : Tryz.prog.wideKeysFrom 4 = false := by unfold Program.wideKeysFrom; rw [bk4]; kernel_rfl
theorem vl9 : Tryz.prog.veiledRec 9 = false := by unfold Program.veiledRec; rw [bk9]; kernel_rfl
theorem vl4 : Tryz.prog.veiledRec 4 = false := by unfold Program.veiledRec; rw [bk4]; kernel_rfl
theorem vt0 : sp_.plain.varTypes Tryz.prog = [] := by kernel_rfl
theorem j4 : (Tryz.f3.params.all fun t => Tryz.prog.readableRec t) = true := by rw [par3]; simp [read9]
theorem j14 : (rw_.maps == (Tryz.f3.params.toList ++ sp_.plain.varTypes Tryz.prog).any (Tryz.prog.mapsRec ·)) = true := by rw [par3, vt0]; simp [maps9]; rfl
theorem j15 : (rw_.ifaces == (Tryz.f3.params.toList ++ sp_.plain.varTypes Tryz.prog).any (Tryz.prog.ifacesRec ·)) = true := by rw [par3, vt0]; simp [ifs9]; rfl
theorem j16 : (rw_.mapsOut == Tryz.prog.mapsAmong Tryz.f3.resultTypes.toList) = true := by kernel_rfl
theorem j17 : (rw_.loops == (Tryz.f3.params.toList ++ sp_.plain.varTypes Tryz.prog).any (Tryz.prog.loopsFrom ·)) = true := by rw [par3, vt0]; simp [lps9]; rfl
theorem j17b : (rw_.wideKeys == (Tryz.f3.params.toList ++ sp_.plain.varTypes Tryz.prog ++ Tryz.f3.resultTypes.toList).any (Tryz.prog.wideKeysFrom ·)) = true := by rw [par3, vt0, res3]; simp [wk9, wk4]; rfl
theorem j18 : (sp_.vars.all (Tryz.prog.varReadable ·)) = true := by kernel_rfl
theorem j20 : (rw_.ifacesOut == Tryz.f3.resultTypes.toList.any (Tryz.prog.ifacesRec ·)) = true := by rw [res3]; simp [ifs4]; rfl
theorem j21 : (rw_.loopsOut == Tryz.f3.resultTypes.toList.any (Tryz.prog.loopsFrom ·)) = true := by rw [res3]; simp [lps4]; rfl
theorem lt4 : decide (4 < Tryz.prog.types.size) = true := by kernel_rfl
theorem j19 : (Tryz.f3.resultTypes.all fun t => Tryz.prog.readableRec t && decide (t < Tryz.prog.types.size)) = true := by rw [res3]; simp [read4]
theorem j22 : (rw_.plainKeys == Tryz.prog.plainKeys) = true := by kernel_rfl
theorem j23 : rw_.shortTexts.isNone = true := by kernel_rfl
theorem j23b : Tryz.prog.stopsHeard = true := by kernel_rfl
theorem j24 : Tryz.prog.mayEnter = true := by kernel_rfl
theorem j24b : (rw_.lifted == Tryz.prog.liftsFinal) = true := by kernel_rfl
theorem j24c : (Tryz.prog.make == some rw_.make) = true := by kernel_rfl
theorem j26 : (rw_.pinned == rw_.pinnedBy) = true := by kernel_rfl
theorem j27 : (rw_.veiled == (Tryz.f3.params.toList ++ sp_.plain.varTypes Tryz.prog ++ Tryz.f3.resultTypes.toList).any (Tryz.prog.veiledRec ·)) = true := by rw [par3, vt0, res3]; simp [vl9, vl4]; rfl
end Go.Proofs.YtammfmmmblgkkaaGreatDoor
namespace Go.Proofs.YtammfmmmblgkkaaGreatDoor
open Go Go.Fm
theorem j10 : Tryz.prog.inPlace 3 = rw_.inPlace := by unfold Program.inPlace; rw [clo3]; kernel_rfl
theorem j11 : Tryz.prog.unfollowed 3 = true := by unfold Program.unfollowed; rw [clo3]; kernel_rfl
theorem j12 : Tryz.prog.recurses 3 = true := by unfold Program.recurses; rw [j11]; rfl
theorem j13 : Tryz.prog.varsNamed 3 = rw_.named := by unfold Program.varsNamed; rw [clo3]; kernel_rfl
theorem j25 : (rw_.kinds == (if rw_.domain.isEmpty then [] else Tryz.f3.params.toList.map fun t => match Tryz.prog.underlying t with | some (.int k) => some k | _ => none)) = true := by kernel_rfl
theorem j28 : rw_.veiledFits Tryz.prog Tryz.f3.params.toList (Tryz.f3.params.toList ++ sp_.plain.varTypes Tryz.prog ++ Tryz.f3.resultTypes.toList) = true := by kernel_rfl
end Go.Proofs.YtammfmmmblgkkaaGreatDoor
namespace Go.Proofs.YtammfmmmblgkkaaGreatDoor
open Go Go.Fm
theorem tsz : Tryz.prog.types.size = 876 := by kernel_rfl
theorem rf0 : ((List.range' 0 73).all (rowFine Tryz.prog)) = true := by kernel_rfl
theorem rf73 : ((List.range' 73 73).all (rowFine Tryz.prog)) = true := by kernel_rfl
theorem rf146 : ((List.range' 146 73).all (rowFine Tryz.prog)) = true := by kernel_rfl
theorem rf219 : ((List.range' 219 73).all (rowFine Tryz.prog)) = true := by kernel_rfl
theorem rf292 : ((List.range' 292 73).all (rowFine Tryz.prog)) = true := by kernel_rfl
theorem rf365 : ((List.range' 365 73).all (rowFine Tryz.prog)) = true := by kernel_rfl
theorem rf438 : ((List.range' 438 73).all (rowFine Tryz.prog)) = true := by kernel_rfl
theorem rf511 : ((List.range' 511 73).all (rowFine Tryz.prog)) = true := by kernel_rfl
theorem rf584 : ((List.range' 584 73).all (rowFine Tryz.prog)) = true := by kernel_rfl
theorem rf657 : ((List.range' 657 73).all (rowFine Tryz.prog)) = true := by kernel_rfl
theorem rf730 : ((List.range' 730 73).all (rowFine Tryz.prog)) = true := by kernel_rfl
theorem rf803 : ((List.range' 803 73).all (rowFine Tryz.prog)) = true := by kernel_rfl
theorem rfAll : ((List.range Tryz.prog.types.size).all (rowFine Tryz.prog)) = true := by
 rw [tsz]
 exact range_all (range_cut rfl rf0 (range_cut rfl rf73 (range_cut rfl rf146 (range_cut rfl rf219 (range_cut rfl rf292 (range_cut rfl rf365 (range_cut rfl rf438 (range_cut rfl rf511 (range_cut rfl rf584 (range_cut rfl rf657 (range_cut rfl rf730 (range_cut rfl rf803 (range_end (Nat.le_refl _))))))))))))))
theorem lo2 : Tryz.prog.globals.all (fun g => decide (g.type < Tryz.prog.types.size)) = true := by kernel_rfl
theorem lo3 : Tryz.prog.funcs.all (fun f => f.params.all fun t => decide (t < Tryz.prog.types.size)) = true := by kernel_rfl
theorem j2 : laidOutB Tryz.prog = true := and2 (and2 rfAll lo2) lo3
end Go.Proofs.YtammfmmmblgkkaaGreatDoor
