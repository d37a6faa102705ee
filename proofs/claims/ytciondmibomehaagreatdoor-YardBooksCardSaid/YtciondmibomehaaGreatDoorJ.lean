import Derived.JoinedOf
import Derived.KernelRfl
import Derived.Test.YtciondmibomehaaGreatDoorProg
import Derived.Test.YtciondmibomehaaGreatDoorRows
set_option maxRecDepth 100000
set_option linter.unusedSectionVars false
set_option linter.unusedVariables false
set_option linter.unusedSimpArgs false
set_option linter.constructorNameAsVariable false
noncomputable section
namespace Go.Fm
theorem map_cut {α β : Type} {f : α → β} {l : List α} {a k b : Nat} {A B : List β} (hb : b = a + k) (h1 : ((l.drop a).take k).map f = A) (h2 : (l.drop b).map f = B) : (l.drop a).map f = A ++ B := by
 subst hb
 rw [← h1, ← h2, ← List.map_append]
 congr 1
 rw [← List.drop_drop, List.take_append_drop]
def bitN (m f : Nat) : Bool := Nat.beq (Nat.land (Nat.shiftRight m f) 1) 1
theorem bitN_eq (m f : Nat) : bitN m f = m.testBit f := by
 have e : Nat.land (Nat.shiftRight m f) 1 = (m >>> f) % 2 := by
  show (m >>> f) &&& 1 = _
  exact Nat.and_one_is_mod _
 unfold bitN
 rw [e, Nat.testBit_eq_decide_div_mod_eq, ← Nat.shiftRight_eq_div_pow]
 cases h : decide (m >>> f % 2 = 1) with
 | true => rw [of_decide_eq_true h]; rfl
 | false =>
  have h2 := of_decide_eq_false h
  cases h3 : Nat.beq (m >>> f % 2) 1 with
  | false => rfl
  | true => exact absurd (Nat.eq_of_beq_eq_true h3) h2
def nthD {α : Type} (d : α) : List α → Nat → α
 | [], _ => d
 | a :: _, 0 => a
 | _ :: r, n + 1 => nthD d r n
theorem nthD_eq {α : Type} (d : α) : ∀ (l : List α) (n : Nat), nthD d l n = (l[n]?).getD d
 | [], n => by simp [nthD]
 | a :: r, 0 => rfl
 | a :: r, n + 1 => by simp [nthD, nthD_eq d r n]
def cloM (T : List (List Nat)) : Nat → List Nat → Nat → List Nat → Option (List Nat)
 | _, [], _, seen => some seen.reverse
 | 0, _ :: _, _, _ => none
 | n + 1, f :: todo, mask, seen => bif bitN mask f then cloM T n todo mask seen else cloM T n (nthD [] T f ++ todo) (Nat.lor mask (Nat.shiftLeft 1 f)) (f :: seen)
theorem cloM_ok {P : Program} {T : List (List Nat)} (hT : P.funcs.toList.map P.leadsTo = T) : ∀ (k : Nat) (todo : List Nat) (mask : Nat) (seen r : List Nat), (∀ f, mask.testBit f = seen.contains f) → cloM T k todo mask seen = some r → ∀ n, k ≤ n → P.closureVia n todo seen = r
 | k, [], mask, seen, r, hm, h, n, hn => by
  have h : some seen.reverse = some r := by cases k <;> exact h
  injection h with h; subst h
  cases n <;> rfl
 | 0, f :: todo, mask, seen, r, hm, h, n, hn => by cases h
 | k + 1, f :: todo, mask, seen, r, hm, h, n, hn => by
  obtain ⟨n, rfl⟩ : ∃ n', n = n' + 1 := ⟨n - 1, by omega⟩
  unfold cloM at h
  unfold Program.closureVia
  rw [bitN_eq, hm] at h
  cases hc : seen.contains f with
  | true =>
   rw [hc] at h
   simp only [cond_true] at h
   rw [if_pos rfl]
   exact cloM_ok hT k todo mask seen r hm h n (by omega)
  | false =>
   rw [hc] at h
   simp only [cond_false] at h
   rw [if_neg (by simp)]
   have e : (P.funcs[f]?).elim [] P.leadsTo = nthD [] T f := by
    rw [nthD_eq, ← hT, List.getElem?_map, Array.getElem?_toList]
    cases P.funcs[f]? <;> rfl
   rw [e]
   refine cloM_ok hT k _ _ _ r (fun g => ?_) h n (by omega)
   show (mask ||| (1 <<< f)).testBit g = _
   rw [Nat.testBit_or, hm, Nat.testBit_shiftLeft]
   simp only [List.contains_cons]
   by_cases hg : g = f
   ·subst hg; simp
   ·have h1 : (g == f) = false := by simpa using hg
    rw [h1, Bool.false_or]
    by_cases hle : f ≤ g
    ·have : 0 < g - f := by omega
     simp [hle, Nat.testBit_one_eq_true_iff_self_eq_zero]
     omega
    ·simp [hle]
theorem closure_of {P : Program} {T : List (List Nat)} (hT : P.funcs.toList.map P.leadsTo = T) {f : Nat} {k : Nat} {r : List Nat} (h : cloM T k [f] 0 [] = some r) (hk : k ≤ 1 + (T.map fun x => x.length + 1).sum) : P.closure f = r := by
 unfold Program.closure
 have e : (P.funcs.toList.map fun g => (P.leadsTo g).length + 1) = T.map fun x => x.length + 1 := by
  rw [← hT, List.map_map]; rfl
 rw [e]
 exact cloM_ok hT k [f] 0 [] r (fun f => by simp) h _ hk
theorem grown_fix {P : Program} {L : List TypeId} (h : P.grow L = L) : ∀ n, P.grown n L = L
 | 0 => rfl
 | n + 1 => by
  show P.grown n (P.grow L) = L
  rw [h]; exact grown_fix h n
theorem book_plain {P : Program} {t : TypeId} (h : P.grow [t] = [t]) : P.book t = [t] := grown_fix h _
theorem range_cut {p : Nat → Bool} {a k b n : Nat} (hb : b = a + k) (h1 : ((List.range' a k).all p) = true) (h2 : ∀ i, b ≤ i → i < n → p i = true) : ∀ i, a ≤ i → i < n → p i = true := by
 intro i hi hn
 by_cases h : i < b
 ·exact List.all_eq_true.1 h1 i (List.mem_range'_1.2 ⟨hi, by omega⟩)
 ·exact h2 i (by omega) hn
theorem range_all {p : Nat → Bool} {n : Nat} (h : ∀ i, 0 ≤ i → i < n → p i = true) : ((List.range n).all p) = true := List.all_eq_true.2 fun i hi => h i (Nat.zero_le _) (List.mem_range.1 hi)
theorem range_end {p : Nat → Bool} {b n : Nat} (h : n ≤ b) : ∀ i, b ≤ i → i < n → p i = true := fun i h1 h2 => by omega
theorem and2 {a b : Bool} (h1 : a = true) (h2 : b = true) : (a && b) = true := by rw [h1, h2]; rfl
end Go.Fm
namespace Go.Fm
open Go.Proofs
def t0 : List (List Nat) := [[],[],[1],[4,5,6,7,8,9,10,11,12,12,13,14,5],[],[15,16,17,15,18,19,20,21,21,22,24,23,23,23,26,25,26],[27,28],[25,27,30,29,28],[31,32,33,31,32,34,27],[35,36],[13],[],[37,38],[39,40,38,39,41,40,42,9],[43],[44,45],[45,46],[45,30,30,29,47,30,30,48,29,49,50,51],[52,30,30,29,53,53,54,55],[55,56,46,56,57,58],[55,59,60,61,62],[63,63,63],[],[30,64,30,29,53,65,66,67,68],[],[31,8,30,29],[28,69,58],[65,30,30,30,70,71,30,30,30,29],[72,33],[],[],[73],[74,75,76],[77],[78,65,79],[],[],[63,35,24],[63],[],[80],[39,35,39,81],[],[],[82,83],[84,85,86],[77,46,88,46,46],[],[31,89,90,90,92,92,91,93],[31,92,94,92,92],[95,96,97],[98,99,99,99],[100],[101],[53,102,103,104,15],[47,30,30,29,105,103,30],[106,69],[],[],[],[107,108,109,110,111,111,112],[113,113,113,113],[115,117,116,114,118],[120,119]]
theorem ld0 : ((Tryz.prog.funcs.toList.drop 0).take 64).map Tryz.prog.leadsTo = t0 := by kernel_rfl
def t64 : List (List Nat) := [[121],[],[34,30,27,29,122,77],[123,124,127,128,129,130,131],[103,70,132,133,134,133,135,137,136,106],[138],[139],[47],[77,65,140,106],[141],[],[],[142,143],[144],[31],[64,31,69,145,69,145,69,58],[],[],[],[147,146],[84],[85],[87],[30,30,30,29,30,47,30,30,29,88,30,30,30,29],[148,150,151,150,152,150,153,154],[157],[158],[159,159,160,161],[145,162,76,164,165,163,164,166,167],[],[164],[97,97,95,97,88],[168,168],[164,94],[],[77,169,170,171,172,69,69,58],[173],[174,175,121],[97,176,176,176,177,178,178,178,180,179,181,179],[182],[],[102,30,30,183,29,45],[184,69,69,69,58],[108],[50],[185,186,29,187,112],[93,98,77,97,188,109],[102,189,113],[],[51,51,51],[],[47,116,190,191,114,192],[],[194,193],[195,116,117,117,116,116,116,114,48,196,197,116],[198,198],[199],[141],[104,133,200],[],[125,126],[62,201,97,202,203,151,204],[],[205]]
theorem ld64 : ((Tryz.prog.funcs.toList.drop 64).take 64).map Tryz.prog.leadsTo = t64 := by kernel_rfl
def t128 : List (List Nat) := [[206,19,140,126],[207,77],[208,209,126],[210,211,140,126],[47],[],[212,213],[214,215],[],[],[216],[],[217,218],[219,220,219,221,220,222],[223],[224,225,226,227],[228],[229],[230,103,231],[232,146],[149],[167],[233],[98,98,166,94,163,163,166,163,234],[149,151],[163,163,234],[155,97,156],[160],[235,153],[229],[],[167],[],[169,169,170,236,236,160,164,237,166],[238],[240,240,239,169,169,241,236],[],[164,163,163],[169,169,242,236,243,244,236,244,236],[169,236],[245,99,162],[240],[243,246,247,247,248,249,247,249,250,247,247],[251],[252,145,145,145,145,145,184,69,57,57,57,58,69,58],[],[253,254],[253,255,121],[97,97,97],[],[256],[257],[149],[149],[],[70,258,30],[138,259],[47,30],[151,151,151],[],[153,153,153],[51],[260,261,262,263,265,266,155,264],[267,268,269,116]]
theorem ld128 : ((Tryz.prog.funcs.toList.drop 128).take 64).map Tryz.prog.leadsTo = t128 := by kernel_rfl
def t192 : List (List Nat) := [[190,267,270,271,261,155,176,97,272,273,274,97,272,273,276,275],[136],[],[97,97,277,278,279,277,281,283,286,277,287,288,277,278,289,290],[49],[163,163,291],[],[292],[293,294,295,296],[297,298],[299],[300],[96,51],[62,301,114,302],[62,47,30,29,303,303],[304,305,306],[307,297],[308,309,310],[311,312,313,314,315,316],[317,69,318,319,106,57,58],[],[],[],[],[],[],[321,320],[322],[],[],[323],[324],[325],[325],[325,77,326],[325,77,326],[327,328,329,330],[],[331],[230],[230,332,231,232],[],[160,167,167,91,333,333],[234],[],[167,166],[229],[],[],[239,334,334,247],[334,247],[],[335,247],[169,336],[248],[],[336],[],[334,246,239,334,239,334,335,335,334],[327,328,329,330],[337,239],[],[338],[]]
theorem ld192 : ((Tryz.prog.funcs.toList.drop 192).take 64).map Tryz.prog.leadsTo = t192 := by kernel_rfl
def t256 : List (List Nat) := [[],[],[47],[339],[267],[271,271,271,271],[340],[155,155,155],[],[341,155,341,155,341,155],[342,341],[343],[344],[49,155],[],[49,49,49],[341,156,188,341,156,188,186,341,156,188,186,341,151],[164,91,333,163,94,164,153,159,91,94,156,188,153],[149,149,149],[345],[346,346,347,97,153,153,347,153,348,349],[],[],[280],[97,97,153,149,149,285,285,149,149,149,152,285,149,152,285,149,149,285,285,284],[282,149,282],[197],[153,285,284],[],[],[285,284],[155],[280],[155],[164,164,234,153,97,97,97,153,153,151,151,285,97,97,149,149,285,285],[237,160],[],[18,20,134,350],[134,134,30,30,29,351],[134,134,352,354,135,135,135,353,350],[355],[356,357,316],[358,196,290,359,360],[],[97,176,361,271,271,271,266,151,186,186,188,186,164,164,234,153,164,164,234,188],[48,49,155],[201,362,363,364,314,203,365,49,197,97,366,49,197,367,49,197],[49,368],[62,370,371,306,369,372,373,306],[374],[],[62,116],[377,378,349],[97,176,379,151,186],[96,51],[62,381,380],[115,356],[382],[383,385,384],[261,386,387,388,389,390,341,341,341,341,152,149,391,96,381,381,380,392,189],[383,393,384],[381,394,395,380],[],[]]
theorem ld256 : ((Tryz.prog.funcs.toList.drop 256).take 64).map Tryz.prog.leadsTo = t256 := by kernel_rfl
def t320 : List (List Nat) := [[396,397],[398],[],[],[399,399,399,399,399,399,400],[],[],[],[336,401,402],[],[403,404],[74,75,405,74,406,407],[230,231,83,230,231,47,231,32,231],[160,167,167,161],[],[],[],[],[],[],[],[153,153,151,153,151],[153,153,152,153,153,152,153,153,152],[48],[],[408,409,410],[155,149],[97,411,197],[176,97,176,97,153,97,153,97,153,412],[413],[351,414],[415,416,418,419],[420],[422,423,423,423,424,425,425,426,425,425,426,30,62,29],[352,427,352,421],[],[192],[428,358,356,356,429,430,314,431,432],[117,117],[113,51,433,434],[435,436,345],[377,437,412,438],[117,117,439],[96,51],[440],[97,271,341,197],[441,97,97,442,151,97,156,443,97,97,197],[358,196,271,152,152,152,152,152,152,197,156],[155,149,368,93,93],[],[306,306,369,444],[306,421,306,369],[208,300,445],[447,448,449,375,450],[375,376],[452,451],[453,454,455],[435,456,436],[],[97,176,266,97,156,151,186,186,97,156,188,186],[],[],[307,357],[308,308]]
theorem ld320 : ((Tryz.prog.funcs.toList.drop 320).take 64).map Tryz.prog.leadsTo = t320 := by kernel_rfl
def t384 : List (List Nat) := [[345],[378,349],[],[457,458],[],[],[176,49],[459],[460,104],[462,461],[],[463,464,381,465,381,381,466,48,380],[467],[468,469,396,470],[471,472],[],[399,399,399,399,399,399],[],[],[],[473,474],[],[405,75],[219],[273,51,93,96],[476,475],[],[],[477,479,478],[481,155,482,481,155,412],[],[],[417],[483],[],[484,485],[421,135],[486],[487],[488],[490,489],[492,491],[187],[494],[298,358,356,195,196,284,359,495],[314],[314],[316],[314],[267,48,496,271,49,263,497],[190,498,496,261,390,272,497],[498],[462,499,276],[501,500,502],[503,113],[383,504,263,505,506,507],[],[356,428,358,356,356,314,314],[261,509,271,510,511,197,512,282],[513,97,514,97,356,514,97,271,271,341,341,156],[267,271,263,306],[271,446],[515],[]]
theorem ld384 : ((Tryz.prog.funcs.toList.drop 384).take 64).map Tryz.prog.leadsTo = t384 := by kernel_rfl
def t448 : List (List Nat) := [[516],[518,519,517],[],[520],[],[521,524,523,518,525,517],[526],[527,529,528],[530,530,530,508],[531,532],[433,434],[],[],[349,533,413,413],[390],[],[392,182],[],[],[],[534],[535],[537,536],[538],[539],[],[],[490,540],[456],[542,541,543,544,545],[490,546],[480,480,342,341,155],[152,152,152],[341,152],[547,481,481,155,155,155,152,156,480,188,186],[548],[],[549],[],[],[550,551],[552,553,554,555,556,557,558,559,560,489,489],[561,336],[562],[493],[563],[],[308,498,270,390,413,384],[],[408],[164,164,159,91,93,160,264,264,264,48,496],[97,276,565,564],[567,566],[],[408],[96,96,96],[408,533,545,282,378,482,176,568,186],[503,113],[490,569],[456,49,49,197,508],[],[377,570,438],[480,571],[490,572]]
theorem ld448 : ((Tryz.prog.funcs.toList.drop 448).take 64).map Tryz.prog.leadsTo = t448 := by kernel_rfl
def t512 : List (List Nat) := [[],[97,97,97,285,284,359],[308,498,270,390,176,413,545,282,568,186,505],[573,574,263,155,575],[],[520],[],[],[],[522,136],[],[427,576],[577],[],[518,578,517],[176,97,186,151,155,235,188],[579,580,579,579,580],[581,582],[583,583],[],[531,584],[274,149],[585,586,587,588,589],[590,585,591,592,587],[],[],[145,593],[539,539,539,539,539],[594,595,596,597,598,599,600,601,540,540],[602,478],[603],[197,197,197,508],[],[543],[604,605,606,607,608,609,610,611,546,546],[612],[],[613,613,613],[],[],[558],[614,614],[615,616],[617,617,617,618],[],[558,558,558],[619,619],[558,558],[558,558,558,558],[],[],[],[620],[545,282],[490,621],[456],[176,547,342,186,164,164,234,188],[622,623,624,625,626,627,628,629,569,569],[477],[630],[631,632,633,634,635,636,637,638,572,572],[509,271,390,481,155],[639],[481,155,155,155,518,481,526,155,480,152,156,188,186]]
theorem ld512 : ((Tryz.prog.funcs.toList.drop 512).take 64).map Tryz.prog.leadsTo = t512 := by kernel_rfl
def t576 : List (List Nat) := [[490,640],[],[421],[197,197,508],[152,152,153,152,152,153,197],[509,271,155,480,152,156,188,186],[641,642,579,643,644,645,646,647,645,646],[],[648,648,648,648],[],[],[],[],[649,586,650,651,586,652,653,652,651,591,587,588],[],[],[654,586,655,655],[],[],[656,656],[615,616],[657,657,657,658],[],[],[],[],[659],[],[],[660,660],[615,616],[661,661,661,662],[],[],[],[],[],[],[558,558],[490],[],[618],[663,663,663],[],[],[664,665,666,667,668,669,670,671,621,621],[],[672,672],[615,616],[673,673,673,674],[],[],[],[],[341,341,156],[],[675,675],[615,616],[676,676,676,677],[],[],[],[],[390,341,155,341,341,149,155,155,188,188,186,153,153,151]]
theorem ld576 : ((Tryz.prog.funcs.toList.drop 576).take 64).map Tryz.prog.leadsTo = t576 := by kernel_rfl
def t640 : List (List Nat) := [[678,679,680,681,682,683,684,685,686,640,640],[],[490,687],[],[579],[],[580],[688],[49,149,51],[],[],[],[],[],[],[],[],[658],[689,689,689],[],[],[662],[690,690,690],[558],[],[691,691],[615,616],[692,692,692,693],[],[],[],[],[],[674],[694,694,694],[],[677],[695,695,695],[684],[696,696],[615,616],[697,697,697,698],[],[684,684,684],[583,583],[684,684],[684,684,684,684],[699,700,701,702,703,704,705,706,687,687],[],[],[],[],[693],[707,707,707],[],[],[684,684],[698],[708,708,708],[],[709,709],[615,616],[710,710,710,711],[]]
theorem ld640 : ((Tryz.prog.funcs.toList.drop 640).take 64).map Tryz.prog.leadsTo = t640 := by kernel_rfl
def t704 : List (List Nat) := [[],[],[],[],[684],[],[711],[712,712,712],[],[],[],[],[],[],[],[],[],[],[],[],[],[],[],[],[],[],[],[],[],[],[736,184,69,69,69,58],[739,736],[],[738],[739,740],[],[145],[],[739],[175],[739],[747,381],[],[],[750,750,750,381],[],[49,49,197],[750,381,49,155,381,380],[],[747],[],[],[],[],[],[138],[321,320],[],[],[],[],[],[],[]]
theorem ld704 : ((Tryz.prog.funcs.toList.drop 704).take 64).map Tryz.prog.leadsTo = t704 := by kernel_rfl
def t768 : List (List Nat) := [[],[],[326,326]]
theorem ld768 : ((Tryz.prog.funcs.toList.drop 768).take 64).map Tryz.prog.leadsTo = t768 := by kernel_rfl
theorem ldE : (Tryz.prog.funcs.toList.drop 832).map Tryz.prog.leadsTo = [] := by kernel_rfl
def tAll : List (List Nat) := t0 ++ (t64 ++ (t128 ++ (t192 ++ (t256 ++ (t320 ++ (t384 ++ (t448 ++ (t512 ++ (t576 ++ (t640 ++ (t704 ++ (t768 ++ []))))))))))))
theorem ldAll : Tryz.prog.funcs.toList.map Tryz.prog.leadsTo = tAll := map_cut rfl ld0 (map_cut rfl ld64 (map_cut rfl ld128 (map_cut rfl ld192 (map_cut rfl ld256 (map_cut rfl ld320 (map_cut rfl ld384 (map_cut rfl ld448 (map_cut rfl ld512 (map_cut rfl ld576 (map_cut rfl ld640 (map_cut rfl ld704 (map_cut rfl ld768 (ldE)))))))))))))
def clo : List Nat := [3,4,5,15,44,82,83,147,232,230,331,74,75,405,406,407,219,322,332,231,47,32,76,142,223,324,399,400,143,224,325,225,226,77,144,228,327,328,336,401,402,329,330,403,404,473,474,326,227,146,103,182,45,84,85,86,87,30,29,88,148,149,167,169,240,236,150,233,151,98,166,242,334,247,243,244,335,94,164,163,239,241,234,160,91,159,161,170,246,248,249,250,237,333,152,153,154,155,97,156,235,16,46,17,48,31,73,141,220,221,222,323,89,157,229,90,158,92,145,162,238,165,93,49,50,95,96,168,245,99,171,251,172,252,337,184,138,216,259,339,69,57,58,51,18,52,100,173,53,101,174,253,254,338,175,255,121,54,102,176,177,178,256,180,179,257,181,104,55,105,183,70,139,258,19,56,106,20,59,60,107,108,109,185,186,187,112,110,188,111,189,113,61,62,115,116,190,260,267,343,261,271,262,340,263,265,341,266,342,264,191,268,344,269,114,192,270,272,273,274,276,346,347,411,197,291,348,412,477,542,603,541,602,659,478,490,561,546,604,605,660,606,615,616,607,661,662,690,608,609,610,611,543,508,544,545,479,480,349,413,481,482,547,612,275,345,408,409,476,456,530,583,475,540,594,595,656,596,597,657,658,689,598,599,600,601,410,117,194,193,136,118,195,277,278,279,280,285,284,281,282,283,286,287,288,289,290,196,21,63,120,199,292,119,198,22,24,23,64,65,66,34,78,79,27,71,122,133,200,293,134,212,213,350,351,415,416,417,483,548,418,419,484,485,549,613,414,294,295,352,420,421,486,135,214,215,354,427,494,353,422,487,423,488,550,551,424,489,552,558,619,553,614,554,555,617,618,663,556,557,559,560,425,492,493,563,491,562,426,296,355,67,123,124,125,201,297,356,357,428,298,358,359,433,496,497,434,498,390,360,435,436,462,499,565,564,620,495,308,377,378,384,429,314,383,385,430,431,316,393,461,533,432,202,299,203,300,361,437,501,500,567,566,621,664,665,691,666,667,692,693,707,668,669,670,671,502,438,503,204,126,127,205,301,302,362,439,504,568,505,506,569,622,623,672,624,625,673,674,694,626,627,628,629,507,363,364,440,365,366,441,442,509,570,510,571,630,511,572,631,632,675,633,634,676,677,695,635,636,637,638,512,443,513,514,367,128,206,303,368,140,217,218,321,398,471,538,593,472,539,320,396,467,397,468,534,585,586,587,588,589,649,650,651,652,653,591,469,535,590,592,654,655,470,537,536,129,207,304,370,306,369,444,371,372,208,307,445,446,515,573,574,639,575,518,526,578,517,520,373,447,448,516,449,519,375,452,451,450,305,374,376,453,521,522,524,577,523,576,640,678,684,679,696,680,681,697,698,708,682,683,685,686,525,454,455,527,529,581,582,641,642,687,699,700,709,701,702,710,711,712,703,704,705,706,579,643,644,645,646,580,647,688,528,130,209,309,379,310,131,210,311,381,380,312,313,382,315,386,387,457,531,532,584,648,458,388,389,391,459,392,460,211,317,394,395,463,464,465,466,318,319,68,132,137,26,28,72,33,25,8,6,7,9,35,36,10,13,39,40,80,38,41,81,42,11,12,37,14,43]
theorem cloRun : cloM tAll 1811 [3] 0 [] = some clo := by kernel_rfl
theorem cloSum : Nat.ble 1811 (1 + (tAll.map fun x => x.length + 1).sum) = true := by kernel_rfl
theorem clo3 : Tryz.prog.closure 3 = clo := closure_of ldAll cloRun (Nat.le_of_ble_eq_true cloSum)
end Go.Fm
namespace Go.Proofs.Bk
open Go Go.Fm
theorem book_two {P : Program} {t : TypeId} {L1 L2 : List TypeId} {n : Nat} (hs : P.types.size = n + 2) (h1 : P.grow [t] = L1) (h2 : P.grow L1 = L2) (h3 : P.grow L2 = L2) : P.book t = L2 := by
 unfold Program.book
 rw [hs]
 show P.grown n (P.grow (P.grow [t])) = L2
 rw [h1, h2]; exact grown_fix h3 n
theorem tsz : Tryz.prog.types.size = 880 := by kernel_rfl
theorem gr9 : Tryz.prog.grow [9] = [9] := by kernel_rfl
theorem gr4 : Tryz.prog.grow [4] = [4] := by kernel_rfl
theorem gr25 : Tryz.prog.grow [25] = [25, 3, 9, 22, 23] := by kernel_rfl
theorem gr25b : Tryz.prog.grow [25, 3, 9, 22, 23] = [25, 3, 9, 22, 23] := by kernel_rfl
theorem bk9 : Tryz.prog.book 9 = [9] := book_plain gr9
theorem bk4 : Tryz.prog.book 4 = [4] := book_plain gr4
theorem bk25 : Tryz.prog.book 25 = [25, 3, 9, 22, 23] := book_two (n := 878) tsz gr25 gr25b gr25b
theorem par3 : Tryz.f3.params = #[25, 9, 9] := by kernel_rfl
theorem res3 : Tryz.f3.resultTypes = #[4] := by kernel_rfl
theorem read25 : Tryz.prog.readableRec 25 = true := by unfold Program.readableRec; rw [bk25]; kernel_rfl
theorem read9 : Tryz.prog.readableRec 9 = true := by unfold Program.readableRec; rw [bk9]; kernel_rfl
theorem read4 : Tryz.prog.readableRec 4 = true := by unfold Program.readableRec; rw [bk4]; kernel_rfl
theorem maps25 : Tryz.prog.mapsRec 25 = false := by unfold Program.mapsRec; rw [bk25]; kernel_rfl
theorem maps9 : Tryz.prog.mapsRec 9 = false := by unfold Program.mapsRec; rw [bk9]; kernel_rfl
theorem ifs25 : Tryz.prog.ifacesRec 25 = false := by unfold Program.ifacesRec; rw [bk25]; kernel_rfl
theorem ifs9 : Tryz.prog.ifacesRec 9 = false := by unfold Program.ifacesRec; rw [bk9]; kernel_rfl
theorem ifs4 : Tryz.prog.ifacesRec 4 = false := by unfold Program.ifacesRec; rw [bk4]; kernel_rfl
theorem lps25 : Tryz.prog.loopsFrom 25 = false := by unfold Program.loopsFrom; rw [bk25]; kernel_rfl
theorem lps9 : Tryz.prog.loopsFrom 9 = false := by unfold Program.loopsFrom; rw [bk9]; kernel_rfl
theorem lps4 : Tryz.prog.loopsFrom 4 = false := by unfold Program.loopsFrom; rw [bk4]; kernel_rfl
theorem wk25 : Tryz.prog.wideKeysFrom 25 = false := by unfold Program.wideKeysFrom; rw [bk25]; kernel_rfl
theorem wk9 : Tryz.prog.wideKeysFrom 9 = false := by unfold Program.wideKeysFrom; rw [bk9]; kernel_rfl
theorem wk4 : Tryz.prog.wideKeysFrom 4 = false := by unfold Program.wideKeysFrom; rw [bk4]; kernel_rfl
theorem vl25 : Tryz.prog.veiledRec 25 = false := by unfold Program.veiledRec; rw [bk25]; kernel_rfl
theorem vl9 : Tryz.prog.veiledRec 9 = false := by unfold Program.veiledRec; rw [bk9]; kernel_rfl
theorem vl4 : Tryz.prog.veiledRec 4 = false := by unfold Program.veiledRec; rw [bk4]; kernel_rfl
theorem j4 : (Tryz.f3.params.all fun t => Tryz.prog.readableRec t) = true := by rw [par3]; simp [read9, read25]
end Go.Proofs.Bk
namespace Go.Proofs.YtciondmibomehaaGreatDoor
open Go Go.Fm Go.Proofs.Bk
abbrev rw_ : OpenClaim := Rows.yardBooksRow
abbrev sp_ : ChangeSpec := Rows.yardBooksSpec
theorem j1 : rw_.wf (OpenSpec.ofChange sp_) = true := by kernel_rfl
theorem j3 : mapsRowed Tryz.prog = true := by kernel_rfl
theorem j5 : namedTie Tryz.prog rw_.named sp_.vars = true := by kernel_rfl
theorem j6 : (rw_.stops == []) = true := by kernel_rfl
theorem j7 : (Tryz.prog.stops == []) = true := by kernel_rfl
theorem j8 : (rw_.knobs == []) = true := by kernel_rfl
theorem j9 : (Tryz.prog.stopKnobs == []) = true := by kernel_rfl
theorem vt0 : sp_.plain.varTypes Tryz.prog = [] := by kernel_rfl
theorem j14 : (rw_.maps == (Tryz.f3.params.toList ++ sp_.plain.varTypes Tryz.prog).any (Tryz.prog.mapsRec ·)) = true := by rw [par3, vt0]; simp [maps9, maps25]; rfl
theorem j15 : (rw_.ifaces == (Tryz.f3.params.toList ++ sp_.plain.varTypes Tryz.prog).any (Tryz.prog.ifacesRec ·)) = true := by rw [par3, vt0]; simp [ifs9, ifs25]; rfl
theorem j16 : (rw_.mapsOut == Tryz.prog.mapsAmong Tryz.f3.resultTypes.toList) = true := by kernel_rfl
theorem j17 : (rw_.loops == (Tryz.f3.params.toList ++ sp_.plain.varTypes Tryz.prog).any (Tryz.prog.loopsFrom ·)) = true := by rw [par3, vt0]; simp [lps9, lps25]; rfl
theorem j17b : (rw_.wideKeys == (Tryz.f3.params.toList ++ sp_.plain.varTypes Tryz.prog ++ Tryz.f3.resultTypes.toList).any (Tryz.prog.wideKeysFrom ·)) = true := by rw [par3, vt0, res3]; simp [wk9, wk25, wk4]; rfl
theorem j18 : (sp_.vars.all (Tryz.prog.varReadable ·)) = true := by kernel_rfl
theorem j20 : (rw_.ifacesOut == Tryz.f3.resultTypes.toList.any (Tryz.prog.ifacesRec ·)) = true := by rw [res3]; simp [ifs4]; rfl
theorem j21 : (rw_.loopsOut == Tryz.f3.resultTypes.toList.any (Tryz.prog.loopsFrom ·)) = true := by rw [res3]; simp [lps4]; rfl
theorem lt4 : decide (4 < Tryz.prog.types.size) = true := by kernel_rfl
theorem j19 : (Tryz.f3.resultTypes.all fun t => Tryz.prog.readableRec t && decide (t < Tryz.prog.types.size)) = true := by rw [res3]; simp [read4]
theorem j22 : (rw_.plainKeys == Tryz.prog.plainKeys) = true := by kernel_rfl
theorem j23 : rw_.shortTexts.isNone = true := by kernel_rfl
theorem j23b : Tryz.prog.stopsHeard = true := by kernel_rfl
theorem j24 : Tryz.prog.mayEnter = true := by kernel_rfl
theorem j24b : (rw_.lifted == Tryz.prog.liftsFinal) = true := by kernel_rfl
theorem j24c : (Tryz.prog.make == some rw_.make) = true := by kernel_rfl
theorem j26 : (rw_.pinned == rw_.pinnedBy) = true := by kernel_rfl
theorem j27 : (rw_.veiled == (Tryz.f3.params.toList ++ sp_.plain.varTypes Tryz.prog ++ Tryz.f3.resultTypes.toList).any (Tryz.prog.veiledRec ·)) = true := by rw [par3, vt0, res3]; simp [vl9, vl25, vl4]; rfl
end Go.Proofs.YtciondmibomehaaGreatDoor
namespace Go.Proofs.YtciondmibomehaaGreatDoor
open Go Go.Fm Go.Proofs.Bk
theorem j10 : Tryz.prog.inPlace 3 = rw_.inPlace := by unfold Program.inPlace; rw [clo3]; kernel_rfl
theorem j11 : Tryz.prog.unfollowed 3 = true := by unfold Program.unfollowed; rw [clo3]; kernel_rfl
theorem j12 : Tryz.prog.recurses 3 = true := by unfold Program.recurses; rw [j11]; rfl
theorem j13 : Tryz.prog.varsNamed 3 = rw_.named := by unfold Program.varsNamed; rw [clo3]; kernel_rfl
theorem j25 : (rw_.kinds == (if rw_.domain.isEmpty then [] else Tryz.f3.params.toList.map fun t => match Tryz.prog.underlying t with | some (.int k) => some k | _ => none)) = true := by kernel_rfl
theorem j28 : rw_.veiledFits Tryz.prog Tryz.f3.params.toList (Tryz.f3.params.toList ++ sp_.plain.varTypes Tryz.prog ++ Tryz.f3.resultTypes.toList) = true := by kernel_rfl
end Go.Proofs.YtciondmibomehaaGreatDoor
namespace Go.Proofs.Bk
open Go Go.Fm
theorem rf0 : ((List.range' 0 80).all (rowFine Tryz.prog)) = true := by kernel_rfl
theorem rf80 : ((List.range' 80 80).all (rowFine Tryz.prog)) = true := by kernel_rfl
theorem rf160 : ((List.range' 160 80).all (rowFine Tryz.prog)) = true := by kernel_rfl
theorem rf240 : ((List.range' 240 80).all (rowFine Tryz.prog)) = true := by kernel_rfl
theorem rf320 : ((List.range' 320 80).all (rowFine Tryz.prog)) = true := by kernel_rfl
theorem rf400 : ((List.range' 400 80).all (rowFine Tryz.prog)) = true := by kernel_rfl
theorem rf480 : ((List.range' 480 80).all (rowFine Tryz.prog)) = true := by kernel_rfl
theorem rf560 : ((List.range' 560 80).all (rowFine Tryz.prog)) = true := by kernel_rfl
theorem rf640 : ((List.range' 640 80).all (rowFine Tryz.prog)) = true := by kernel_rfl
theorem rf720 : ((List.range' 720 80).all (rowFine Tryz.prog)) = true := by kernel_rfl
theorem rf800 : ((List.range' 800 80).all (rowFine Tryz.prog)) = true := by kernel_rfl
theorem rfAll : ((List.range Tryz.prog.types.size).all (rowFine Tryz.prog)) = true := by
 rw [tsz]
 exact range_all (range_cut rfl rf0 (range_cut rfl rf80 (range_cut rfl rf160 (range_cut rfl rf240 (range_cut rfl rf320 (range_cut rfl rf400 (range_cut rfl rf480 (range_cut rfl rf560 (range_cut rfl rf640 (range_cut rfl rf720 (range_cut rfl rf800 (range_end (Nat.le_refl _)))))))))))))
theorem lo2 : Tryz.prog.globals.all (fun g => decide (g.type < Tryz.prog.types.size)) = true := by kernel_rfl
theorem lo3 : Tryz.prog.funcs.all (fun f => f.params.all fun t => decide (t < Tryz.prog.types.size)) = true := by kernel_rfl
theorem j2 : laidOutB Tryz.prog = true := and2 (and2 rfAll lo2) lo3
end Go.Proofs.Bk
end
