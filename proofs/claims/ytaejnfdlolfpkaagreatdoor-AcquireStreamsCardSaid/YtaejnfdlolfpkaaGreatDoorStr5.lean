/- Part 5 of the library that the proof of the statement uses: an abstract run of the program, proved right, and what its functions give. -/
import Derived.Test.YtaejnfdlolfpkaaGreatDoorStr4
import Derived.Test.YtaejnfdlolfpkaaGreatDoorProg
import Derived.Laws.Externs
import Derived.KernelRfl
set_option linter.unusedVariables false
set_option linter.unusedSimpArgs false

section
/- What lives at the heads of the loops of the Acquire seat, and what the loops write: made by a program (Live.lean). -/
namespace Go.Abs
def tryzMasks : List (Nat × List (Nat × Nat × Nat)) := [
 (3, [(0, 1606002654465313389882401473391529857647216692073671155843554348870, 3369993333393829974333376885877453834204565681565116223870770347792)]),
 (5, [(0, 832, 151111115765810219450896)]),
 (8, [(4, 56914127701925656374593610551470280468039262862855650036674191691569461480636023312, 1989292827068047189609744878850594711505406961440926572145918331168071963947088759226432), (2, 56915052680375863742525533588677687054600471452171302090595113954187876501100167704, 3705346855594118240698767166206090846968942770571197229085018737990877467115584), (0, 56915052680375863742504604946854190937598748801276413697606876015670131770135734968, 47890485652059026823688203393645336152873623942717504)]),
 (9, [(4, 8294616533696822226738280318033757180689936236059923304259469485218093060089743942402147125416, 55106130987655907740299378837868125096914323199672930151375779433283584), (2, 8294616533696822226738280129339636007032784957871281104853797552399974159089009507551720016044, 6739986566354032182479861550382276897086623447997456008851358220304), (0, 8294616533696822226738280129339635831274118943674762323216858932260741197122242141160552327340, 392318858461667547739726454356762081351140154286344167440)]),
 (10, [(6, 803420652738986558153889110842536869627493530437852498034689, 3213875705394095334611709595095568417467110082880805137285184), (4, 803420005843305817668013727293076289419010531182275954278529, 95780959886136511999717640730606568380210104078434304), (2, 803420005843286906637446502548471122026083918649582338179463, 5444517870735012997562354489649941983296), (0, 803420005843286906637446502548471118087694961641345779762055, 1180519563123373377600)]),
 (11, [(0, 2616917616701553124779370149926977664, 5316911349314363377500527492769808448)]),
 (12, [(2, 1644703834536323800558226335727894583475986967259642282185326740, 3369993333393826981178023632188277353058105649869947304788233289792), (0, 1644703834531442106742441475377394494070062532350793455413232533, 1207745227993911763405312)]),
 (13, [(0, 1576960, 6276910173444072527728494629829272627454403102073762611264)]),
 (14, [(6, 50659039041325835497812305941300959685805618291217746767262693003461994217472, 59256601667196563008012451578196036843910914652641558647192418616049544096382980), (4, 3532346563582557801599166850271544974057782143683693079514537412149431500897, 49039810539656048878573722350895246954743022920033900548), (2, 3532346563582557801599166768427453283527218724277342447402688311417209094241, 98079714250041477602208480186698579572528548905767410692), (0, 3532346563582557801599166767810873916472646170821105383307300710316859457641, 91343852333171047794013232389510627735837344004)]),
 (23, [(0, 1835021, 4293918752)]),
 (24, [(0, 120259084293, 562881233945344)]),
 (27, [(0, 63526, 37778931862957157642240)]),
 (29, [(0, 9, 524284)]),
 (30, [(0, 9, 524172)]),
 (31, [(0, 46037970598279397842739191860939086937060681056026, 40564819207303340847890207731712)]),
 (32, [(0, 1208704431660847824109603, 2417851639229258349410352)]),
 (33, [(0, 25, 262136)]),
 (34, [(0, 9, 131068)]),
 (38, [(0, 17163092003, 34359737904)]),
 (40, [(0, 35, 67106864)]),
 (41, [(0, 896, 1073677056)]),
 (42, [(0, 1119285657206819, 2251799813161008)]),
 (43, [(0, 25, 144115188075854972)]),
 (45, [(0, 25, 262136)]),
 (48, [(0, 227, 4503599627370464)]),
 (50, [(2, 61572651157632, 302231454868472921651248), (0, 3758096513, 8793945540144)]),
 (52, [(2, 387, 4722366482869510996912), (0, 67, 134209648)]),
 (53, [(0, 99, 16777184)]),
 (56, [(0, 35, 67106864)]),
 (57, [(2, 288230483525910031, 36028796482107392), (0, 288230483525895695, 4611686018427387392)]),
 (58, [(4, 9086521970947308403289313221144012, 21262455635700119138832382468156555264), (2, 2468511360053360944645013452, 72057593903734528), (0, 2468511360053360944644915148, 46768052394588893382517914646921056628989837565888)]),
 (59, [(0, 35, 67106864)]),
 (61, [(2, 96, 8587837536), (0, 32, 2080800)]),
 (62, [(0, 1125058093281347, 2147467632)]),
 (63, [(4, 771, 1180582613518156563200), (2, 3659037258285251, 2146959536), (0, 3659037258285123, 2147475696)]),
 (64, [(0, 4128777, 8388604)]),
 (65, [(0, 25, 2147483640)]),
 (73, [(2, 238026977, 1099377410560), (0, 3145761, 4503599625275116)]),
 (74, [(2, 121198608576, 4611685949707914240), (0, 939524288, 9223372036317908480)]),
 (75, [(2, 517013237464530173446, 9223371899415949312), (0, 517013237224011989510, 151115727451827573227008)]),
 (76, [(0, 9, 33554316)]),
 (77, [(2, 241, 1152921504573292928), (0, 113, 1152921504606323136)]),
 (78, [(2, 121, 8589869152), (0, 25, 2199023255544)]),
 (79, [(0, 9, 65532)]),
 (80, [(0, 35, 67106864)]),
 (81, [(2, 8086213130943729543, 144115188075339264), (0, 8086213130943725959, 1180591620717411303296)]),
 (84, [(0, 98, 2096704)]),
 (86, [(0, 25, 32760)]),
 (88, [(0, 224, 32660)]),
 (94, [(0, 1826, 2096288)]),
 (96, [(0, 1826, 2096288)]),
 (101, [(2, 4832147434351128559611422, 649037107316853453557515948246528), (0, 4832147434351128559488542, 649037107316853453566312041152000)]),
 (102, [(0, 25, 524280)]),
 (103, [(0, 389, 2096512)]),
 (105, [(0, 28706, 4294951344)]),
 (106, [(2, 70300089738767, 2147352584), (0, 70300089737743, 4503599627355656)]),
 (110, [(0, 1826, 2096288)]),
 (117, [(0, 1826, 2096288)]),
 (134, [(2, 17, 1046545), (0, 17, 2033)]),
 (137, [(0, 35, 67100707)]),
 (138, [(0, 917505, 8589410340)]),
 (143, [(0, 3592, 4192304)]),
 (146, [(0, 9, 32764)]),
 (148, [(0, 3, 262115)]),
 (150, [(0, 1794, 8387824)]),
 (156, [(0, 457, 1048360)]),
 (160, [(0, 224, 32660)]),
 (161, [(0, 28, 4192352)]),
 (162, [(0, 29, 137438945505)]),
 (170, [(0, 25, 524280)]),
 (171, [(0, 29, 4194089)]),
 (172, [(0, 3, 2019)]),
 (173, [(0, 7715, 16777185)]),
 (174, [(0, 29, 8589869073)]),
 (176, [(6, 1605376, 47890485295247103647208374333875669625711813476220928), (4, 130816, 85070591728996675826558271583043420160), (2, 16128, 6277101735386680763835789423207661580399076985947339874304), (0, 3841, 4713143110832790439936)]),
 (177, [(0, 26, 17175674904)]),
 (179, [(0, 3391715, 2199023255520)]),
 (180, [(0, 35, 2199022731312)]),
 (181, [(0, 227, 8589934560)]),
 (182, [(2, 483, 36028797014770560), (0, 99, 1180591620717411238848)]),
 (191, [(0, 491529, 1048572)]),
 (192, [(0, 224, 32660)]),
 (204, [(0, 54, 4194178)]),
 (208, [(2, 13, 4186121), (0, 13, 8185)]),
 (211, [(2, 946864610, 1180591620716874448640), (0, 7340066, 302231454903657289498560)]),
 (212, [(0, 451, 68719412096)]),
 (213, [(0, 16257, 1048569)]),
 (214, [(0, 9223336852482688647, 75557863721516276909632)]),
 (216, [(0, 6291555, 140737484161472)]),
 (217, [(0, 35, 2199022731312)]),
 (218, [(0, 24675, 549755797952)]),
 (221, [(2, 3136, 294571444427049404416), (0, 120, 18014398492705744)]),
 (223, [(1, 4928777560498404918802900133189504731107, 11150372599265311570767858992208992677149968)]),
 (224, [(0, 7683, 65505)]),
 (225, [(0, 65027, 4194273)]),
 (226, [(0, 21, 1048568)]),
 (227, [(0, 3, 32737)]),
 (228, [(0, 3, 2097121)]),
 (229, [(0, 3, 4194273)]),
 (230, [(0, 3, 8589934561)]),
 (231, [(4, 40240538338132456914124127183321600, 2722258935209051382678468184267057823744), (2, 40240300653644914121111346551488000, 79226953588444722964369260544), (0, 451, 562948879679872)]),
 (233, [(0, 985162418487392, 18446181123756130636)]),
 (237, [(0, 32265, 262088)]),
 (242, [(3, 896, 21265051784129386552646647716320904192)]),
 (248, [(2, 150525431641469941188067, 2417851639227059326158096), (0, 150525431642002517132259, 1073480448)]),
 (252, [(0, 113, 17146314784)]),
 (253, [(2, 10344028897862351916213098156377860, 2658450920967430832890008133748195328), (0, 10344028898163402779496038038368004, 77371104881383677504880640)]),
 (255, [(0, 28706, 549755797696)]),
 (256, [(4, 274031556999544297163190906134303066185487482979, 191561759920531440931928602933184558416964933281775616), (2, 60847228810955011271841753864291, 1393796574867599127138679051192628091680768), (0, 2475275615660953235210895843, 20282409603642447051910396512192)]),
 (270, [(2, 464, 137422176704), (0, 49, 4193840)]),
 (272, [(9, 47890485652059026823698344598447161988085597568237568, 12164183355622992813219379528005579144973741782332342384), (7, 686009251712611942342163208582444714410881, 182686310869787956611514258107143336934397509632), (5, 686009251712611942342163208582444714345345, 1461501637328244462212115000970475405535371919888), (3, 4993, 36893206672442396672), (1, 897, 633825300114114700748343221776)]),
 (274, [(3, 655392140491172522056836760888500951691649190215426, 23384026197294446688723656123004069511501514518720)]),
 (280, [(0, 19, 79228162514264337593543430130)]),
 (281, [(0, 130075, 288212783965675522), (2, 146459, 9671332769940738559713282)]),
 (288, [(0, 9671180584302130455642169, 4951760157139269299782811676)])
 ]
end Go.Abs
end

section
/- The symbolic run of the Acquire seat's program. -/
namespace Go.Abs
open Go.Proofs
noncomputable def fsZ (l : List (FuncId × Ent)) (N k : Nat) : FnS := fsS Tryz.prog (tabL l) (domL l) (fun _ => false) N (liveOf tryzMasks) (asgOf tryzMasks) k
structure Ways where
 vary : FuncId → Nat → Option (SSt → Vary)
 unroll : FuncId → Nat → Option (Tmp × Nat)
 join : List Nat
 picks : List Nat
 joins : List JoinE
 rjoins : List JoinE
 deeps : List (Nat × Nat)
noncomputable def fsW (l : List (FuncId × Ent)) (W : Ways) (N k : Nat) : FnS := fsS Tryz.prog (tabL l) (domL l) (fun g => hasNat g W.join) N (liveOf tryzMasks) (asgU tryzMasks W.vary W.unroll (fun g => hasNat g W.picks) W.joins W.rjoins W.deeps) k
end Go.Abs
end

section
/- Functions of the Acquire seat, lifted (printed by the tool gen.py). -/
set_option maxRecDepth 100000
set_option linter.unusedVariables false
namespace Go.Abs
open Go.Proofs
theorem run_60 (N : Nat) (a b c : Int) : (fsZ [] N 4).call (List RLeaf) 60 [.ofB (.int .i64 a), .ofB (.int .i64 b), .ofB (.int .i64 c)] [] (resK [false]) =
 condO (shut (decide (a < b)))
 (
 some [RLeaf.v (AV.bool true)])
 (
 some [RLeaf.v (AV.bool (shut (decide (a > c))))]) := by kernel_rfl
theorem run_99 (N : Nat) (b : Bool) (a : Int) : (fsZ [] N 4).call (List RLeaf) 99 [.ofB (.bool b), .ofB (.int .i64 a)] [] (resK [false]) =
 condO (b)
 (
 some [RLeaf.v (AV.int IntKind.i64 a)])
 (
 some [RLeaf.v (AV.int IntKind.i64 (0 : Int))]) := by kernel_rfl
theorem run_28 (N : Nat) (b : Bool) (a : Int) : (fsZ [] N 4).call (List RLeaf) 28 [.ofB (.bool b), .ofB (.int .i64 a)] [] (resK [false]) =
 condO (b)
 (
 some [RLeaf.v (AV.int IntKind.i64 a)])
 (
 some [RLeaf.v (AV.int IntKind.i64 (0 : Int))]) := by kernel_rfl
theorem run_88 (N : Nat) (n : Nat) (cs : List AV) : (fsZ [] N 4).call (List RLeaf) 88 [.ofB (.list n cs)] [] (resK [false]) =
 loopC N (fun r_0 (x0_0 : Nat) (x1_0 : List AV) (x2_0 : Int) (x3_0 : Int) =>
  condO (shut (decide (x3_0 < x2_0)))
  (
  guardO (shut (decide ((0 : Int) ≤ x3_0 ∧ x3_0 < (↑x0_0 : Int) ∧ 0 < x1_0.length))) <|
  bindO (asInt IntKind.i64 (x1_0.getD (x3_0.toNat * 1) AV.top)) fun v3 =>
  condO (shut (v3 != (0 : Int)))
   (
   some [RLeaf.v (AV.int IntKind.i64 v3)])
   (
   r_0 (x0_0) (x1_0) (x2_0) (shut (IntKind.i64.wrap (x3_0 + (1 : Int))))))
  (
  some [RLeaf.v (AV.int IntKind.i64 (0 : Int))]))
 (fun _ _ _ _ => none) (n) (cs) ((↑n : Int)) ((0 : Int)) := by kernel_rfl
theorem run_29 (N : Nat) (n : Nat) (cs : List AV) : (fsZ [] N 4).call (List RLeaf) 29 [.ofB (.list n cs)] [] (resK [false]) =
 loopC N (fun r_0 (x0_0 : Nat) (x1_0 : List AV) (x2_0 : Int) =>
  condO (shut (decide (x2_0 < (↑x0_0 : Int))))
  (
  guardO (shut (decide ((0 : Int) ≤ x2_0 ∧ x2_0 < (↑x0_0 : Int) ∧ 0 < x1_0.length))) <|
  bindO (asInt IntKind.i64 (x1_0.getD (x2_0.toNat * 1) AV.top)) fun v3 =>
  condO (shut (v3 != (0 : Int)))
   (
   guardO (shut (decide ((0 : Int) ≤ x2_0 ∧ x2_0 < (↑x0_0 : Int) ∧ 0 < x1_0.length))) <|
   bindO (asInt IntKind.i64 (x1_0.getD (x2_0.toNat * 1) AV.top)) fun v6 =>
   some [RLeaf.v (AV.int IntKind.i64 v6)])
   (
   r_0 (x0_0) (x1_0) (shut (IntKind.i64.wrap (x2_0 + (1 : Int))))))
  (
  some [RLeaf.v (AV.int IntKind.i64 (0 : Int))]))
 (fun _ _ _ => none) (n) (cs) ((0 : Int)) := by kernel_rfl
theorem run_40 (N : Nat) (n : Nat) (cs : List AV) (m : Nat) (ds : List AV) : (fsZ [] N 4).call (List RLeaf) 40 [.ofB (.list n cs), .ofB (.list m ds)] [] (resK [false]) =
 condO (shut ((↑n : Int) != (↑m : Int)))
 (
 some [RLeaf.v (AV.bool false)])
 (
 loopC N (fun r_1 (x0_1 : Nat) (x1_1 : List AV) (x2_1 : Nat) (x3_1 : List AV) (x4_1 : Int) =>
  condO (shut (decide (x4_1 < (↑x0_1 : Int))))
   (
   guardO (shut (decide ((0 : Int) ≤ x4_1 ∧ x4_1 < (↑x0_1 : Int) ∧ 0 < x1_1.length))) <|
   bindO (asInt IntKind.i64 (x1_1.getD (x4_1.toNat * 1) AV.top)) fun v4 =>
   guardO (shut (decide ((0 : Int) ≤ x4_1 ∧ x4_1 < (↑x2_1 : Int) ∧ 0 < x3_1.length))) <|
   bindO (asInt IntKind.i64 (x3_1.getD (x4_1.toNat * 1) AV.top)) fun v6 =>
   condO (shut (v4 != v6))
   (
   some [RLeaf.v (AV.bool false)])
   (
   r_1 (x0_1) (x1_1) (x2_1) (x3_1) (shut (IntKind.i64.wrap (x4_1 + (1 : Int))))))
   (
   some [RLeaf.v (AV.bool true)]))
  (fun _ _ _ _ _ => none) (n) (cs) (m) (ds) ((0 : Int))) := by kernel_rfl
end Go.Abs
end

section
/- What the small functions give. -/
set_option linter.unusedVariables false
set_option linter.unusedSimpArgs false
namespace Go.Abs
open Go.Proofs
theorem loopC_rule {A : Type} {F : A → A} {bot : A} (Q : Nat → A → Prop) (h : ∀ k r, (∀ j, j < k → Q j r) → Q k (F r)) : ∀ N k, k < N → Q k (loopC N F bot)
 | 0, k, hk => absurd hk (Nat.not_lt_zero k)
 | N + 1, k, hk => h k _ fun j hj => loopC_rule Q h N j (by omega)
section
variable {R : Type} {x y : Option R}
theorem condO_dec {p : Prop} [Decidable p] : condO (decide p) x y = if p then x else y := by
 by_cases h : p <;> simp [condO, h]
theorem condO_bool {b : Bool} : condO b x y = if b = true then x else y := by cases b <;> rfl
theorem condO_bne {α : Type} [DecidableEq α] {a b : α} : condO (a != b) x y = if a = b then y else x := by
 by_cases h : a = b
 ·subst h; simp [condO, bne]
 ·rw [if_neg h]; simp only [condO, bne, beq_eq_false_iff_ne.mpr h, Bool.not_false]
theorem condO_beq {α : Type} [DecidableEq α] {a b : α} : condO (a == b) x y = if a = b then x else y := by
 by_cases h : a = b
 ·subst h; simp [condO]
 ·rw [if_neg h]; simp only [condO, beq_eq_false_iff_ne.mpr h]
theorem condO_not {b : Bool} : condO (!b) x y = if b = true then y else x := by cases b <;> rfl
theorem guardO_dec {p : Prop} [Decidable p] : guardO (decide p) x = if p then x else none := by
 by_cases h : p <;> simp [guardO, h]
theorem bindO_ok {α : Type} {a : α} {f : α → Option R} : bindO (some a) f = f a := rfl
end
theorem wrap64 {z : Int} (h1 : -9223372036854775808 ≤ z) (h2 : z < 9223372036854775808) : IntKind.i64.wrap z = z := by
 simp [IntKind.wrap, IntKind.signed, IntKind.bits]
 omega
def toI : AV → Int
 | .int _ z => z
 | _ => 0
def intsOf (cs : List AV) : List Int := cs.map toI
def Ints (n : Nat) (cs : List AV) : Prop := n < 9223372036854775808 ∧ cs = (intsOf cs).map (AV.int .i64) ∧ cs.length = n
theorem Ints.get {n : Nat} {cs : List AV} (h : Ints n cs) {i : Nat} (hi : i < n) : asInt .i64 (cs.getD i .top) = some ((intsOf cs).getD i 0) := by
 obtain ⟨h1, h2, h3⟩ := h
 rw [h2]
 have : i < (intsOf cs).length := by simp [intsOf, h3, hi]
 simp [List.getD, this, asInt]
 simp [intsOf, List.getElem?_map]
 have h4 : i < cs.length := by omega
 simp [h4, toI]
theorem Ints.len {n : Nat} {cs : List AV} (h : Ints n cs) : (intsOf cs).length = n := by
 simp [intsOf, h.2.2]
theorem drop_cons {α : Type} {xs : List α} {i : Nat} {d : α} (h : i < xs.length) : xs.drop i = xs.getD i d :: xs.drop (i + 1) := by
 rw [List.drop_eq_getElem_cons h]; simp [List.getD, h]
def firstNZ : List Int → Int
 | [] => 0
 | x :: xs => if x = 0 then firstNZ xs else x
theorem idx64 {n i : Nat} (h : n < 9223372036854775808) (hi : i < n) : IntKind.i64.wrap ((i : Int) + 1) = ((i + 1 : Nat) : Int) := by
 rw [wrap64] <;> omega
theorem run_29' {n : Nat} {cs : List AV} (h : Ints n cs) : (fsZ [] (n + 1) 4).call (List RLeaf) 29 [.ofB (.list n cs)] [] (resK [false]) = some [.v (.int .i64 (firstNZ (intsOf cs)))] := by
 rw [run_29]
 refine loopC_rule (fun k (r : Nat → List AV → Int → Option (List RLeaf)) => ∀ i : Nat, i + k = n → r n cs (i : Int) = some [RLeaf.v (.int .i64 (firstNZ ((intsOf cs).drop i)))]) ?_ (n + 1) n (by omega) 0 (by omega)
 intro k r ih i hi
 by_cases hk : i < n
 ·have h2 : 0 < cs.length := by rw [h.2.2]; omega
  rw [drop_cons (d := 0) (show i < (intsOf cs).length by rw [h.len]; exact hk)]
  simp only [shut_eq, condO_dec, condO_bne, guardO_dec, Int.ofNat_lt, hk, h2, if_true, Int.toNat_natCast, Nat.mul_one, h.get hk, bindO_ok, idx64 h.1 hk, ih (k - 1) (by omega) (i + 1) (by omega), and_true, Int.natCast_nonneg, true_and, firstNZ]
  by_cases hz : (intsOf cs).getD i 0 = 0 <;> simp only [hz, if_true, if_false]
 ·have h2 : (intsOf cs).drop i = [] := by rw [List.drop_eq_nil_iff, h.len]; omega
  simp only [shut_eq, condO_dec, Int.ofNat_lt, hk, h2, firstNZ, if_false]
theorem run_88' {n : Nat} {cs : List AV} (h : Ints n cs) : (fsZ [] (n + 1) 4).call (List RLeaf) 88 [.ofB (.list n cs)] [] (resK [false]) = some [.v (.int .i64 (firstNZ (intsOf cs)))] := by
 rw [run_88]
 refine loopC_rule (fun k (r : Nat → List AV → Int → Int → Option (List RLeaf)) => ∀ i : Nat, i + k = n → r n cs (n : Int) (i : Int) = some [RLeaf.v (.int .i64 (firstNZ ((intsOf cs).drop i)))]) ?_ (n + 1) n (by omega) 0 (by omega)
 intro k r ih i hi
 by_cases hk : i < n
 ·have h2 : 0 < cs.length := by rw [h.2.2]; omega
  rw [drop_cons (d := 0) (show i < (intsOf cs).length by rw [h.len]; exact hk)]
  simp only [shut_eq, condO_dec, condO_bne, guardO_dec, Int.ofNat_lt, hk, h2, if_true, Int.toNat_natCast, Nat.mul_one, h.get hk, bindO_ok, idx64 h.1 hk, ih (k - 1) (by omega) (i + 1) (by omega), and_true, Int.natCast_nonneg, true_and, firstNZ]
  by_cases hz : (intsOf cs).getD i 0 = 0 <;> simp only [hz, if_true, if_false]
 ·have h2 : (intsOf cs).drop i = [] := by rw [List.drop_eq_nil_iff, h.len]; omega
  simp only [shut_eq, condO_dec, Int.ofNat_lt, hk, h2, firstNZ, if_false]
theorem run_40' {n m : Nat} {cs ds : List AV} (h : Ints n cs) (h' : Ints m ds) : (fsZ [] (n + 1) 4).call (List RLeaf) 40 [.ofB (.list n cs), .ofB (.list m ds)] [] (resK [false]) = some [.v (.bool (decide (intsOf cs = intsOf ds)))] := by
 rw [run_40]
 simp only [shut_eq, condO_bne, Int.ofNat_inj]
 by_cases hnm : n = m
 ·subst hnm
  rw [if_pos rfl]
  refine loopC_rule (fun k (r : Nat → List AV → Nat → List AV → Int → Option (List RLeaf)) => ∀ i : Nat, i + k = n → r n cs n ds (i : Int) = some [RLeaf.v (.bool (decide ((intsOf cs).drop i = (intsOf ds).drop i)))]) ?_ (n + 1) n (by omega) 0 (by omega)
  intro k r ih i hi
  by_cases hk : i < n
  ·have h2 : 0 < cs.length := by rw [h.2.2]; omega
   have h3 : 0 < ds.length := by rw [h'.2.2]; omega
   rw [drop_cons (xs := intsOf cs) (d := 0) (show i < (intsOf cs).length by rw [h.len]; exact hk), drop_cons (xs := intsOf ds) (d := 0) (show i < (intsOf ds).length by rw [h'.len]; exact hk)]
   simp only [shut_eq, condO_dec, condO_bne, guardO_dec, Int.ofNat_lt, hk, h2, h3, if_true, Int.toNat_natCast, Nat.mul_one, h.get hk, h'.get hk, bindO_ok, idx64 h.1 hk, ih (k - 1) (by omega) (i + 1) (by omega), and_true, Int.natCast_nonneg, true_and, List.cons.injEq]
   by_cases hz : (intsOf cs).getD i 0 = (intsOf ds).getD i 0 <;> simp only [hz, if_true, if_false, true_and, false_and, decide_false]
  ·have h2 : (intsOf cs).drop i = [] := by rw [List.drop_eq_nil_iff, h.len]; omega
   have h3 : (intsOf ds).drop i = [] := by rw [List.drop_eq_nil_iff, h'.len]; omega
   simp only [shut_eq, condO_dec, Int.ofNat_lt, hk, h2, h3, if_false, decide_true]
 ·rw [if_neg hnm]
  have : intsOf cs ≠ intsOf ds := fun e => hnm (by rw [← h.len, e, h'.len])
  simp only [this, decide_false]
end Go.Abs
end

section
/- The Acquire seat's program: the facts that the abstract run asks for. -/
set_option linter.unusedSimpArgs false
set_option linter.unusedVariables false
namespace Go.Abs
open Go.Proofs
theorem tryz_orders : Tryz.prog.follows .mixedOrders = true := by kernel_rfl
def noNumB : List Func → Bool
 | [] => true
 | f :: fs => (f.body.isNone || f.name != "runtime.NumGoroutine") && noNumB fs
theorem noNumB_spec : ∀ (l : List Func), noNumB l = true → ∀ (g : Nat) (fn : Func), l[g]? = some fn → fn.body.isSome = true → fn.name ≠ "runtime.NumGoroutine" := by
 intro l
 induction l with
 | nil => intro _ g fn h; simp at h
 | cons f l ih =>
  intro h g fn hg hb
  simp only [noNumB, Bool.and_eq_true, Bool.or_eq_true, bne_iff_ne, ne_eq] at h
  cases g with
  | zero =>
   simp at hg; subst hg
   rcases h.1 with h1 | h1
   ·cases hc : f.body <;> simp_all
   ·exact h1
  | succ g => exact ih h.2 g fn (by simpa using hg) hb
theorem tryz_noNumB : noNumB Tryz.prog.funcs.toList = true := by kernel_rfl
theorem tryz_noNum : NoNum Tryz.prog := fun g fn hg hb => noNumB_spec _ tryz_noNumB g fn (by simpa using hg) hb
def sub64E : Array Value → Sem Value := fun args => do
 let (x, y, b) ← Extern.MathBitsCarry.three "Sub64" args
 pure (Extern.MathBitsCarry.pair ((x + Extern.MathBitsCarry.m64 - y - b) % Extern.MathBitsCarry.m64) (if x < y + b then 1 else 0))
theorem run_sub64E {P : Program} (x y b : Nat) (hb : b ≤ 1) (w : World) : (sub64E #[.int .u64 x, .int .u64 y, .int .u64 b]).run P w =
  .ok (.tuple #[.int .u64 (((x + 18446744073709551616 - y - b) % 18446744073709551616 : Nat) : Int), .int .u64 ((if x < y + b then 1 else 0 : Nat) : Int)]) w := by
 have : b = 0 ∨ b = 1 := by omega
 rcases this with rfl | rfl <;> rfl
def tryzExt (g : FuncId) (args : List AV) : Option AV :=
 match Nat.beq g 236 with
 | true => match args with
  | [.int .u64 x, .int .u64 y, .int .u64 c] => if 0 ≤ x ∧ 0 ≤ y ∧ 0 ≤ c ∧ c ≤ 1 then some (.tuple [.int .u64 ((x + y + c) % 18446744073709551616), .int .u64 ((x + y + c) / 18446744073709551616)]) else none
  | _ => none
 | false => match Nat.beq g 238 with
  | true => match args with
   | [.int .u64 (.ofNat x), .int .u64 (.ofNat y), .int .u64 (.ofNat c)] =>
    if c ≤ 1 then some (.tuple [.int .u64 (((x + 18446744073709551616 - y - c) % 18446744073709551616 : Nat) : Int), .int .u64 ((if x < y + c then 1 else 0 : Nat) : Int)]) else none
   | _ => none
  | false => match Nat.beq g 269 with
   | true => match args with
    | [.string s, .int .u8 c] => some (.int .i64 (firstIdx s c.toNat.toUInt8))
    | _ => none
   | false => none
theorem nat_beq {a b : Nat} (h : Nat.beq a b = true) : a = b := Nat.eq_of_beq_eq_true h
theorem tuple2_rel {E : Env} (k : IntKind) (a b : Int) : VRel E (.tuple [.int k a, .int k b]) (.tuple #[.int k a, .int k b]) := by
 refine .tuple _ _ rfl fun j x v h1 h2 => ?_
 match j with
 | 0 => simp at h1 h2; subst h1; subst h2; exact .int _ _
 | 1 => simp at h1 h2; subst h1; subst h2; exact .int _ _
 | j + 2 => simp at h1
theorem ints3 {E : Env} {q r s : IntKind} {x y z : Int} {args' : Array Value} (h : VRels E [.int q x, .int r y, .int s z] args'.toList) : args' = #[.int q x, .int r y, .int s z] := by
 obtain ⟨l⟩ := args'
 match l, h with
 | [a, b, c], h =>
  have h0 := h.2 0 _ _ rfl rfl
  have h1 := h.2 1 _ _ rfl rfl
  have h2 := h.2 2 _ _ rfl rfl
  cases h0; cases h1; cases h2; rfl
 | [], h => exact absurd h.1 (by simp)
 | [_], h => exact absurd h.1 (by simp)
 | [_, _], h => exact absurd h.1 (by simp)
 | _ :: _ :: _ :: _ :: _, h => exact absurd h.1 (by simp)
theorem tryz_ext : ExtOk Tryz.prog tryzExt := by
 intro g args y h E w args' hA
 unfold tryzExt at h
 split at h
 ·rename_i hg
  have := nat_beq hg; subst this
  split at h
  ·rename_i x y' c
   split at h
   ·rename_i hc
    simp only [Option.some.injEq] at h; subst h
    have := ints3 hA; subst this
    refine ⟨_, ?_, tuple2_rel _ _ _⟩
    rw [run_callFunc_extern (fn := Tryz.f236) (e := add64Entry) (by kernel_rfl) (by kernel_rfl) (by kernel_rfl) (by kernel_rfl) (by kernel_rfl), run_add64 x y' c hc.1 hc.2.1 hc.2.2.1 hc.2.2.2]
    rfl
   ·cases h
  ·cases h
 ·split at h
  ·rename_i hg
   have := nat_beq hg; subst this
   split at h
   ·rename_i x y' c
    split at h
    ·rename_i hc
     simp only [Option.some.injEq] at h; subst h
     have := ints3 hA; subst this
     refine ⟨_, ?_, tuple2_rel _ _ _⟩
     have hr := run_sub64E (P := Tryz.prog) x y' c hc w
     rw [run_callFunc_extern (fn := Tryz.f238) (e := sub64E) (by kernel_rfl) (by kernel_rfl) (by kernel_rfl) (by kernel_rfl) (by kernel_rfl)]
     have hr2 : (sub64E #[.int .u64 (Int.ofNat x), .int .u64 (Int.ofNat y'), .int .u64 (Int.ofNat c)]).run Tryz.prog w = _ := hr
     rw [hr2]
     rfl
    ·cases h
   ·cases h
  ·split at h
   ·rename_i hg
    have := nat_beq hg; subst this
    split at h
    ·rename_i s c
     simp only [Option.some.injEq] at h; subst h
     have hargs : args' = #[.string s, .int .u8 c] := by
      obtain ⟨l⟩ := args'
      match l, hA with
      | [a, b], hA =>
       have h0 := hA.2 0 _ _ rfl rfl
       have h1 := hA.2 1 _ _ rfl rfl
       cases h0; cases h1; rfl
      | [], hA => exact absurd hA.1 (by simp)
      | [_], hA => exact absurd hA.1 (by simp)
      | _ :: _ :: _ :: _, hA => exact absurd hA.1 (by simp)
     subst hargs
     refine ⟨_, ?_, .int _ _⟩
     rw [run_callFunc_extern (fn := Tryz.f269) (e := Extern.BytealgIndexByte.indexByte) (by kernel_rfl) (by kernel_rfl) (by kernel_rfl) (by kernel_rfl) (by kernel_rfl), run_indexByte_string]
     rfl
    ·cases h
   ·cases h
noncomputable def tryzFs (sel : FuncId → Nat) (T : Tab) : Fns := fnsT Tryz.prog (fun _ => none) tryzExt sel T 4096 64
theorem tryz_ok {sel : FuncId → Nat} {T : Tab} (hT : TabOk Tryz.prog (fun _ => none) T) : FnsOk Tryz.prog (fun _ => none) (tryzFs sel T) :=
 fnsT_ok tryz_orders tryz_noNum tryz_ext (fun g cells h => by cases h) hT 64
end Go.Abs
end

section
/- Entries for the small functions. -/
set_option linter.unusedVariables false
set_option linter.unusedSimpArgs false
namespace Go.Abs
open Go.Proofs Classical
theorem leaf_int {k : IntKind} {z : Int} : LeafOk (.v (.int k z)) := ⟨.int k z, (fun _ _ h => by cases h), (fun _ h => by cases h)⟩
theorem leaf_bool {b : Bool} : LeafOk (.v (.bool b)) := ⟨.bool b, (fun _ _ h => by cases h), (fun _ h => by cases h)⟩
theorem con_of {l : List (FuncId × Ent)} (hl : TabLOk Tryz.prog l) {N k : Nat} {g : FuncId} {args' : List AV} {ms : List Bool} {d : List RLeaf}
  (h : (fsZ l N k).call (List RLeaf) g (args'.map symA) [] (resK ms) = some d) (ha : ∀ x ∈ args', ArgOk x) (hp : FzPlain d) : Contract Tryz.prog g args' d :=
 contract_of tryz_orders tryz_noNum (tabL_ok hl) h ha hp
noncomputable def e60 : Ent := fun args' R K => match args' with
 | [.int .i64 a, .int .i64 b, .int .i64 c] => K [.v (.bool (shut (decide (a < b ∨ a > c))))]
 | _ => none
theorem e60_ok : EntOk Tryz.prog 60 e60 := by
 intro args' R K r ha h
 unfold e60 at h
 split at h
 ·rename_i a b c
  refine ⟨_, fun _ _ => rfl, fun l hl => by simp only [List.mem_singleton] at hl; subst hl; exact leaf_bool, con_of (l := []) trivial (N := 0) (k := 4) (ms := [false]) ?_ ha trivial⟩
  refine (run_60 0 a b c).trans ?_
  simp only [shut_eq, condO_dec]
  by_cases h1 : a < b <;> simp [h1]
 ·cases h
noncomputable def e99 : Ent := fun args' R K => match args' with
 | [.bool b, .int .i64 a] => K [.v (.int .i64 (shut (if b = true then a else 0)))]
 | _ => none
theorem e99_ok : EntOk Tryz.prog 99 e99 := by
 intro args' R K r ha h
 unfold e99 at h
 split at h
 ·rename_i b a
  refine ⟨_, fun _ _ => rfl, fun l hl => by simp only [List.mem_singleton] at hl; subst hl; exact leaf_int, con_of (l := []) trivial (N := 0) (k := 4) (ms := [false]) ?_ ha trivial⟩
  refine (run_99 0 b a).trans ?_
  simp only [shut_eq, condO_bool]
  cases b <;> simp
 ·cases h
theorem e28_ok : EntOk Tryz.prog 28 e99 := by
 intro args' R K r ha h
 unfold e99 at h
 split at h
 ·rename_i b a
  refine ⟨_, fun _ _ => rfl, fun l hl => by simp only [List.mem_singleton] at hl; subst hl; exact leaf_int, con_of (l := []) trivial (N := 0) (k := 4) (ms := [false]) ?_ ha trivial⟩
  refine (run_28 0 b a).trans ?_
  simp only [shut_eq, condO_bool]
  cases b <;> simp
 ·cases h
noncomputable def eFirst : Ent := fun args' R K => match args' with
 | [.list n cs] => guardO (shut (decide (Ints n cs))) (K [.v (.int .i64 (shut (firstNZ (intsOf cs))))])
 | _ => none
theorem e29_ok : EntOk Tryz.prog 29 eFirst := by
 intro args' R K r ha h
 unfold eFirst at h
 split at h
 ·rename_i n cs
  obtain ⟨h1, h2⟩ := guardO_some h
  rw [shut_eq] at h1
  have h1' := of_decide_eq_true h1
  refine ⟨[.v (.int .i64 (firstNZ (intsOf cs)))], fun _ _ => by simp only [eFirst, shut_eq, h1', decide_true, guardO, and_self], fun l hl => by simp only [List.mem_singleton] at hl; subst hl; exact leaf_int, con_of (l := []) trivial (N := n + 1) (k := 4) (ms := [false]) (run_29' h1') ha trivial⟩
 ·cases h
theorem e88_ok : EntOk Tryz.prog 88 eFirst := by
 intro args' R K r ha h
 unfold eFirst at h
 split at h
 ·rename_i n cs
  obtain ⟨h1, h2⟩ := guardO_some h
  rw [shut_eq] at h1
  have h1' := of_decide_eq_true h1
  refine ⟨[.v (.int .i64 (firstNZ (intsOf cs)))], fun _ _ => by simp only [eFirst, shut_eq, h1', decide_true, guardO, and_self], fun l hl => by simp only [List.mem_singleton] at hl; subst hl; exact leaf_int, con_of (l := []) trivial (N := n + 1) (k := 4) (ms := [false]) (run_88' h1') ha trivial⟩
 ·cases h
noncomputable def eSame : Ent := fun args' R K => match args' with
 | [.list n cs, .list m ds] => guardO (shut (decide (Ints n cs ∧ Ints m ds))) (K [.v (.bool (shut (decide (intsOf cs = intsOf ds))))])
 | _ => none
theorem e40_ok : EntOk Tryz.prog 40 eSame := by
 intro args' R K r ha h
 unfold eSame at h
 split at h
 ·rename_i n cs m ds
  obtain ⟨h1, h2⟩ := guardO_some h
  rw [shut_eq] at h1
  have h1' := of_decide_eq_true h1
  refine ⟨[.v (.bool (decide (intsOf cs = intsOf ds)))], fun _ _ => by simp only [eFirst, eSame, shut_eq, h1', decide_true, guardO, and_self], fun l hl => by simp only [List.mem_singleton] at hl; subst hl; exact leaf_bool, con_of (l := []) trivial (N := n + 1) (k := 4) (ms := [false]) (run_40' h1'.1 h1'.2) ha trivial⟩
 ·cases h
end Go.Abs
end

section
/- The first table. -/
namespace Go.Abs
open Go.Proofs Classical
noncomputable def tz1 : List (FuncId × Ent) := [(60, e60), (99, e99), (28, e99), (29, eFirst), (88, eFirst), (40, eSame)]
theorem tz1_ok : TabLOk Tryz.prog tz1 := ⟨e60_ok, e99_ok, e28_ok, e29_ok, e88_ok, e40_ok, trivial⟩
end Go.Abs
end

section
/- Functions of the Acquire seat, lifted (printed by the tool gen.py). -/
set_option maxRecDepth 100000
set_option linter.unusedVariables false
namespace Go.Abs
open Go.Proofs
theorem run_89 (N : Nat) (a b c : Int) : (fsZ tz1 N 4).call (List RLeaf) 89 [.ofB (.int .i64 a), .ofB (.int .i64 b), .ofB (.int .i64 c)] [] (resK [false]) =
 condO (shut (decide (a < b)))
 (
 some [RLeaf.v (AV.int IntKind.i64 (shut (if true = true then (3 : Int) else (0 : Int))))])
 (
 some [RLeaf.v (AV.int IntKind.i64 (shut (if shut (decide (a > c)) = true then (3 : Int) else (0 : Int))))]) := by kernel_rfl
theorem run_51 (N : Nat) (a : Int) : (fsZ tz1 N 4).call (List RLeaf) 51 [.ofB (.int .i64 a)] [] (resK [false]) =
 condO (shut (decide (a < (1 : Int) ∨ a > (30 : Int))))
 (
 some [RLeaf.v (AV.int IntKind.i64 (3 : Int))])
 (
 some [RLeaf.v (AV.int IntKind.i64 (0 : Int))]) := by kernel_rfl
theorem run_82 (N : Nat) (a b : Int) (n : Nat) (cs : List AV) (c d : Int) : (fsZ tz1 N 4).call (List RLeaf) 82 [.s (.agg [.b (.int .i64 a), .b (.int .i64 b), .b (.list n cs), .b (.int .i64 c), .b (.int .i64 d)])] [] (resK [false]) =
 some [RLeaf.v (AV.int IntKind.i64 (shut (IntKind.i64.wrap (a + (↑n : Int)))))] := by kernel_rfl
theorem run_108 (N : Nat) (a b : Int) (n : Nat) (cs : List AV) (c d : Int) : (fsZ tz1 N 4).call (List RLeaf) 108 [.s (.agg [.b (.int .i64 a), .b (.int .i64 b), .b (.list n cs), .b (.int .i64 c), .b (.int .i64 d)])] [] (resK [false]) =
 some [RLeaf.v (AV.int IntKind.i64 (shut (IntKind.i64.wrap (a + (↑n : Int)))))] := by kernel_rfl
theorem run_104 (N : Nat) (o : Option Nat) : (fsZ tz1 N 4).call (List RLeaf) 104 [.ofB (.flo .f32 o)] [] (resK [false]) =
 some [RLeaf.v (AV.bool (shut (ordO Go.FloatKind.f32 (shut (arithO Go.BinOp.sub Go.FloatKind.f32 o o)) (Option.some (0)) == Option.some Ordering.eq)))] := by kernel_rfl
theorem run_153 (N : Nat) (o : Option Nat) : (fsZ tz1 N 4).call (List RLeaf) 153 [.ofB (.flo .f32 o)] [] (resK [false]) =
 some [RLeaf.v (AV.bool (shut (ordO Go.FloatKind.f32 (shut (arithO Go.BinOp.sub Go.FloatKind.f32 o o)) (Option.some (0)) == Option.some Ordering.eq)))] := by kernel_rfl
theorem run_152 (N : Nat) (b : Bool) (a : Int) : (fsZ tz1 N 4).call (List RLeaf) 152 [.ofB (.bool b), .ofB (.int .i64 a)] [] (resK [false]) =
 condO (b)
 (
 some [RLeaf.v (AV.int IntKind.i64 a)])
 (
 some [RLeaf.v (AV.int IntKind.i64 (0 : Int))]) := by kernel_rfl
end Go.Abs
end

section
/- Entries: within, end, Finite. -/
set_option linter.unusedVariables false
set_option linter.unusedSimpArgs false
namespace Go.Abs
open Go.Proofs Classical
noncomputable def e89 : Ent := fun args' R K => match args' with
 | [.int .i64 a, .int .i64 b, .int .i64 c] => K [.v (.int .i64 (shut (if a < b ∨ a > c then 3 else 0)))]
 | _ => none
theorem e89_ok : EntOk Tryz.prog 89 e89 := by
 intro args' R K r ha h
 unfold e89 at h
 split at h
 ·rename_i a b c
  refine ⟨_, fun _ _ => rfl, fun l hl => by simp only [List.mem_singleton] at hl; subst hl; exact leaf_int, con_of tz1_ok (N := 0) (k := 4) (ms := [false]) ?_ ha trivial⟩
  refine (run_89 0 a b c).trans ?_
  simp only [shut_eq, condO_dec]
  by_cases h1 : a < b <;> simp [h1]
 ·cases h
noncomputable def e51 : Ent := fun args' R K => match args' with
 | [.int .i64 a] => K [.v (.int .i64 (shut (if a < 1 ∨ a > 30 then 3 else 0)))]
 | _ => none
theorem e51_ok : EntOk Tryz.prog 51 e51 := by
 intro args' R K r ha h
 unfold e51 at h
 split at h
 ·rename_i a
  refine ⟨_, fun _ _ => rfl, fun l hl => by simp only [List.mem_singleton] at hl; subst hl; exact leaf_int, con_of tz1_ok (N := 0) (k := 4) (ms := [false]) ?_ ha trivial⟩
  refine (run_51 0 a).trans ?_
  simp only [shut_eq, condO_dec]
  by_cases h1 : a < 1 ∨ a > 30 <;> simp [h1]
 ·cases h
noncomputable def eEnd : Ent := fun args' R K => match args' with
 | [.agg [.int .i64 a, .int .i64 b, .list n cs, .int .i64 c, .int .i64 d]] => K [.v (.int .i64 (shut (IntKind.i64.wrap (a + (n : Int)))))]
 | _ => none
theorem e82_ok : EntOk Tryz.prog 82 eEnd := by
 intro args' R K r ha h
 unfold eEnd at h
 split at h
 ·rename_i a b n cs c d
  exact ⟨_, fun _ _ => rfl, fun l hl => by simp only [List.mem_singleton] at hl; subst hl; exact leaf_int, con_of tz1_ok (N := 0) (k := 4) (ms := [false]) (run_82 0 a b n cs c d) ha trivial⟩
 ·cases h
theorem e108_ok : EntOk Tryz.prog 108 eEnd := by
 intro args' R K r ha h
 unfold eEnd at h
 split at h
 ·rename_i a b n cs c d
  exact ⟨_, fun _ _ => rfl, fun l hl => by simp only [List.mem_singleton] at hl; subst hl; exact leaf_int, con_of tz1_ok (N := 0) (k := 4) (ms := [false]) (run_108 0 a b n cs c d) ha trivial⟩
 ·cases h
def finB (o : Option Nat) : Bool := ordO .f32 (arithO .sub .f32 o o) (some 0) == some .eq
noncomputable def eFin : Ent := fun args' R K => match args' with
 | [.flo .f32 o] => K [.v (.bool (shut (finB o)))]
 | _ => none
theorem e104_ok : EntOk Tryz.prog 104 eFin := by
 intro args' R K r ha h
 unfold eFin at h
 split at h
 ·rename_i o
  refine ⟨_, fun _ _ => rfl, fun l hl => by simp only [List.mem_singleton] at hl; subst hl; exact leaf_bool, con_of tz1_ok (N := 0) (k := 4) (ms := [false]) ?_ ha trivial⟩
  refine (run_104 0 o).trans ?_
  simp only [shut_eq, finB]
 ·cases h
theorem e153_ok : EntOk Tryz.prog 153 eFin := by
 intro args' R K r ha h
 unfold eFin at h
 split at h
 ·rename_i o
  refine ⟨_, fun _ _ => rfl, fun l hl => by simp only [List.mem_singleton] at hl; subst hl; exact leaf_bool, con_of tz1_ok (N := 0) (k := 4) (ms := [false]) ?_ ha trivial⟩
  refine (run_153 0 o).trans ?_
  simp only [shut_eq, finB]
 ·cases h
theorem e152_ok : EntOk Tryz.prog 152 e99 := by
 intro args' R K r ha h
 unfold e99 at h
 split at h
 ·rename_i b a
  refine ⟨_, fun _ _ => rfl, fun l hl => by simp only [List.mem_singleton] at hl; subst hl; exact leaf_int, con_of tz1_ok (N := 0) (k := 4) (ms := [false]) ?_ ha trivial⟩
  refine (run_152 0 b a).trans ?_
  simp only [shut_eq, condO_bool]
  cases b <;> simp
 ·cases h
noncomputable def tz2 : List (FuncId × Ent) := (89, e89) :: (51, e51) :: (82, eEnd) :: (108, eEnd) :: (104, eFin) :: (153, eFin) :: (152, e99) :: tz1
theorem tz2_ok : TabLOk Tryz.prog tz2 := ⟨e89_ok, e51_ok, e82_ok, e108_ok, e104_ok, e153_ok, e152_ok, tz1_ok⟩
end Go.Abs
end

section
/- Functions of the Acquire seat, lifted (printed by the tool gen.py). -/
set_option maxRecDepth 100000
set_option linter.unusedVariables false
namespace Go.Abs
open Go.Proofs Classical
theorem run_30 (N : Nat) (n : Nat) (cs : List AV) : (fsZ tz2 N 6).call (List RLeaf) 30 [.ofB (.list n cs)] [] (resK [false]) = (
 condO (shut (decide ((↑n : Int) > (4096 : Int))))
 (
 some [RLeaf.v (AV.int IntKind.i64 (5 : Int))])
 (
 loopC N (fun r_1 (x0_1 : Nat) (x1_1 : List AV) (x2_1 : Int) =>
  condO (shut (decide (x2_1 < (↑x0_1 : Int))))
   (
   guardO (shut (decide ((0 : Int) ≤ x2_1 ∧ x2_1 < (↑x0_1 : Int) ∧ 0 < x1_1.length))) <|
   bindO (asFloat Go.FloatKind.f32 (x1_1.getD (x2_1.toNat * 1) AV.top)) fun v4 =>
   condO (!shut (finB v4))
   (
   some [RLeaf.v (AV.int IntKind.i64 (1 : Int))])
   (
   r_1 (x0_1) (x1_1) (shut (IntKind.i64.wrap (x2_1 + (1 : Int))))))
   (
   some [RLeaf.v (AV.int IntKind.i64 (0 : Int))]))
  (fun _ _ _ => none) (n) (cs) ((0 : Int)))) := by kernel_rfl
theorem run_98 (N : Nat) (n : Nat) (cs : List AV) : (fsZ tz2 N 6).call (List RLeaf) 98 [.ofB (.list n cs)] [] (resK [false]) = (
 condO (shut (decide ((↑n : Int) > (4096 : Int))))
 (
 some [RLeaf.v (AV.int IntKind.i64 (5 : Int))])
 (
 loopC N (fun r_1 (x0_1 : Nat) (x1_1 : List AV) (x2_1 : Int) (x3_1 : Int) =>
  condO (shut (decide (x3_1 < x2_1)))
   (
   guardO (shut (decide ((0 : Int) ≤ x3_1 ∧ x3_1 < (↑x0_1 : Int) ∧ 0 < x1_1.length))) <|
   bindO (asFloat Go.FloatKind.f32 (x1_1.getD (x3_1.toNat * 1) AV.top)) fun v4 =>
   condO (shut (shut (if (!shut (finB v4)) = true then (1 : Int) else (0 : Int)) != (0 : Int)))
   (
   some [RLeaf.v (AV.int IntKind.i64 (shut (if (!shut (finB v4)) = true then (1 : Int) else (0 : Int))))])
   (
   r_1 (x0_1) (x1_1) (x2_1) (shut (IntKind.i64.wrap (x3_1 + (1 : Int))))))
   (
   some [RLeaf.v (AV.int IntKind.i64 (0 : Int))]))
  (fun _ _ _ _ => none) (n) (cs) ((↑n : Int)) ((0 : Int)))) := by kernel_rfl
end Go.Abs
end

section
/- Entries: checks of samples. -/
set_option linter.unusedVariables false
set_option linter.unusedSimpArgs false
namespace Go.Abs
open Go.Proofs Classical
def toF : AV → Option Nat
 | .flo _ o => o
 | _ => none
def flosOf (cs : List AV) : List (Option Nat) := cs.map toF
def Flos (n : Nat) (cs : List AV) : Prop := n < 9223372036854775808 ∧ cs = (flosOf cs).map (AV.flo .f32) ∧ cs.length = n
theorem Flos.len {n : Nat} {cs : List AV} (h : Flos n cs) : (flosOf cs).length = n := by
 simp [flosOf, h.2.2]
theorem Flos.get {n : Nat} {cs : List AV} (h : Flos n cs) {i : Nat} (hi : i < n) : asFloat .f32 (cs.getD i .top) = some ((flosOf cs).getD i none) := by
 have h4 := h.len
 obtain ⟨h1, h2, h3⟩ := h
 have h5 : i < (flosOf cs).length := by omega
 rw [List.getD_eq_getElem?_getD, List.getD_eq_getElem?_getD]
 conv => lhs; rw [h2]
 simp [h5, asFloat]
def sampErr (n : Nat) (xs : List (Option Nat)) : Int := if n > 4096 then 5 else if xs.all finB then 0 else 1
theorem run_30' {n : Nat} {cs : List AV} (h : Flos n cs) : (fsZ tz2 (n + 1) 6).call (List RLeaf) 30 [.ofB (.list n cs)] [] (resK [false]) = some [.v (.int .i64 (sampErr n (flosOf cs)))] := by
 rw [run_30]
 simp only [shut_eq, condO_dec, sampErr]
 by_cases h0 : n > 4096
 ·rw [if_pos (by omega), if_pos h0]
 rw [if_neg (by omega), if_neg h0]
 refine loopC_rule (fun k (r : Nat → List AV → Int → Option (List RLeaf)) => ∀ i : Nat, i + k = n → r n cs (i : Int) = some [RLeaf.v (.int .i64 (if ((flosOf cs).drop i).all finB then 0 else 1))]) ?_ (n + 1) n (by omega) 0 (by omega)
 intro k r ih i hi
 by_cases hk : i < n
 ·have h2 : 0 < cs.length := by rw [h.2.2]; omega
  rw [drop_cons (d := none) (show i < (flosOf cs).length by rw [h.len]; exact hk)]
  simp only [shut_eq, condO_dec, condO_not, guardO_dec, Int.ofNat_lt, hk, h2, if_true, Int.toNat_natCast, Nat.mul_one, h.get hk, bindO_ok, idx64 h.1 hk, ih (k - 1) (by omega) (i + 1) (by omega), and_true, Int.natCast_nonneg, true_and, List.all_cons, Bool.and_eq_true]
  by_cases hz : finB ((flosOf cs).getD i none) = true <;> simp only [hz, if_true, if_false, true_and, false_and, Bool.false_eq_true]
 ·have h2 : (flosOf cs).drop i = [] := by rw [List.drop_eq_nil_iff, h.len]; omega
  simp only [shut_eq, condO_dec, Int.ofNat_lt, hk, h2, if_false, List.all_nil, if_true]
theorem run_98' {n : Nat} {cs : List AV} (h : Flos n cs) : (fsZ tz2 (n + 1) 6).call (List RLeaf) 98 [.ofB (.list n cs)] [] (resK [false]) = some [.v (.int .i64 (sampErr n (flosOf cs)))] := by
 rw [run_98]
 simp only [shut_eq, condO_dec, sampErr]
 by_cases h0 : n > 4096
 ·rw [if_pos (by omega), if_pos h0]
 rw [if_neg (by omega), if_neg h0]
 refine loopC_rule (fun k (r : Nat → List AV → Int → Int → Option (List RLeaf)) => ∀ i : Nat, i + k = n → r n cs (n : Int) (i : Int) = some [RLeaf.v (.int .i64 (if ((flosOf cs).drop i).all finB then 0 else 1))]) ?_ (n + 1) n (by omega) 0 (by omega)
 intro k r ih i hi
 by_cases hk : i < n
 ·have h2 : 0 < cs.length := by rw [h.2.2]; omega
  rw [drop_cons (d := none) (show i < (flosOf cs).length by rw [h.len]; exact hk)]
  simp only [shut_eq, condO_dec, condO_bne, condO_not, guardO_dec, Int.ofNat_lt, hk, h2, if_true, Int.toNat_natCast, Nat.mul_one, h.get hk, bindO_ok, idx64 h.1 hk, ih (k - 1) (by omega) (i + 1) (by omega), and_true, Int.natCast_nonneg, true_and, List.all_cons, Bool.and_eq_true]
  generalize finB ((flosOf cs).getD i none) = z
  cases z <;> simp
 ·have h2 : (flosOf cs).drop i = [] := by rw [List.drop_eq_nil_iff, h.len]; omega
  simp only [shut_eq, condO_dec, Int.ofNat_lt, hk, h2, if_false, List.all_nil, if_true]
end Go.Abs
end

section
/- Lists of segments. -/
set_option linter.unusedVariables false
set_option linter.unusedSimpArgs false
namespace Go.Abs
open Go.Proofs Classical
theorem ShR.cell {s : Sh} {x : AV} (h : ShR s x) : Cell x := by
 induction h with
 | bool b => exact .bool b
 | int k z _ => exact .int k z
 | flo k o _ => exact .flo k o
 | str s _ => exact .string s
 | sl es n els hn hl he hv ih =>
  refine .list _ _ fun x hx => ?_
  obtain ⟨e, h1, h2⟩ := List.mem_flatten.1 hx
  obtain ⟨j, hj⟩ := List.getElem?_of_mem h2
  have hlt := (List.getElem?_eq_some_iff.1 hj).1
  rw [he e h1] at hlt
  exact ih e h1 j _ x (List.getElem?_eq_getElem hlt) hj
theorem ShR.arg {s : Sh} {x : AV} (h : ShR s x) : ArgOk x := by
 have hc := h.cell
 cases hc <;> first | trivial | (rename_i h; exact h)
theorem ShR.flat1 {es : List (List AV)} (h : ∀ e ∈ es, e.length = 1) : ∀ {x : AV}, x ∈ es.flatten → [x] ∈ es := by
 intro x hx
 obtain ⟨e, h1, h2⟩ := List.mem_flatten.1 hx
 have := h e h1
 match e, this with
 | [y], _ => simp only [List.mem_singleton] at h2; subst h2; exact h1
theorem ints_of {x : AV} (h : ShR (.sl [.int .i64]) x) : ∃ n cs, x = .list n cs ∧ Ints n cs := by
 cases h with
 | sl es n els hn hl he hv =>
  refine ⟨n, els.flatten, rfl, by unfold maxLen at hn; omega, ?_, by rw [flat_len he]; simp [hl]⟩
  have : ∀ x ∈ els.flatten, AV.int .i64 (toI x) = x := by
   intro x hx
   have := hv [x] (ShR.flat1 he hx) 0 _ x rfl rfl
   cases this; rfl
  unfold intsOf
  rw [List.map_map]
  exact (List.map_congr_left (g := id) this |>.trans (List.map_id _)).symm
theorem flos_of {x : AV} (h : ShR (.sl [.flo .f32]) x) : ∃ n cs, x = .list n cs ∧ Flos n cs := by
 cases h with
 | sl es n els hn hl he hv =>
  refine ⟨n, els.flatten, rfl, by unfold maxLen at hn; omega, ?_, by rw [flat_len he]; simp [hl]⟩
  have : ∀ x ∈ els.flatten, AV.flo .f32 (toF x) = x := by
   intro x hx
   have := hv [x] (ShR.flat1 he hx) 0 _ x rfl rfl
   cases this; rfl
  unfold flosOf
  rw [List.map_map]
  exact (List.map_congr_left (g := id) this |>.trans (List.map_id _)).symm
structure SegA where
 start : Int
 trig : Int
 k : Nat
 fs : List AV
 lost : Int
 missed : Int
def toLi : AV → Nat × List AV
 | .list n cs => (n, cs)
 | _ => (0, [])
def segAt (cs : List AV) (i : Nat) : SegA :=
 ⟨toI (cs.getD (i * 5) .top), toI (cs.getD (i * 5 + 1) .top), (toLi (cs.getD (i * 5 + 2) .top)).1, (toLi (cs.getD (i * 5 + 2) .top)).2, toI (cs.getD (i * 5 + 3) .top), toI (cs.getD (i * 5 + 4) .top)⟩
def segsOf (n : Nat) (cs : List AV) : List SegA := (List.range n).map (segAt cs)
structure Segs (n : Nat) (cs : List AV) : Prop where
 lt : n < 9223372036854775808
 len : cs.length = n * 5
 c0 : ∀ i, i < n → cs.getD (i * 5) .top = .int .i64 (segAt cs i).start
 c1 : ∀ i, i < n → cs.getD (i * 5 + 1) .top = .int .i64 (segAt cs i).trig
 c2 : ∀ i, i < n → cs.getD (i * 5 + 2) .top = .list (segAt cs i).k (segAt cs i).fs
 c3 : ∀ i, i < n → cs.getD (i * 5 + 3) .top = .int .i64 (segAt cs i).lost
 c4 : ∀ i, i < n → cs.getD (i * 5 + 4) .top = .int .i64 (segAt cs i).missed
 fl : ∀ i, i < n → Flos (segAt cs i).k (segAt cs i).fs
section
variable {n : Nat} {cs : List AV}
theorem Segs.g0 (h : Segs n cs) {i : Nat} (hi : i < n) : asInt .i64 (cs.getD (i * 5) .top) = some (segAt cs i).start := by rw [h.c0 i hi]; simp [asInt]
theorem Segs.g1 (h : Segs n cs) {i : Nat} (hi : i < n) : asInt .i64 (cs.getD (i * 5 + 1) .top) = some (segAt cs i).trig := by rw [h.c1 i hi]; simp [asInt]
theorem Segs.g2 (h : Segs n cs) {i : Nat} (hi : i < n) : asList (cs.getD (i * 5 + 2) .top) = some ((segAt cs i).k, (segAt cs i).fs) := by rw [h.c2 i hi]; rfl
theorem Segs.g2' (h : Segs n cs) {i : Nat} (hi : i < n) : asList (cs.getD (i * 5 + 1 + 1) .top) = some ((segAt cs i).k, (segAt cs i).fs) := h.g2 hi
theorem Segs.g3' (h : Segs n cs) {i : Nat} (hi : i < n) : asInt .i64 (cs.getD (i * 5 + 1 + 1 + 1) .top) = some (segAt cs i).lost := by rw [show i * 5 + 1 + 1 + 1 = i * 5 + 3 by omega, h.c3 i hi]; simp [asInt]
theorem Segs.g4' (h : Segs n cs) {i : Nat} (hi : i < n) : asInt .i64 (cs.getD (i * 5 + 1 + 1 + 1 + 1) .top) = some (segAt cs i).missed := by rw [show i * 5 + 1 + 1 + 1 + 1 = i * 5 + 4 by omega, h.c4 i hi]; simp [asInt]
theorem Segs.g3 (h : Segs n cs) {i : Nat} (hi : i < n) : asInt .i64 (cs.getD (i * 5 + 3) .top) = some (segAt cs i).lost := by rw [h.c3 i hi]; simp [asInt]
theorem Segs.g4 (h : Segs n cs) {i : Nat} (hi : i < n) : asInt .i64 (cs.getD (i * 5 + 4) .top) = some (segAt cs i).missed := by rw [h.c4 i hi]; simp [asInt]
theorem segsOf_drop {i : Nat} (hi : i < n) : (segsOf n cs).drop i = segAt cs i :: (segsOf n cs).drop (i + 1) := by
 rw [List.drop_eq_getElem_cons (by simp [segsOf, hi])]; simp [segsOf]
end
theorem segsOf_len {n : Nat} {cs : List AV} : (segsOf n cs).length = n := by simp [segsOf]
/-! What the checks give. -/
end Go.Abs
end

