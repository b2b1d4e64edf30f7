/- Part 31 of the proof of the statement that the last part names; it asks for no condition of its own. Here: PcDec. -/
import Derived.Test.YtgkfbembnlgahaaGreatDoorQbd
import Derived.Test.YtgkfbembnlgahaaGreatDoorQao
import Derived.KernelRfl
set_option linter.unusedVariables false
set_option linter.unusedSimpArgs false
set_option maxRecDepth 100000
set_option maxHeartbeats 0
namespace Go.Pc
open Go Go.Sx Go.Tx
def readP {T : Type} (one : List ByteArray → Option Int → Option T) (key : T → Int) : List (List ByteArray) → Option Int → Nat → List T ⊕ Nat
  | [], _, _ => .inl []
  | w :: r, e, i => match one w e with
    | none => .inr (i + 1)
    | some x => match readP one key r (some (key x)) (i + 1) with
      | .inl l => .inl (x :: l)
      | .inr k => .inr k
theorem readP_eq {T : Type} {one : List ByteArray → List T → Option T} {one' : List ByteArray → Option Int → Option T} {key : T → Int} (h : ∀ w l, one w l = one' w (l.getLast?.map key)) :
    ∀ (L : List (List ByteArray)) (acc : List T) (i : Nat), readR one L acc i = match readP one' key L (acc.getLast?.map key) i with
      | .inl l => .inl (acc ++ l)
      | .inr k => .inr k
  | [], acc, i => by simp [readR, readP]
  | w :: r, acc, i => by
    unfold readR readP
    rw [h]
    cases ho : one' w (acc.getLast?.map key) with
    | none => rfl
    | some x =>
      simp only
      rw [readP_eq h r (acc ++ [x]) (i + 1), List.getLast?_concat, Option.map_some]
      cases readP one' key r (some (key x)) (i + 1) <;> simp
theorem readR_of {T : Type} {one : List ByteArray → List T → Option T} {one' : List ByteArray → Option Int → Option T} {key : T → Int} (h : ∀ w l, one w l = one' w (l.getLast?.map key)) {L : List (List ByteArray)} {l : List T}
    (hp : readP one' key L none 0 = .inl l) : readR one L [] 0 = .inl l := by
  have := readP_eq h L [] 0
  rw [List.getLast?_nil, Option.map_none, hp] at this
  simpa using this

def oneDecompP (w : List ByteArray) (e : Option Int) : Option Dc := match w with
  | a :: b :: c :: r => if (decide (1 ≤ b.size) && decide (b.size ≤ 1) && allIn signsB b) && ptOK a && (ptsOK (c :: r) && decide ((c :: r).length ≤ 3)) && aheadI e (ptN a) then
      some ((ptN a : Int), (c :: r).map (fun x => (ptN x : Int)), isB b [126], isB b [33]) else none
  | _ => none
theorem oneDecompP_eq (w : List ByteArray) (l : List Dc) : oneDecomp w l = oneDecompP w (l.getLast?.map (fun e => e.1)) := by
  rcases w with _ | ⟨a, _ | ⟨b, _ | ⟨c, r⟩⟩⟩ <;> rfl
noncomputable def decT : ByteArray := bigK Go.Proofs.Tryz.f11 2
def decL : List Dc := [
  (160, [32], true, false), (168, [32, 776], true, false), (170, [97], true, false), (175, [32, 772], true, false), (178, [50], true, false), (179, [51], true, false),
  (180, [32, 769], true, false), (181, [956], true, false), (184, [32, 807], true, false), (185, [49], true, false), (186, [111], true, false), (188, [49, 8260, 52], true, false),
  (189, [49, 8260, 50], true, false), (190, [51, 8260, 52], true, false), (192, [65, 768], false, false), (193, [65, 769], false, false), (194, [65, 770], false, false), (195, [65, 771], false, false),
  (196, [65, 776], false, false), (197, [65, 778], false, false), (199, [67, 807], false, false), (200, [69, 768], false, false), (201, [69, 769], false, false), (202, [69, 770], false, false),
  (203, [69, 776], false, false), (204, [73, 768], false, false), (205, [73, 769], false, false), (206, [73, 770], false, false), (207, [73, 776], false, false), (209, [78, 771], false, false),
  (210, [79, 768], false, false), (211, [79, 769], false, false), (212, [79, 770], false, false), (213, [79, 771], false, false), (214, [79, 776], false, false), (217, [85, 768], false, false),
  (218, [85, 769], false, false), (219, [85, 770], false, false), (220, [85, 776], false, false), (221, [89, 769], false, false), (224, [97, 768], false, false), (225, [97, 769], false, false),
  (226, [97, 770], false, false), (227, [97, 771], false, false), (228, [97, 776], false, false), (229, [97, 778], false, false), (231, [99, 807], false, false), (232, [101, 768], false, false),
  (233, [101, 769], false, false), (234, [101, 770], false, false), (235, [101, 776], false, false), (236, [105, 768], false, false), (237, [105, 769], false, false), (238, [105, 770], false, false),
  (239, [105, 776], false, false), (241, [110, 771], false, false), (242, [111, 768], false, false), (243, [111, 769], false, false), (244, [111, 770], false, false), (245, [111, 771], false, false),
  (246, [111, 776], false, false), (249, [117, 768], false, false), (250, [117, 769], false, false), (251, [117, 770], false, false), (252, [117, 776], false, false), (253, [121, 769], false, false),
  (255, [121, 776], false, false), (256, [65, 772], false, false), (257, [97, 772], false, false), (258, [65, 774], false, false), (259, [97, 774], false, false), (260, [65, 808], false, false),
  (261, [97, 808], false, false), (262, [67, 769], false, false), (263, [99, 769], false, false), (264, [67, 770], false, false), (265, [99, 770], false, false), (266, [67, 775], false, false),
  (267, [99, 775], false, false), (268, [67, 780], false, false), (269, [99, 780], false, false), (270, [68, 780], false, false), (271, [100, 780], false, false), (274, [69, 772], false, false),
  (275, [101, 772], false, false), (276, [69, 774], false, false), (277, [101, 774], false, false), (278, [69, 775], false, false), (279, [101, 775], false, false), (280, [69, 808], false, false),
  (281, [101, 808], false, false), (282, [69, 780], false, false), (283, [101, 780], false, false), (284, [71, 770], false, false), (285, [103, 770], false, false), (286, [71, 774], false, false),
  (287, [103, 774], false, false), (288, [71, 775], false, false), (289, [103, 775], false, false), (290, [71, 807], false, false), (291, [103, 807], false, false), (292, [72, 770], false, false),
  (293, [104, 770], false, false), (296, [73, 771], false, false), (297, [105, 771], false, false), (298, [73, 772], false, false), (299, [105, 772], false, false), (300, [73, 774], false, false),
  (301, [105, 774], false, false), (302, [73, 808], false, false), (303, [105, 808], false, false), (304, [73, 775], false, false), (306, [73, 74], true, false), (307, [105, 106], true, false),
  (308, [74, 770], false, false), (309, [106, 770], false, false), (310, [75, 807], false, false), (311, [107, 807], false, false), (313, [76, 769], false, false), (314, [108, 769], false, false),
  (315, [76, 807], false, false), (316, [108, 807], false, false), (317, [76, 780], false, false), (318, [108, 780], false, false), (319, [76, 183], true, false), (320, [108, 183], true, false),
  (323, [78, 769], false, false), (324, [110, 769], false, false), (325, [78, 807], false, false), (326, [110, 807], false, false), (327, [78, 780], false, false), (328, [110, 780], false, false),
  (329, [700, 110], true, false), (332, [79, 772], false, false), (333, [111, 772], false, false), (334, [79, 774], false, false), (335, [111, 774], false, false), (336, [79, 779], false, false),
  (337, [111, 779], false, false), (340, [82, 769], false, false), (341, [114, 769], false, false), (342, [82, 807], false, false), (343, [114, 807], false, false), (344, [82, 780], false, false),
  (345, [114, 780], false, false), (346, [83, 769], false, false), (347, [115, 769], false, false), (348, [83, 770], false, false), (349, [115, 770], false, false), (350, [83, 807], false, false),
  (351, [115, 807], false, false), (352, [83, 780], false, false), (353, [115, 780], false, false), (354, [84, 807], false, false), (355, [116, 807], false, false), (356, [84, 780], false, false),
  (357, [116, 780], false, false), (360, [85, 771], false, false), (361, [117, 771], false, false), (362, [85, 772], false, false), (363, [117, 772], false, false), (364, [85, 774], false, false),
  (365, [117, 774], false, false), (366, [85, 778], false, false), (367, [117, 778], false, false), (368, [85, 779], false, false), (369, [117, 779], false, false), (370, [85, 808], false, false),
  (371, [117, 808], false, false), (372, [87, 770], false, false), (373, [119, 770], false, false), (374, [89, 770], false, false), (375, [121, 770], false, false), (376, [89, 776], false, false),
  (377, [90, 769], false, false), (378, [122, 769], false, false), (379, [90, 775], false, false), (380, [122, 775], false, false), (381, [90, 780], false, false), (382, [122, 780], false, false),
  (383, [115], true, false), (452, [68, 90, 780], true, false), (453, [68, 122, 780], true, false), (454, [100, 122, 780], true, false), (455, [76, 74], true, false), (456, [76, 106], true, false),
  (457, [108, 106], true, false), (469, [220, 772], false, false), (470, [252, 772], false, false), (471, [220, 769], false, false), (472, [252, 769], false, false), (473, [220, 780], false, false),
  (474, [252, 780], false, false), (475, [220, 768], false, false), (476, [252, 768], false, false), (688, [104], true, false), (689, [614], true, false), (728, [32, 774], true, false),
  (729, [32, 775], true, false), (730, [32, 778], true, false), (731, [32, 808], true, false), (732, [32, 771], true, false), (733, [32, 779], true, false), (832, [768], false, false),
  (833, [769], false, false), (835, [787], false, false), (836, [776, 769], false, true), (894, [59], false, false), (900, [32, 769], true, false), (901, [168, 769], false, false),
  (902, [913, 769], false, false), (903, [183], false, false), (904, [917, 769], false, false), (905, [919, 769], false, false), (906, [921, 769], false, false), (908, [927, 769], false, false),
  (910, [933, 769], false, false), (911, [937, 769], false, false), (912, [970, 769], false, false), (938, [921, 776], false, false), (939, [933, 776], false, false), (940, [945, 769], false, false),
  (941, [949, 769], false, false), (942, [951, 769], false, false), (943, [953, 769], false, false), (944, [971, 769], false, false), (970, [953, 776], false, false), (971, [965, 776], false, false),
  (972, [959, 769], false, false), (973, [965, 769], false, false), (974, [969, 769], false, false), (976, [946], true, false), (977, [952], true, false), (1024, [1045, 768], false, false),
  (1025, [1045, 776], false, false), (1027, [1043, 769], false, false), (1031, [1030, 776], false, false), (1036, [1050, 769], false, false), (1037, [1048, 768], false, false), (1038, [1059, 774], false, false),
  (1049, [1048, 774], false, false), (1081, [1080, 774], false, false), (1104, [1077, 768], false, false), (1105, [1077, 776], false, false), (1107, [1075, 769], false, false), (1111, [1110, 776], false, false),
  (1116, [1082, 769], false, false), (1117, [1080, 768], false, false), (1118, [1091, 774], false, false), (1570, [1575, 1619], false, false), (1571, [1575, 1620], false, false), (1572, [1608, 1620], false, false),
  (1573, [1575, 1621], false, false), (1574, [1610, 1620], false, false), (2392, [2325, 2364], false, true), (2393, [2326, 2364], false, true), (2394, [2327, 2364], false, true), (7680, [65, 805], false, false),
  (7681, [97, 805], false, false), (7682, [66, 775], false, false), (7683, [98, 775], false, false), (7684, [66, 803], false, false), (7685, [98, 803], false, false), (7686, [66, 817], false, false),
  (7687, [98, 817], false, false), (7688, [199, 769], false, false), (7689, [231, 769], false, false), (7690, [68, 775], false, false), (7691, [100, 775], false, false), (7840, [65, 803], false, false),
  (7841, [97, 803], false, false), (7842, [65, 777], false, false), (7843, [97, 777], false, false), (7844, [194, 769], false, false), (7845, [226, 769], false, false), (7846, [194, 768], false, false),
  (7847, [226, 768], false, false), (8192, [8194], false, false), (8193, [8195], false, false), (8194, [32], true, false), (8195, [32], true, false), (8196, [32], true, false),
  (8197, [32], true, false), (8198, [32], true, false), (8199, [32], true, false), (8200, [32], true, false), (8201, [32], true, false), (8202, [32], true, false),
  (8209, [8208], true, false), (8228, [46], true, false), (8229, [46, 46], true, false), (8230, [46, 46, 46], true, false), (8239, [32], true, false), (8287, [32], true, false),
  (8304, [48], true, false), (8308, [52], true, false), (8309, [53], true, false), (8310, [54], true, false), (8311, [55], true, false), (8312, [56], true, false),
  (8313, [57], true, false), (8448, [97, 47, 99], true, false), (8449, [97, 47, 115], true, false), (8486, [937], false, false), (8490, [75], false, false), (8491, [65, 778], false, true),
  (8544, [73], true, false), (8545, [73, 73], true, false), (8546, [73, 73, 73], true, false), (8547, [73, 86], true, false), (8560, [105], true, false), (8561, [105, 105], true, false),
  (8562, [105, 105, 105], true, false), (8563, [105, 118], true, false), (8800, [61, 824], false, false), (9312, [49], true, false), (9313, [50], true, false), (9314, [51], true, false),
  (12288, [32], true, false), (12364, [12363, 12441], false, false), (12366, [12365, 12441], false, false), (12368, [12367, 12441], false, false), (12370, [12369, 12441], false, false), (12372, [12371, 12441], false, false),
  (12374, [12373, 12441], false, false), (12376, [12375, 12441], false, false), (12378, [12377, 12441], false, false), (12380, [12379, 12441], false, false), (12382, [12381, 12441], false, false), (12384, [12383, 12441], false, false),
  (12386, [12385, 12441], false, false), (12389, [12388, 12441], false, false), (12391, [12390, 12441], false, false), (12393, [12392, 12441], false, false), (12400, [12399, 12441], false, false), (12401, [12399, 12442], false, false),
  (12403, [12402, 12441], false, false), (12404, [12402, 12442], false, false), (12406, [12405, 12441], false, false), (12407, [12405, 12442], false, false), (12409, [12408, 12441], false, false), (12410, [12408, 12442], false, false),
  (12412, [12411, 12441], false, false), (12413, [12411, 12442], false, false), (12436, [12358, 12441], false, false), (12460, [12459, 12441], false, false), (12462, [12461, 12441], false, false), (12464, [12463, 12441], false, false),
  (12466, [12465, 12441], false, false), (12468, [12467, 12441], false, false), (12470, [12469, 12441], false, false), (12472, [12471, 12441], false, false), (12474, [12473, 12441], false, false), (12476, [12475, 12441], false, false),
  (12478, [12477, 12441], false, false), (12480, [12479, 12441], false, false), (12482, [12481, 12441], false, false), (12485, [12484, 12441], false, false), (12487, [12486, 12441], false, false), (12489, [12488, 12441], false, false),
  (12496, [12495, 12441], false, false), (12497, [12495, 12442], false, false), (12499, [12498, 12441], false, false), (12500, [12498, 12442], false, false), (12502, [12501, 12441], false, false), (12503, [12501, 12442], false, false),
  (12505, [12504, 12441], false, false), (12506, [12504, 12442], false, false), (12508, [12507, 12441], false, false), (12509, [12507, 12442], false, false), (12532, [12454, 12441], false, false), (12535, [12527, 12441], false, false),
  (12536, [12528, 12441], false, false), (12537, [12529, 12441], false, false), (12538, [12530, 12441], false, false), (64256, [102, 102], true, false), (64257, [102, 105], true, false), (64258, [102, 108], true, false),
  (64259, [102, 102, 105], true, false), (64260, [102, 102, 108], true, false), (64285, [1497, 1460], false, true), (64298, [1513, 1473], false, true), (64299, [1513, 1474], false, true), (65281, [33], true, false),
  (65282, [34], true, false), (65283, [35], true, false), (65284, [36], true, false), (65285, [37], true, false), (65286, [38], true, false), (65287, [39], true, false),
  (65288, [40], true, false), (65289, [41], true, false), (65290, [42], true, false), (65291, [43], true, false), (65292, [44], true, false), (65293, [45], true, false),
  (65294, [46], true, false), (65295, [47], true, false), (65296, [48], true, false), (65297, [49], true, false), (65298, [50], true, false), (65299, [51], true, false),
  (65300, [52], true, false), (65301, [53], true, false), (65302, [54], true, false), (65303, [55], true, false), (65304, [56], true, false), (65305, [57], true, false),
  (65306, [58], true, false), (65307, [59], true, false), (65308, [60], true, false), (65309, [61], true, false), (65310, [62], true, false), (65311, [63], true, false),
  (65312, [64], true, false), (65313, [65], true, false), (65314, [66], true, false), (65315, [67], true, false), (65316, [68], true, false), (65317, [69], true, false),
  (65318, [70], true, false), (65319, [71], true, false), (65320, [72], true, false), (65321, [73], true, false), (65322, [74], true, false), (65323, [75], true, false),
  (65324, [76], true, false), (65325, [77], true, false), (65326, [78], true, false), (65327, [79], true, false), (65328, [80], true, false), (65329, [81], true, false),
  (65330, [82], true, false), (65331, [83], true, false), (65332, [84], true, false), (65333, [85], true, false), (65334, [86], true, false), (65335, [87], true, false),
  (65336, [88], true, false), (65337, [89], true, false), (65338, [90], true, false), (65339, [91], true, false), (65340, [92], true, false), (65341, [93], true, false),
  (65342, [94], true, false), (65343, [95], true, false), (65344, [96], true, false), (65345, [97], true, false), (65346, [98], true, false), (65347, [99], true, false),
  (65348, [100], true, false), (65349, [101], true, false), (65350, [102], true, false), (65351, [103], true, false), (65352, [104], true, false), (65353, [105], true, false),
  (65354, [106], true, false), (65355, [107], true, false), (65356, [108], true, false), (65357, [109], true, false), (65358, [110], true, false), (65359, [111], true, false),
  (65360, [112], true, false), (65361, [113], true, false), (65362, [114], true, false), (65363, [115], true, false), (65364, [116], true, false), (65365, [117], true, false),
  (65366, [118], true, false), (65367, [119], true, false), (65368, [120], true, false), (65369, [121], true, false), (65370, [122], true, false), (65371, [123], true, false),
  (65372, [124], true, false), (65373, [125], true, false), (65374, [126], true, false), (65393, [12450], true, false), (65394, [12452], true, false), (65395, [12454], true, false),
  (65396, [12456], true, false), (65397, [12458], true, false), (65398, [12459], true, false), (65399, [12461], true, false), (65400, [12463], true, false), (65401, [12465], true, false),
  (65402, [12467], true, false), (65403, [12469], true, false), (65404, [12471], true, false), (65405, [12473], true, false), (65406, [12475], true, false), (65407, [12477], true, false),
  (65408, [12479], true, false), (65409, [12481], true, false), (65410, [12484], true, false), (65411, [12486], true, false), (65412, [12488], true, false), (65413, [12490], true, false),
  (65414, [12491], true, false), (65415, [12492], true, false), (65416, [12493], true, false), (65417, [12494], true, false), (65418, [12495], true, false), (65438, [12441], true, false),
  (65439, [12442], true, false), (119134, [119127, 119141], false, true)]
theorem szD : decT.size = 7824 := by kernel_rfl
theorem decP_is : readP oneDecompP (fun e => e.1) (linesOf decT) none 0 = .inl decL := by kernel_rfl
theorem decR_is : readR oneDecomp (linesOf decT) [] 0 = .inl decL := readR_of oneDecompP_eq decP_is

def okFull (D : List Dc) (c : Bool) (p : Int) : Bool := match fullS D c 64 p with
  | some l => decide (l.length ≤ 3)
  | none => false
theorem facts : (decL.all fun d => (okFull decL true d.1 && okFull decL false d.1)) = true := by kernel_rfl
theorem riseB : (List.zipWith (fun (a b : Dc) => decide (a.1 < b.1)) decL decL.tail).all (fun x => x) = true := by kernel_rfl
end Go.Pc
