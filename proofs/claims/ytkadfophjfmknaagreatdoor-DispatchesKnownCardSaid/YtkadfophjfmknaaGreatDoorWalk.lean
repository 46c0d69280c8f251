/-
  The tables of functions are good: each entry speaks of its function; under the two facts on package-level variables that are stated.
-/
import Derived.Test.YtkadfophjfmknaaGreatDoorTabs
import Derived.Test.YtkadfophjfmknaaGreatDoorGoods
import Derived.Clock
import Derived.Stop.LaidErr
set_option linter.unusedVariables false
set_option linter.unusedSimpArgs false
namespace Go.Proofs.YtkadfophjfmknaaGreatDoor
open Go Go.Abs
set_option maxRecDepth 100000
set_option maxHeartbeats 0
theorem tab0_ok {ν : Nu} (h0 : TabCell Tryz.prog ν "strings.asciiSpace" .u8 Lib.asciiSpaceTab) (h3 : IntCell ν 3) (hP : TabCell Tryz.prog ν "internal/strconv.uint64pow10" .u64 Lib.pow10Tab) : TblOk Tryz.prog ν tab0 := by
  unfold tab0
  refine TblOk.set ?_ (f := 8) (by omega) (good8 hP)
  refine TblOk.set ?_ (f := 257) (by omega) good257
  refine TblOk.set ?_ (f := 24) (by omega) good24
  refine TblOk.set ?_ (f := 299) (by omega) good299
  refine TblOk.set ?_ (f := 195) (by omega) good195
  refine TblOk.set ?_ (f := 311) (by omega) good311
  refine TblOk.set ?_ (f := 23) (by omega) (good23 h0)
  refine TblOk.set ?_ (f := 596) (by omega) good596
  refine TblOk.set ?_ (f := 43) (by omega) good43
  refine TblOk.set ?_ (f := 92) (by omega) good92
  refine TblOk.set ?_ (f := 216) (by omega) good216
  refine TblOk.set ?_ (f := 25) (by omega) (good25 h3)
  refine TblOk.set ?_ (f := 107) (by omega) (good107 h3)
  refine TblOk.set ?_ (f := 56) (by omega) (good56 h3)
  exact TblOk.empty
theorem fnsW_ok : FnsOkZ Tryz.prog fnsW := ⟨Tryz.func462, trivial⟩
theorem fnsL_ok : FnsOkZ Tryz.prog fnsL := ⟨Tryz.func7, Tryz.func9, Tryz.func11, Tryz.func12, Tryz.func13, Tryz.func14, Tryz.func15, Tryz.func16, Tryz.func17, Tryz.func18, Tryz.func19, Tryz.func22, Tryz.func26, Tryz.func27, Tryz.func28, Tryz.func29, Tryz.func30, Tryz.func31, Tryz.func32, Tryz.func33, Tryz.func34, Tryz.func35, Tryz.func36, Tryz.func37, Tryz.func38, Tryz.func39, Tryz.func40, Tryz.func41, Tryz.func42, Tryz.func44, Tryz.func49, Tryz.func51, Tryz.func52, Tryz.func53, Tryz.func57, Tryz.func58, Tryz.func59, Tryz.func60, Tryz.func61, Tryz.func62, Tryz.func63, Tryz.func64, Tryz.func65, Tryz.func66, Tryz.func67, Tryz.func68, Tryz.func69, Tryz.func70, Tryz.func71, Tryz.func72, Tryz.func73, Tryz.func74, Tryz.func75, Tryz.func76, Tryz.func77, Tryz.func78, Tryz.func79, Tryz.func80, Tryz.func83, Tryz.func84, Tryz.func85, Tryz.func87, Tryz.func88, Tryz.func89, Tryz.func93, Tryz.func103, Tryz.func105, Tryz.func108, Tryz.func109, Tryz.func110, Tryz.func111, Tryz.func112, Tryz.func113, Tryz.func114, Tryz.func115, Tryz.func116, Tryz.func117, Tryz.func118, Tryz.func119, Tryz.func120, Tryz.func123, Tryz.func124, Tryz.func127, Tryz.func128, Tryz.func129, Tryz.func130, Tryz.func132, Tryz.func134, Tryz.func136, Tryz.func139, Tryz.func140, Tryz.func141, Tryz.func142, Tryz.func146, Tryz.func148, Tryz.func149, Tryz.func150, Tryz.func151, Tryz.func152, Tryz.func153, Tryz.func154, Tryz.func155, Tryz.func156, Tryz.func157, Tryz.func158, Tryz.func161, Tryz.func164, Tryz.func166, Tryz.func167, Tryz.func168, Tryz.func171, Tryz.func172, Tryz.func174, Tryz.func176, Tryz.func177, Tryz.func178, Tryz.func179, Tryz.func193, Tryz.func197, Tryz.func199, Tryz.func201, Tryz.func202, Tryz.func203, Tryz.func204, Tryz.func205, Tryz.func206, Tryz.func207, Tryz.func210, Tryz.func211, Tryz.func212, Tryz.func213, Tryz.func214, Tryz.func215, Tryz.func217, Tryz.func218, Tryz.func219, Tryz.func220, Tryz.func222, Tryz.func223, Tryz.func224, Tryz.func225, Tryz.func227, Tryz.func228, Tryz.func229, Tryz.func230, Tryz.func231, Tryz.func232, Tryz.func237, Tryz.func238, Tryz.func240, Tryz.func241, Tryz.func245, Tryz.func246, Tryz.func247, Tryz.func248, Tryz.func249, Tryz.func250, Tryz.func251, Tryz.func252, Tryz.func253, Tryz.func254, Tryz.func255, Tryz.func256, Tryz.func258, Tryz.func259, Tryz.func261, Tryz.func264, Tryz.func270, Tryz.func271, Tryz.func272, Tryz.func273, Tryz.func274, Tryz.func275, Tryz.func276, Tryz.func279, Tryz.func280, Tryz.func282, Tryz.func283, Tryz.func284, Tryz.func289, Tryz.func290, Tryz.func303, Tryz.func304, Tryz.func305, Tryz.func306, Tryz.func307, Tryz.func308, Tryz.func309, Tryz.func310, Tryz.func312, Tryz.func313, Tryz.func314, Tryz.func315, Tryz.func317, Tryz.func318, Tryz.func319, Tryz.func320, Tryz.func321, Tryz.func322, Tryz.func326, Tryz.func327, Tryz.func328, Tryz.func329, Tryz.func330, Tryz.func331, Tryz.func332, Tryz.func333, Tryz.func334, Tryz.func335, Tryz.func336, Tryz.func337, Tryz.func338, Tryz.func339, Tryz.func340, Tryz.func341, Tryz.func343, Tryz.func344, Tryz.func348, Tryz.func349, Tryz.func350, Tryz.func351, Tryz.func352, Tryz.func354, Tryz.func377, Tryz.func378, Tryz.func379, Tryz.func381, Tryz.func382, Tryz.func383, Tryz.func384, Tryz.func385, Tryz.func392, Tryz.func394, Tryz.func396, Tryz.func397, Tryz.func398, Tryz.func399, Tryz.func400, Tryz.func402, Tryz.func407, Tryz.func408, Tryz.func413, Tryz.func415, Tryz.func416, Tryz.func417, Tryz.func418, Tryz.func421, Tryz.func423, Tryz.func424, Tryz.func430, Tryz.func433, Tryz.func434, Tryz.func435, Tryz.func436, Tryz.func438, Tryz.func439, Tryz.func440, Tryz.func441, Tryz.func444, Tryz.func445, Tryz.func447, Tryz.func448, Tryz.func449, Tryz.func450, Tryz.func451, Tryz.func457, Tryz.func458, Tryz.func459, Tryz.func460, Tryz.func461, Tryz.func463, Tryz.func464, Tryz.func465, Tryz.func466, Tryz.func467, Tryz.func469, Tryz.func472, Tryz.func474, Tryz.func475, Tryz.func476, Tryz.func477, Tryz.func478, Tryz.func479, Tryz.func480, Tryz.func481, Tryz.func490, Tryz.func491, Tryz.func492, Tryz.func498, Tryz.func501, Tryz.func502, Tryz.func503, Tryz.func509, Tryz.func511, Tryz.func520, Tryz.func525, Tryz.func526, Tryz.func528, Tryz.func529, Tryz.func533, Tryz.func534, Tryz.func535, Tryz.func537, Tryz.func561, Tryz.func563, Tryz.func564, Tryz.func565, Tryz.func566, Tryz.func567, Tryz.func568, Tryz.func569, Tryz.func570, Tryz.func571, Tryz.func574, Tryz.func575, Tryz.func579, Tryz.func580, Tryz.func581, Tryz.func582, Tryz.func586, Tryz.func587, Tryz.func588, Tryz.func589, Tryz.func590, Tryz.func591, Tryz.func592, Tryz.func593, Tryz.func594, Tryz.func595, Tryz.func597, Tryz.func598, Tryz.func600, Tryz.func603, Tryz.func607, Tryz.func628, Tryz.func635, Tryz.func636, Tryz.func641, Tryz.func652, Tryz.func674, Tryz.func676, Tryz.func677, Tryz.func678, Tryz.func679, Tryz.func680, Tryz.func685, Tryz.func686, Tryz.func688, Tryz.func690, Tryz.func691, Tryz.func693, Tryz.func696, Tryz.func697, Tryz.func720, Tryz.func731, Tryz.func732, Tryz.func734, Tryz.func737, Tryz.func738, Tryz.func739, Tryz.func741, Tryz.func742, Tryz.func744, Tryz.func747, Tryz.func748, Tryz.func763, Tryz.func764, Tryz.func765, Tryz.func768, Tryz.func769, Tryz.func776, Tryz.func777, Tryz.func784, Tryz.func785, Tryz.func787, trivial⟩
theorem fnsA_ok : FnsOkZ Tryz.prog fnsA := ⟨Tryz.func34, Tryz.func40, Tryz.func41, Tryz.func42, Tryz.func44, Tryz.func51, Tryz.func53, Tryz.func93, Tryz.func94, Tryz.func95, Tryz.func103, Tryz.func105, Tryz.func111, Tryz.func112, Tryz.func116, Tryz.func117, Tryz.func119, Tryz.func130, Tryz.func134, Tryz.func153, Tryz.func157, Tryz.func158, Tryz.func161, Tryz.func164, Tryz.func167, Tryz.func176, Tryz.func181, Tryz.func182, Tryz.func183, Tryz.func193, Tryz.func197, Tryz.func212, Tryz.func213, Tryz.func214, Tryz.func215, Tryz.func217, Tryz.func218, Tryz.func219, Tryz.func220, Tryz.func228, Tryz.func229, Tryz.func230, Tryz.func231, Tryz.func232, Tryz.func238, Tryz.func254, Tryz.func255, Tryz.func256, Tryz.func258, Tryz.func259, Tryz.func261, Tryz.func262, Tryz.func263, Tryz.func264, Tryz.func268, Tryz.func269, Tryz.func273, Tryz.func274, Tryz.func279, Tryz.func280, Tryz.func282, Tryz.func283, Tryz.func284, Tryz.func304, Tryz.func309, Tryz.func310, Tryz.func312, Tryz.func313, Tryz.func314, Tryz.func315, Tryz.func317, Tryz.func318, Tryz.func319, Tryz.func320, Tryz.func321, Tryz.func322, Tryz.func337, Tryz.func343, Tryz.func344, Tryz.func348, Tryz.func349, Tryz.func350, Tryz.func351, Tryz.func352, Tryz.func354, Tryz.func378, Tryz.func379, Tryz.func384, Tryz.func385, Tryz.func387, Tryz.func394, Tryz.func396, Tryz.func397, Tryz.func398, Tryz.func399, Tryz.func400, Tryz.func401, Tryz.func402, Tryz.func406, Tryz.func407, Tryz.func408, Tryz.func411, Tryz.func412, Tryz.func413, Tryz.func415, Tryz.func416, Tryz.func417, Tryz.func418, Tryz.func421, Tryz.func423, Tryz.func424, Tryz.func430, Tryz.func431, Tryz.func432, Tryz.func436, Tryz.func438, Tryz.func440, Tryz.func445, Tryz.func447, Tryz.func448, Tryz.func449, Tryz.func450, Tryz.func451, Tryz.func457, Tryz.func459, Tryz.func463, Tryz.func464, Tryz.func466, Tryz.func467, Tryz.func469, Tryz.func472, Tryz.func474, Tryz.func475, Tryz.func481, Tryz.func490, Tryz.func491, Tryz.func492, Tryz.func498, Tryz.func502, Tryz.func503, Tryz.func504, Tryz.func509, Tryz.func511, Tryz.func515, Tryz.func517, Tryz.func520, Tryz.func525, Tryz.func526, Tryz.func528, Tryz.func529, Tryz.func533, Tryz.func534, Tryz.func535, Tryz.func537, Tryz.func561, Tryz.func567, Tryz.func568, Tryz.func569, Tryz.func570, Tryz.func579, Tryz.func580, Tryz.func582, Tryz.func586, Tryz.func587, Tryz.func588, Tryz.func589, Tryz.func590, Tryz.func591, Tryz.func592, Tryz.func593, Tryz.func594, Tryz.func595, Tryz.func597, Tryz.func598, Tryz.func603, Tryz.func628, Tryz.func635, Tryz.func636, Tryz.func641, Tryz.func652, Tryz.func674, Tryz.func676, Tryz.func690, Tryz.func691, Tryz.func693, Tryz.func696, Tryz.func697, Tryz.func720, Tryz.func731, Tryz.func732, Tryz.func744, Tryz.func747, Tryz.func748, Tryz.func768, Tryz.func769, Tryz.func776, Tryz.func777, Tryz.func784, Tryz.func785, Tryz.func787, trivial⟩
theorem fnsD_ok : FnsOkZ Tryz.prog fnsD := ⟨Tryz.func22, trivial⟩
theorem fnsB_ok : FnsOkZ Tryz.prog fnsB := ⟨Tryz.func26, Tryz.func40, Tryz.func42, Tryz.func51, Tryz.func53, Tryz.func57, Tryz.func58, Tryz.func59, Tryz.func60, Tryz.func61, Tryz.func62, Tryz.func63, Tryz.func64, Tryz.func65, Tryz.func103, Tryz.func105, Tryz.func108, Tryz.func109, Tryz.func110, Tryz.func111, Tryz.func112, Tryz.func113, Tryz.func114, Tryz.func115, Tryz.func116, Tryz.func117, Tryz.func118, Tryz.func119, Tryz.func120, Tryz.func123, Tryz.func124, Tryz.func127, Tryz.func128, Tryz.func129, Tryz.func130, Tryz.func132, Tryz.func134, Tryz.func157, Tryz.func158, Tryz.func193, Tryz.func197, Tryz.func199, Tryz.func201, Tryz.func202, Tryz.func203, Tryz.func204, Tryz.func205, Tryz.func206, Tryz.func207, Tryz.func210, Tryz.func211, Tryz.func212, Tryz.func213, Tryz.func214, Tryz.func215, Tryz.func217, Tryz.func218, Tryz.func219, Tryz.func220, Tryz.func255, Tryz.func256, Tryz.func258, Tryz.func259, Tryz.func303, Tryz.func304, Tryz.func305, Tryz.func306, Tryz.func307, Tryz.func308, Tryz.func309, Tryz.func310, Tryz.func312, Tryz.func313, Tryz.func314, Tryz.func315, Tryz.func317, Tryz.func318, Tryz.func319, Tryz.func320, Tryz.func321, Tryz.func322, Tryz.func394, Tryz.func397, Tryz.func398, Tryz.func399, Tryz.func400, Tryz.func457, Tryz.func458, Tryz.func459, Tryz.func460, Tryz.func461, Tryz.func463, Tryz.func464, Tryz.func466, Tryz.func467, Tryz.func469, Tryz.func472, Tryz.func474, Tryz.func475, Tryz.func509, Tryz.func511, Tryz.func595, Tryz.func597, Tryz.func598, Tryz.func693, trivial⟩
theorem fnsO_ok : FnsOkZ Tryz.prog fnsO := ⟨Tryz.func5, Tryz.func10, Tryz.func11, Tryz.func12, Tryz.func13, Tryz.func14, Tryz.func15, Tryz.func16, Tryz.func20, Tryz.func21, Tryz.func27, Tryz.func28, Tryz.func29, Tryz.func30, Tryz.func31, Tryz.func32, Tryz.func33, Tryz.func34, Tryz.func35, Tryz.func36, Tryz.func37, Tryz.func38, Tryz.func39, Tryz.func40, Tryz.func41, Tryz.func42, Tryz.func44, Tryz.func45, Tryz.func46, Tryz.func51, Tryz.func53, Tryz.func66, Tryz.func67, Tryz.func68, Tryz.func69, Tryz.func70, Tryz.func71, Tryz.func72, Tryz.func73, Tryz.func74, Tryz.func75, Tryz.func76, Tryz.func77, Tryz.func78, Tryz.func79, Tryz.func80, Tryz.func82, Tryz.func83, Tryz.func84, Tryz.func85, Tryz.func87, Tryz.func88, Tryz.func89, Tryz.func90, Tryz.func91, Tryz.func93, Tryz.func94, Tryz.func95, Tryz.func97, Tryz.func98, Tryz.func99, Tryz.func100, Tryz.func101, Tryz.func103, Tryz.func105, Tryz.func111, Tryz.func112, Tryz.func116, Tryz.func117, Tryz.func119, Tryz.func130, Tryz.func134, Tryz.func136, Tryz.func138, Tryz.func139, Tryz.func140, Tryz.func141, Tryz.func142, Tryz.func146, Tryz.func148, Tryz.func149, Tryz.func150, Tryz.func151, Tryz.func152, Tryz.func153, Tryz.func154, Tryz.func155, Tryz.func156, Tryz.func157, Tryz.func158, Tryz.func161, Tryz.func162, Tryz.func163, Tryz.func164, Tryz.func165, Tryz.func166, Tryz.func167, Tryz.func168, Tryz.func171, Tryz.func172, Tryz.func174, Tryz.func175, Tryz.func176, Tryz.func177, Tryz.func178, Tryz.func179, Tryz.func181, Tryz.func182, Tryz.func183, Tryz.func186, Tryz.func187, Tryz.func188, Tryz.func189, Tryz.func193, Tryz.func197, Tryz.func212, Tryz.func213, Tryz.func214, Tryz.func215, Tryz.func217, Tryz.func218, Tryz.func219, Tryz.func220, Tryz.func222, Tryz.func223, Tryz.func224, Tryz.func225, Tryz.func226, Tryz.func227, Tryz.func228, Tryz.func229, Tryz.func230, Tryz.func231, Tryz.func232, Tryz.func237, Tryz.func238, Tryz.func240, Tryz.func241, Tryz.func242, Tryz.func243, Tryz.func245, Tryz.func246, Tryz.func247, Tryz.func248, Tryz.func249, Tryz.func250, Tryz.func251, Tryz.func252, Tryz.func253, Tryz.func254, Tryz.func255, Tryz.func256, Tryz.func258, Tryz.func259, Tryz.func261, Tryz.func262, Tryz.func263, Tryz.func264, Tryz.func268, Tryz.func269, Tryz.func270, Tryz.func271, Tryz.func272, Tryz.func273, Tryz.func274, Tryz.func275, Tryz.func276, Tryz.func279, Tryz.func280, Tryz.func282, Tryz.func283, Tryz.func284, Tryz.func287, Tryz.func289, Tryz.func290, Tryz.func293, Tryz.func294, Tryz.func295, Tryz.func296, Tryz.func297, Tryz.func298, Tryz.func304, Tryz.func309, Tryz.func310, Tryz.func312, Tryz.func313, Tryz.func314, Tryz.func315, Tryz.func317, Tryz.func318, Tryz.func319, Tryz.func320, Tryz.func321, Tryz.func322, Tryz.func326, Tryz.func327, Tryz.func328, Tryz.func329, Tryz.func330, Tryz.func331, Tryz.func332, Tryz.func333, Tryz.func334, Tryz.func335, Tryz.func336, Tryz.func337, Tryz.func338, Tryz.func339, Tryz.func340, Tryz.func341, Tryz.func343, Tryz.func344, Tryz.func348, Tryz.func349, Tryz.func350, Tryz.func351, Tryz.func352, Tryz.func354, Tryz.func377, Tryz.func378, Tryz.func379, Tryz.func381, Tryz.func382, Tryz.func383, Tryz.func384, Tryz.func385, Tryz.func387, Tryz.func392, Tryz.func394, Tryz.func396, Tryz.func397, Tryz.func398, Tryz.func399, Tryz.func400, Tryz.func401, Tryz.func402, Tryz.func406, Tryz.func407, Tryz.func408, Tryz.func411, Tryz.func412, Tryz.func413, Tryz.func415, Tryz.func416, Tryz.func417, Tryz.func418, Tryz.func421, Tryz.func423, Tryz.func424, Tryz.func430, Tryz.func431, Tryz.func432, Tryz.func433, Tryz.func434, Tryz.func435, Tryz.func436, Tryz.func438, Tryz.func439, Tryz.func440, Tryz.func441, Tryz.func444, Tryz.func445, Tryz.func447, Tryz.func448, Tryz.func449, Tryz.func450, Tryz.func451, Tryz.func456, Tryz.func457, Tryz.func459, Tryz.func463, Tryz.func464, Tryz.func466, Tryz.func467, Tryz.func469, Tryz.func472, Tryz.func474, Tryz.func475, Tryz.func476, Tryz.func477, Tryz.func478, Tryz.func479, Tryz.func480, Tryz.func481, Tryz.func490, Tryz.func491, Tryz.func492, Tryz.func498, Tryz.func501, Tryz.func502, Tryz.func503, Tryz.func504, Tryz.func509, Tryz.func511, Tryz.func515, Tryz.func517, Tryz.func520, Tryz.func525, Tryz.func526, Tryz.func528, Tryz.func529, Tryz.func533, Tryz.func534, Tryz.func535, Tryz.func537, Tryz.func561, Tryz.func563, Tryz.func564, Tryz.func565, Tryz.func566, Tryz.func567, Tryz.func568, Tryz.func569, Tryz.func570, Tryz.func571, Tryz.func574, Tryz.func575, Tryz.func579, Tryz.func580, Tryz.func581, Tryz.func582, Tryz.func586, Tryz.func587, Tryz.func588, Tryz.func589, Tryz.func590, Tryz.func591, Tryz.func592, Tryz.func593, Tryz.func594, Tryz.func595, Tryz.func597, Tryz.func598, Tryz.func600, Tryz.func603, Tryz.func607, Tryz.func628, Tryz.func635, Tryz.func636, Tryz.func641, Tryz.func652, Tryz.func674, Tryz.func676, Tryz.func677, Tryz.func678, Tryz.func679, Tryz.func680, Tryz.func685, Tryz.func686, Tryz.func688, Tryz.func690, Tryz.func691, Tryz.func693, Tryz.func696, Tryz.func697, Tryz.func720, Tryz.func731, Tryz.func732, Tryz.func734, Tryz.func737, Tryz.func738, Tryz.func739, Tryz.func741, Tryz.func742, Tryz.func744, Tryz.func747, Tryz.func748, Tryz.func763, Tryz.func764, Tryz.func765, Tryz.func768, Tryz.func769, Tryz.func776, Tryz.func777, Tryz.func784, Tryz.func785, Tryz.func787, Tryz.func803, trivial⟩
theorem fnsU_ok : FnsOkZ Tryz.prog fnsU := ⟨Tryz.func9, Tryz.func11, Tryz.func12, Tryz.func13, Tryz.func27, Tryz.func28, Tryz.func29, Tryz.func30, Tryz.func34, Tryz.func40, Tryz.func42, Tryz.func44, Tryz.func51, Tryz.func53, Tryz.func66, Tryz.func67, Tryz.func68, Tryz.func69, Tryz.func70, Tryz.func71, Tryz.func72, Tryz.func73, Tryz.func93, Tryz.func94, Tryz.func95, Tryz.func103, Tryz.func105, Tryz.func111, Tryz.func112, Tryz.func116, Tryz.func117, Tryz.func119, Tryz.func130, Tryz.func134, Tryz.func136, Tryz.func138, Tryz.func139, Tryz.func140, Tryz.func141, Tryz.func142, Tryz.func146, Tryz.func148, Tryz.func149, Tryz.func150, Tryz.func153, Tryz.func157, Tryz.func158, Tryz.func166, Tryz.func176, Tryz.func179, Tryz.func181, Tryz.func182, Tryz.func183, Tryz.func193, Tryz.func197, Tryz.func212, Tryz.func213, Tryz.func214, Tryz.func215, Tryz.func217, Tryz.func218, Tryz.func219, Tryz.func220, Tryz.func222, Tryz.func223, Tryz.func224, Tryz.func225, Tryz.func226, Tryz.func227, Tryz.func228, Tryz.func229, Tryz.func230, Tryz.func231, Tryz.func232, Tryz.func237, Tryz.func238, Tryz.func240, Tryz.func241, Tryz.func242, Tryz.func243, Tryz.func245, Tryz.func246, Tryz.func247, Tryz.func254, Tryz.func255, Tryz.func256, Tryz.func258, Tryz.func259, Tryz.func270, Tryz.func271, Tryz.func272, Tryz.func273, Tryz.func280, Tryz.func284, Tryz.func289, Tryz.func290, Tryz.func304, Tryz.func309, Tryz.func310, Tryz.func312, Tryz.func313, Tryz.func314, Tryz.func315, Tryz.func317, Tryz.func318, Tryz.func319, Tryz.func320, Tryz.func321, Tryz.func322, Tryz.func326, Tryz.func327, Tryz.func328, Tryz.func329, Tryz.func330, Tryz.func331, Tryz.func332, Tryz.func333, Tryz.func334, Tryz.func335, Tryz.func336, Tryz.func337, Tryz.func338, Tryz.func339, Tryz.func340, Tryz.func341, Tryz.func343, Tryz.func344, Tryz.func348, Tryz.func349, Tryz.func350, Tryz.func351, Tryz.func352, Tryz.func354, Tryz.func377, Tryz.func378, Tryz.func379, Tryz.func381, Tryz.func382, Tryz.func383, Tryz.func384, Tryz.func385, Tryz.func387, Tryz.func394, Tryz.func396, Tryz.func397, Tryz.func398, Tryz.func399, Tryz.func400, Tryz.func406, Tryz.func433, Tryz.func434, Tryz.func440, Tryz.func448, Tryz.func449, Tryz.func450, Tryz.func457, Tryz.func459, Tryz.func463, Tryz.func464, Tryz.func466, Tryz.func467, Tryz.func469, Tryz.func472, Tryz.func474, Tryz.func475, Tryz.func476, Tryz.func477, Tryz.func478, Tryz.func479, Tryz.func480, Tryz.func481, Tryz.func490, Tryz.func491, Tryz.func492, Tryz.func498, Tryz.func501, Tryz.func502, Tryz.func503, Tryz.func504, Tryz.func509, Tryz.func511, Tryz.func515, Tryz.func517, Tryz.func563, Tryz.func564, Tryz.func565, Tryz.func569, Tryz.func570, Tryz.func586, Tryz.func587, Tryz.func588, Tryz.func589, Tryz.func590, Tryz.func591, Tryz.func592, Tryz.func593, Tryz.func594, Tryz.func595, Tryz.func597, Tryz.func598, Tryz.func600, Tryz.func603, Tryz.func607, Tryz.func628, Tryz.func636, Tryz.func677, Tryz.func678, Tryz.func679, Tryz.func680, Tryz.func690, Tryz.func691, Tryz.func693, Tryz.func696, Tryz.func697, Tryz.func734, Tryz.func737, Tryz.func738, Tryz.func739, Tryz.func741, Tryz.func742, Tryz.func744, Tryz.func747, Tryz.func748, Tryz.func763, Tryz.func764, Tryz.func765, Tryz.func768, Tryz.func769, Tryz.func776, Tryz.func777, Tryz.func784, Tryz.func785, Tryz.func787, trivial⟩
theorem fnsE_ok : FnsOkZ Tryz.prog fnsE := ⟨Tryz.func6, Tryz.func14, Tryz.func15, Tryz.func16, Tryz.func17, Tryz.func18, Tryz.func30, Tryz.func31, Tryz.func32, Tryz.func33, Tryz.func34, Tryz.func35, Tryz.func36, Tryz.func37, Tryz.func38, Tryz.func39, Tryz.func40, Tryz.func41, Tryz.func42, Tryz.func44, Tryz.func51, Tryz.func53, Tryz.func69, Tryz.func72, Tryz.func73, Tryz.func74, Tryz.func75, Tryz.func76, Tryz.func77, Tryz.func78, Tryz.func79, Tryz.func80, Tryz.func82, Tryz.func83, Tryz.func84, Tryz.func85, Tryz.func87, Tryz.func88, Tryz.func89, Tryz.func90, Tryz.func91, Tryz.func93, Tryz.func94, Tryz.func95, Tryz.func103, Tryz.func105, Tryz.func111, Tryz.func112, Tryz.func116, Tryz.func117, Tryz.func119, Tryz.func130, Tryz.func134, Tryz.func138, Tryz.func139, Tryz.func140, Tryz.func148, Tryz.func149, Tryz.func150, Tryz.func151, Tryz.func152, Tryz.func153, Tryz.func154, Tryz.func155, Tryz.func156, Tryz.func157, Tryz.func158, Tryz.func161, Tryz.func162, Tryz.func163, Tryz.func164, Tryz.func165, Tryz.func166, Tryz.func167, Tryz.func168, Tryz.func171, Tryz.func172, Tryz.func174, Tryz.func175, Tryz.func176, Tryz.func177, Tryz.func178, Tryz.func179, Tryz.func181, Tryz.func182, Tryz.func183, Tryz.func193, Tryz.func197, Tryz.func212, Tryz.func213, Tryz.func214, Tryz.func215, Tryz.func217, Tryz.func218, Tryz.func219, Tryz.func220, Tryz.func222, Tryz.func223, Tryz.func224, Tryz.func228, Tryz.func229, Tryz.func230, Tryz.func231, Tryz.func232, Tryz.func238, Tryz.func246, Tryz.func247, Tryz.func248, Tryz.func249, Tryz.func250, Tryz.func251, Tryz.func252, Tryz.func253, Tryz.func254, Tryz.func255, Tryz.func256, Tryz.func258, Tryz.func259, Tryz.func261, Tryz.func262, Tryz.func263, Tryz.func264, Tryz.func268, Tryz.func269, Tryz.func270, Tryz.func271, Tryz.func272, Tryz.func273, Tryz.func274, Tryz.func275, Tryz.func276, Tryz.func279, Tryz.func280, Tryz.func282, Tryz.func283, Tryz.func284, Tryz.func287, Tryz.func289, Tryz.func290, Tryz.func304, Tryz.func309, Tryz.func310, Tryz.func312, Tryz.func313, Tryz.func314, Tryz.func315, Tryz.func317, Tryz.func318, Tryz.func319, Tryz.func320, Tryz.func321, Tryz.func322, Tryz.func326, Tryz.func327, Tryz.func328, Tryz.func329, Tryz.func330, Tryz.func331, Tryz.func332, Tryz.func333, Tryz.func334, Tryz.func335, Tryz.func337, Tryz.func343, Tryz.func344, Tryz.func348, Tryz.func349, Tryz.func350, Tryz.func351, Tryz.func352, Tryz.func354, Tryz.func378, Tryz.func379, Tryz.func381, Tryz.func384, Tryz.func385, Tryz.func387, Tryz.func392, Tryz.func394, Tryz.func396, Tryz.func397, Tryz.func398, Tryz.func399, Tryz.func400, Tryz.func401, Tryz.func402, Tryz.func406, Tryz.func407, Tryz.func408, Tryz.func411, Tryz.func412, Tryz.func413, Tryz.func415, Tryz.func416, Tryz.func417, Tryz.func418, Tryz.func421, Tryz.func423, Tryz.func424, Tryz.func430, Tryz.func431, Tryz.func432, Tryz.func433, Tryz.func434, Tryz.func435, Tryz.func436, Tryz.func438, Tryz.func439, Tryz.func440, Tryz.func441, Tryz.func444, Tryz.func445, Tryz.func447, Tryz.func448, Tryz.func449, Tryz.func450, Tryz.func451, Tryz.func457, Tryz.func459, Tryz.func463, Tryz.func464, Tryz.func466, Tryz.func467, Tryz.func469, Tryz.func472, Tryz.func474, Tryz.func475, Tryz.func476, Tryz.func477, Tryz.func478, Tryz.func479, Tryz.func481, Tryz.func490, Tryz.func491, Tryz.func492, Tryz.func498, Tryz.func501, Tryz.func502, Tryz.func503, Tryz.func504, Tryz.func509, Tryz.func511, Tryz.func515, Tryz.func517, Tryz.func520, Tryz.func525, Tryz.func526, Tryz.func528, Tryz.func529, Tryz.func533, Tryz.func534, Tryz.func535, Tryz.func537, Tryz.func561, Tryz.func563, Tryz.func564, Tryz.func565, Tryz.func566, Tryz.func567, Tryz.func568, Tryz.func569, Tryz.func570, Tryz.func571, Tryz.func574, Tryz.func575, Tryz.func579, Tryz.func580, Tryz.func581, Tryz.func582, Tryz.func586, Tryz.func587, Tryz.func588, Tryz.func589, Tryz.func590, Tryz.func591, Tryz.func592, Tryz.func593, Tryz.func594, Tryz.func595, Tryz.func597, Tryz.func598, Tryz.func600, Tryz.func603, Tryz.func607, Tryz.func628, Tryz.func635, Tryz.func636, Tryz.func641, Tryz.func652, Tryz.func674, Tryz.func676, Tryz.func677, Tryz.func678, Tryz.func679, Tryz.func680, Tryz.func685, Tryz.func686, Tryz.func688, Tryz.func690, Tryz.func691, Tryz.func693, Tryz.func696, Tryz.func697, Tryz.func720, Tryz.func731, Tryz.func732, Tryz.func734, Tryz.func737, Tryz.func738, Tryz.func739, Tryz.func741, Tryz.func742, Tryz.func744, Tryz.func747, Tryz.func748, Tryz.func763, Tryz.func764, Tryz.func765, Tryz.func768, Tryz.func769, Tryz.func776, Tryz.func777, Tryz.func784, Tryz.func785, Tryz.func787, trivial⟩
theorem fnsM_ok : FnsOkZ Tryz.prog fnsM := ⟨Tryz.func15, Tryz.func33, Tryz.func34, Tryz.func35, Tryz.func40, Tryz.func42, Tryz.func51, Tryz.func53, Tryz.func76, Tryz.func77, Tryz.func78, Tryz.func79, Tryz.func80, Tryz.func103, Tryz.func105, Tryz.func116, Tryz.func117, Tryz.func151, Tryz.func152, Tryz.func153, Tryz.func154, Tryz.func155, Tryz.func156, Tryz.func157, Tryz.func158, Tryz.func193, Tryz.func197, Tryz.func212, Tryz.func213, Tryz.func214, Tryz.func215, Tryz.func217, Tryz.func248, Tryz.func249, Tryz.func250, Tryz.func251, Tryz.func252, Tryz.func253, Tryz.func254, Tryz.func255, Tryz.func256, Tryz.func258, Tryz.func259, Tryz.func309, Tryz.func310, Tryz.func312, Tryz.func313, Tryz.func314, Tryz.func315, Tryz.func317, Tryz.func318, Tryz.func319, Tryz.func320, Tryz.func321, Tryz.func322, Tryz.func392, Tryz.func394, Tryz.func396, Tryz.func397, Tryz.func398, Tryz.func399, Tryz.func400, Tryz.func457, Tryz.func459, Tryz.func463, Tryz.func464, Tryz.func466, Tryz.func467, Tryz.func469, Tryz.func472, Tryz.func474, Tryz.func475, Tryz.func509, Tryz.func511, Tryz.func595, Tryz.func597, Tryz.func598, Tryz.func693, trivial⟩
theorem fnsS_ok : FnsOkZ Tryz.prog fnsS := ⟨Tryz.func38, trivial⟩
theorem fnsG_ok : FnsOkZ Tryz.prog fnsG := ⟨Tryz.func179, Tryz.func238, Tryz.func289, Tryz.func290, Tryz.func378, Tryz.func498, trivial⟩
theorem fnsT_ok : FnsOkZ Tryz.prog fnsT := ⟨Tryz.func34, Tryz.func40, Tryz.func41, Tryz.func42, Tryz.func44, Tryz.func51, Tryz.func53, Tryz.func84, Tryz.func93, Tryz.func94, Tryz.func95, Tryz.func103, Tryz.func105, Tryz.func111, Tryz.func112, Tryz.func116, Tryz.func117, Tryz.func119, Tryz.func130, Tryz.func134, Tryz.func153, Tryz.func157, Tryz.func158, Tryz.func166, Tryz.func167, Tryz.func168, Tryz.func171, Tryz.func181, Tryz.func182, Tryz.func183, Tryz.func193, Tryz.func197, Tryz.func212, Tryz.func213, Tryz.func214, Tryz.func215, Tryz.func217, Tryz.func218, Tryz.func219, Tryz.func220, Tryz.func228, Tryz.func229, Tryz.func231, Tryz.func254, Tryz.func255, Tryz.func256, Tryz.func258, Tryz.func259, Tryz.func270, Tryz.func271, Tryz.func272, Tryz.func273, Tryz.func274, Tryz.func275, Tryz.func276, Tryz.func280, Tryz.func282, Tryz.func283, Tryz.func304, Tryz.func309, Tryz.func310, Tryz.func312, Tryz.func313, Tryz.func314, Tryz.func315, Tryz.func317, Tryz.func318, Tryz.func319, Tryz.func320, Tryz.func321, Tryz.func322, Tryz.func343, Tryz.func344, Tryz.func348, Tryz.func349, Tryz.func350, Tryz.func351, Tryz.func352, Tryz.func354, Tryz.func378, Tryz.func394, Tryz.func396, Tryz.func397, Tryz.func398, Tryz.func399, Tryz.func400, Tryz.func407, Tryz.func421, Tryz.func424, Tryz.func430, Tryz.func433, Tryz.func434, Tryz.func435, Tryz.func436, Tryz.func438, Tryz.func439, Tryz.func440, Tryz.func441, Tryz.func444, Tryz.func445, Tryz.func448, Tryz.func449, Tryz.func450, Tryz.func451, Tryz.func457, Tryz.func459, Tryz.func463, Tryz.func464, Tryz.func466, Tryz.func467, Tryz.func469, Tryz.func472, Tryz.func474, Tryz.func475, Tryz.func490, Tryz.func491, Tryz.func492, Tryz.func498, Tryz.func509, Tryz.func511, Tryz.func534, Tryz.func535, Tryz.func561, Tryz.func563, Tryz.func564, Tryz.func565, Tryz.func566, Tryz.func567, Tryz.func568, Tryz.func569, Tryz.func570, Tryz.func571, Tryz.func574, Tryz.func575, Tryz.func579, Tryz.func580, Tryz.func581, Tryz.func582, Tryz.func586, Tryz.func587, Tryz.func590, Tryz.func591, Tryz.func592, Tryz.func593, Tryz.func594, Tryz.func595, Tryz.func597, Tryz.func598, Tryz.func603, Tryz.func628, Tryz.func636, Tryz.func641, Tryz.func652, Tryz.func674, Tryz.func676, Tryz.func677, Tryz.func678, Tryz.func679, Tryz.func680, Tryz.func685, Tryz.func686, Tryz.func688, Tryz.func690, Tryz.func691, Tryz.func693, Tryz.func696, Tryz.func697, Tryz.func720, Tryz.func731, Tryz.func732, Tryz.func734, Tryz.func737, Tryz.func738, Tryz.func739, Tryz.func741, Tryz.func742, Tryz.func744, Tryz.func747, Tryz.func748, Tryz.func763, Tryz.func764, Tryz.func765, Tryz.func768, Tryz.func769, Tryz.func776, Tryz.func777, Tryz.func784, Tryz.func785, Tryz.func787, trivial⟩
theorem fnsC_ok : FnsOkZ Tryz.prog fnsC := ⟨Tryz.func4, Tryz.func9, Tryz.func10, Tryz.func11, Tryz.func12, Tryz.func13, Tryz.func14, Tryz.func16, Tryz.func20, Tryz.func21, Tryz.func27, Tryz.func28, Tryz.func29, Tryz.func30, Tryz.func31, Tryz.func32, Tryz.func34, Tryz.func35, Tryz.func36, Tryz.func37, Tryz.func39, Tryz.func40, Tryz.func41, Tryz.func42, Tryz.func44, Tryz.func45, Tryz.func46, Tryz.func51, Tryz.func53, Tryz.func66, Tryz.func67, Tryz.func68, Tryz.func69, Tryz.func70, Tryz.func71, Tryz.func72, Tryz.func73, Tryz.func74, Tryz.func75, Tryz.func82, Tryz.func83, Tryz.func85, Tryz.func87, Tryz.func88, Tryz.func89, Tryz.func90, Tryz.func93, Tryz.func94, Tryz.func95, Tryz.func97, Tryz.func98, Tryz.func99, Tryz.func100, Tryz.func101, Tryz.func103, Tryz.func111, Tryz.func112, Tryz.func116, Tryz.func117, Tryz.func119, Tryz.func130, Tryz.func134, Tryz.func136, Tryz.func139, Tryz.func140, Tryz.func141, Tryz.func142, Tryz.func146, Tryz.func148, Tryz.func149, Tryz.func150, Tryz.func153, Tryz.func157, Tryz.func158, Tryz.func161, Tryz.func163, Tryz.func164, Tryz.func166, Tryz.func172, Tryz.func174, Tryz.func175, Tryz.func176, Tryz.func177, Tryz.func178, Tryz.func181, Tryz.func182, Tryz.func183, Tryz.func186, Tryz.func187, Tryz.func188, Tryz.func189, Tryz.func193, Tryz.func197, Tryz.func212, Tryz.func213, Tryz.func214, Tryz.func217, Tryz.func218, Tryz.func219, Tryz.func220, Tryz.func222, Tryz.func223, Tryz.func224, Tryz.func225, Tryz.func226, Tryz.func227, Tryz.func228, Tryz.func229, Tryz.func230, Tryz.func231, Tryz.func232, Tryz.func237, Tryz.func238, Tryz.func240, Tryz.func241, Tryz.func242, Tryz.func243, Tryz.func245, Tryz.func246, Tryz.func247, Tryz.func254, Tryz.func255, Tryz.func258, Tryz.func259, Tryz.func261, Tryz.func262, Tryz.func268, Tryz.func269, Tryz.func270, Tryz.func271, Tryz.func272, Tryz.func273, Tryz.func274, Tryz.func279, Tryz.func280, Tryz.func282, Tryz.func284, Tryz.func287, Tryz.func293, Tryz.func294, Tryz.func295, Tryz.func296, Tryz.func297, Tryz.func298, Tryz.func304, Tryz.func309, Tryz.func310, Tryz.func312, Tryz.func313, Tryz.func314, Tryz.func315, Tryz.func317, Tryz.func326, Tryz.func327, Tryz.func328, Tryz.func329, Tryz.func330, Tryz.func331, Tryz.func332, Tryz.func333, Tryz.func334, Tryz.func335, Tryz.func336, Tryz.func337, Tryz.func338, Tryz.func339, Tryz.func340, Tryz.func341, Tryz.func343, Tryz.func344, Tryz.func348, Tryz.func349, Tryz.func350, Tryz.func351, Tryz.func352, Tryz.func354, Tryz.func377, Tryz.func378, Tryz.func379, Tryz.func381, Tryz.func382, Tryz.func383, Tryz.func384, Tryz.func385, Tryz.func387, Tryz.func396, Tryz.func397, Tryz.func398, Tryz.func399, Tryz.func400, Tryz.func406, Tryz.func407, Tryz.func408, Tryz.func421, Tryz.func423, Tryz.func424, Tryz.func430, Tryz.func431, Tryz.func432, Tryz.func433, Tryz.func434, Tryz.func445, Tryz.func447, Tryz.func448, Tryz.func449, Tryz.func450, Tryz.func457, Tryz.func459, Tryz.func463, Tryz.func464, Tryz.func466, Tryz.func467, Tryz.func469, Tryz.func476, Tryz.func477, Tryz.func478, Tryz.func479, Tryz.func480, Tryz.func481, Tryz.func490, Tryz.func491, Tryz.func492, Tryz.func498, Tryz.func501, Tryz.func502, Tryz.func503, Tryz.func504, Tryz.func511, Tryz.func515, Tryz.func517, Tryz.func529, Tryz.func533, Tryz.func534, Tryz.func535, Tryz.func537, Tryz.func561, Tryz.func563, Tryz.func564, Tryz.func565, Tryz.func579, Tryz.func580, Tryz.func582, Tryz.func586, Tryz.func587, Tryz.func588, Tryz.func589, Tryz.func590, Tryz.func591, Tryz.func592, Tryz.func593, Tryz.func594, Tryz.func597, Tryz.func598, Tryz.func600, Tryz.func603, Tryz.func607, Tryz.func628, Tryz.func636, Tryz.func641, Tryz.func674, Tryz.func676, Tryz.func677, Tryz.func678, Tryz.func679, Tryz.func680, Tryz.func690, Tryz.func691, Tryz.func696, Tryz.func697, Tryz.func731, Tryz.func732, Tryz.func734, Tryz.func737, Tryz.func738, Tryz.func739, Tryz.func741, Tryz.func742, Tryz.func744, Tryz.func747, Tryz.func748, Tryz.func763, Tryz.func764, Tryz.func765, Tryz.func768, Tryz.func769, Tryz.func776, Tryz.func777, Tryz.func784, Tryz.func785, Tryz.func787, trivial⟩
theorem fnsR_ok : FnsOkZ Tryz.prog fnsR := ⟨Tryz.func3, trivial⟩
theorem noNG : NoNG Tryz.prog := by
  have h : (Tryz.prog.funcs.toList.all fun fn => !(fn.name == "runtime.NumGoroutine")) = true := by kernel_rfl
  intro f fn hf
  rw [List.all_eq_true] at h
  have hm : fn ∈ Tryz.prog.funcs.toList := Array.mem_toList_iff.2 (Array.mem_of_getElem? hf)
  simpa using h fn hm
theorem failD_good {ν : Nu} {f : Nat} : FnGood Tryz.prog ν f failD := by
  intro cf _ args h kr kp hk
  cases hk
end Go.Proofs.YtkadfophjfmknaaGreatDoor
namespace Go.Proofs.YtkadfophjfmknaaGreatDoor
open Go Go.Abs
set_option maxRecDepth 100000
set_option maxHeartbeats 0
open Go.RowKit (Below)
theorem rem_ok (t : TypeId) (w : World) (x c : Int) (hx : 0 ≤ x) (hx2 : x ≤ 255) (hc : 0 < c) (hc2 : c ≤ 255) : (binOp .rem t (.int .u8 x) (.int .u8 c)).run Tryz.prog w = .ok (.int .u8 (x % c)) w := by
  have h1 : ¬ (c = 0) := by omega
  simp [binOp, Op.intDiv, h1, Int.tmod_eq_emod_of_nonneg hx]
theorem quo_ok (t : TypeId) (w : World) (x c : Int) (hx : 0 ≤ x) (hx2 : x ≤ 255) (hc : 0 < c) (hc2 : c ≤ 255) : (binOp .quo t (.int .u8 x) (.int .u8 c)).run Tryz.prog w = .ok (.int .u8 (x / c)) w := by
  have h1 : ¬ (c = 0) := by omega
  have h2 : 0 ≤ x / c := Int.ediv_nonneg hx (by omega)
  have h3 : x / c ≤ x := Int.ediv_le_self c hx
  have h4 : IntKind.u8.wrap (x / c) = x / c := Go.Abs.wrap_small IntKind.u8 _ (by simp [loK]; omega) (by simp [hiK]; omega)
  simp [binOp, Op.intDiv, h1, Int.tdiv_eq_ediv_of_nonneg hx, h4]
theorem sym_nil {ν : Nu} : SymOk Tryz.prog ν [] := fun q hq => by cases hq

/-! ### what the world holds -/
theorem shaped_at {W : World} (h : W.ShapedOpen Tryz.prog) (g : Nat) (t : TypeId) (hg : g < Tryz.prog.globals.size) (h0 : (((begin Tryz.prog (fun _ _ => 0) default).world.heap[g]?).bind Obj.row?).map (·.2) = some t) :
    ∃ cs, W.heap[g]? = some (.cells cs t) := by
  obtain ⟨⟨zero, t'⟩, hz, rfl⟩ := Option.map_eq_some_iff.1 h0
  obtain ⟨cs, hc, _⟩ := h.1 g zero t' hg hz
  exact ⟨cs, hc⟩
theorem obj_of {W : World} {name : String} {g : Nat} {k : IntKind} {zs : List Int} {cs : Array Value} {t : TypeId} {fr : Nat × Nat} (hn : Tryz.prog.globalNamed name = some g) (hh : W.heap[g]? = some (.cells cs t fr)) (hT : Lib.TabIs Tryz.prog W name k zs) :
    cs = (zs.map fun z => Value.int k z).toArray := by
  unfold Lib.TabIs World.var? at hT
  rw [hn] at hT
  simpa [hh] using hT
/-- the blocks that the run reads -/
structure Facts (W : World) : Prop where
  gA : ∃ fr, W.heap[0]? = some (.cells (Lib.asciiSpaceTab.map fun z => Value.int .u8 z).toArray 151 fr)
  gM : ∃ m fr, W.heap[3]? = some (.cells #[.int .i64 m] 3 fr)
  t0 : ∃ fr, W.heap[8]? = some ((⟨8, [36, 43, 45], 658⟩ : Gl).obj fr)
  t1 : ∃ fr, W.heap[10]? = some ((⟨10, [63, 15, 63, 15, 61, 61], 792⟩ : Gl).obj fr)
  gP : ∃ fr, W.heap[2]? = some (.cells (Lib.pow10Tab.map fun z => Value.int .u64 z).toArray 327 fr)
theorem namedP : Tryz.prog.globalNamed "internal/strconv.uint64pow10" = some 2 := by kernel_rfl
theorem named0 : Tryz.prog.globalNamed "strings.asciiSpace" = some 0 := by kernel_rfl
theorem globsW : Tryz.prog.globals.size = 15 := by kernel_rfl
theorem nu_of {W : World} (hF : Facts W) (X : List (Nat × Obj)) (hX : ∀ b o, (b, o) ∈ X → W.heap[b]? = some o) : ∃ G : List (Nat × Obj), (∀ b o, (b, o) ∈ G → W.heap[b]? = some o) ∧ (∀ f V, TabCell Tryz.prog ⟨f, G, V⟩ "strings.asciiSpace" .u8 Lib.asciiSpaceTab) ∧ (∀ f V, IntCell ⟨f, G, V⟩ 3) ∧
    (∀ q ∈ gls, ∃ fr, (q.g, q.obj fr) ∈ G) ∧ ∀ q ∈ X, q ∈ G := by
  obtain ⟨⟨f0, h0⟩, ⟨m, f3, h3⟩, ⟨e0, k0⟩, ⟨e1, k1⟩, _⟩ := hF
  refine ⟨(0, Obj.cells (Lib.asciiSpaceTab.map fun z => Value.int .u8 z).toArray 151 f0) :: (3, Obj.cells #[.int .i64 m] 3 f3) :: (8, (⟨8, [36, 43, 45], 658⟩ : Gl).obj e0) :: (10, (⟨10, [63, 15, 63, 15, 61, 61], 792⟩ : Gl).obj e1) :: X, fun b o hb => ?_, fun f _ => ⟨0, 151, f0, named0, ?_⟩, fun f _ => ⟨m, 3, f3, ?_⟩, fun q hq => ?_, fun q hq => List.mem_cons_of_mem _ (List.mem_cons_of_mem _ (List.mem_cons_of_mem _ (List.mem_cons_of_mem _ hq)))⟩
  rotate_left
  · exact List.mem_cons_self
  · exact List.mem_cons_of_mem _ List.mem_cons_self
  · simp only [gls, List.mem_cons, List.mem_nil_iff, or_false] at hq
    rcases hq with rfl | rfl
    · exact ⟨e0, List.mem_cons_of_mem _ (List.mem_cons_of_mem _ (List.mem_cons_self))⟩
    · exact ⟨e1, List.mem_cons_of_mem _ (List.mem_cons_of_mem _ (List.mem_cons_of_mem _ (List.mem_cons_self)))⟩
  · simp only [List.mem_cons, Prod.mk.injEq] at hb
    rcases hb with ⟨rfl, rfl⟩ | ⟨rfl, rfl⟩ | ⟨rfl, rfl⟩ | ⟨rfl, rfl⟩ | hb
    · exact h0
    · exact h3
    · exact k0
    · exact k1
    · exact hX b o hb
theorem hs_HR {ν : Nu} (hG : ∀ q ∈ gls, ∃ fr, (q.g, q.obj fr) ∈ ν.G) {w : World} (hw : ∀ b o, (b, o) ∈ ν.G → w.heap[b]? = some o) : HR (phiOf gls) ν hs w := by
  refine h0_HR (by decide) ?_ ?_ ?_ ?_ hG hw
  · intro q hq; simp only [gls, List.mem_cons, List.mem_nil_iff, or_false] at hq; rcases hq with rfl | rfl <;> decide
  · intro q hq; simp only [gls, List.mem_cons, List.mem_nil_iff, or_false] at hq; rcases hq with rfl | rfl <;> decide
  · decide +kernel
  · intro g hg
    unfold gver at hg
    cases hb0 : Nat.beq g 8 with
    | true =>
      have e := Nat.eq_of_beq_eq_true hb0
      subst e
      exact ⟨⟨8, [36, 43, 45], 658⟩, by simp [gls], rfl, rfl⟩
    | false =>
      first | rw [hb0, cond_false] at hg | rw [cond_false] at hg
      cases hb1 : Nat.beq g 10 with
      | true =>
        have e := Nat.eq_of_beq_eq_true hb1
        subst e
        exact ⟨⟨10, [63, 15, 63, 15, 61, 61], 792⟩, by simp [gls], rfl, rfl⟩
      | false =>
        first | rw [hb1, cond_false] at hg | rw [cond_false] at hg
        exact absurd hg (Nat.lt_irrefl 0)
theorem phi_lim : ∀ id ver p, phiOf gls id ver = some p → id < hs.ro.lim := by
  intro id ver p h
  obtain ⟨q, hq, h1, _, _⟩ := phiOf_some h
  simp only [gls, List.mem_cons, List.mem_nil_iff, or_false] at hq
  show id < 16
  rw [← h1]
  rcases hq with rfl | rfl <;> decide
theorem phi_in {ν : Nu} (hG : ∀ q ∈ gls, ∃ fr, (q.g, q.obj fr) ∈ ν.G) : ∀ id ver p, phiOf gls id ver = some p → ∃ o, (p.blk, o) ∈ ν.G := by
  intro id ver p h
  obtain ⟨q, hq, h1, h2, rfl⟩ := phiOf_some h
  obtain ⟨fr, hm⟩ := hG q hq
  exact ⟨_, hm⟩

theorem memoAll_mem {t : T4 FnD TD} {f : Nat} {ms : List Memo2} (h : memoAll t f ms = true) : ∀ m ∈ ms, runF t 60 f m.args (m.h0 gls 16) (memoK0 m) (fun _ _ => false) = true := by
  induction ms with
  | nil => intro m hm; cases hm
  | cons a l ih =>
    have h' : andB (runF t 60 f a.args (a.h0 gls 16) (memoK0 a) (fun _ _ => false)) (memoAll t f l) = true := h
    obtain ⟨h1, h2⟩ := andB_true h'
    intro m hm
    rcases List.mem_cons.1 hm with rfl | hm
    · exact h1
    · exact ih h2 m hm

/-! ### the runs, put to use -/
/-- what the kernel ran, but for the cases -/
structure Stages : Prop where
  words : runW = true
  s2_true : run2_true = true
  s3_doa0 : run3_doa0 = true
  s3_dom0 : run3_dom0 = true
  s3_doa1 : run3_doa1 = true
  s3_dom1 : run3_dom1 = true
  s3_doa2 : run3_doa2 = true
  s3_dom2 : run3_dom2 = true
  s3_doa3 : run3_doa3 = true
  s3_dom3 : run3_dom3 = true
  s3_doa4 : run3_doa4 = true
  s3_dom4 : run3_dom4 = true
  s4_dat : run4_dat = true
  s5_lay : run5_lay = true
  s6_g0 : run6_g0 = true
  s6_g1 : run6_g1 = true
  s6_g2 : run6_g2 = true
  s6_g3 : run6_g3 = true
  s6_g4 : run6_g4 = true
  s6_g5 : run6_g5 = true
  s6_g6 : run6_g6 = true
  s6_g7 : run6_g7 = true
  s6_g8 : run6_g8 = true
  s6_g9 : run6_g9 = true
  s6_g10 : run6_g10 = true
  s6_g11 : run6_g11 = true
  s6_g12 : run6_g12 = true
  s6_g13 : run6_g13 = true
  s6_g14 : run6_g14 = true
  s6_g15 : run6_g15 = true
  s6_g16 : run6_g16 = true
  s6_g17 : run6_g17 = true
  s6_g18 : run6_g18 = true
  s6_g19 : run6_g19 = true
  s6_g20 : run6_g20 = true
  s6_g21 : run6_g21 = true
  s6_g22 : run6_g22 = true
  s6_g23 : run6_g23 = true
  s6_g24 : run6_g24 = true
  s6_g25 : run6_g25 = true
  s6_g26 : run6_g26 = true
  s6_g27 : run6_g27 = true
  s6_g28 : run6_g28 = true
  s6_g29 : run6_g29 = true
  s6_g30 : run6_g30 = true
  s6_g31 : run6_g31 = true
  s6_g32 : run6_g32 = true
  s6_g33 : run6_g33 = true
  s6_g34 : run6_g34 = true
  s6_g35 : run6_g35 = true
  s6_g36 : run6_g36 = true
  s6_g37 : run6_g37 = true
  s6_g38 : run6_g38 = true
  s6_g39 : run6_g39 = true
  s7_unE : run7_unE = true
  s8_g0 : run8_g0 = true
  s8_g1 : run8_g1 = true
  s8_g2 : run8_g2 = true
  s8_g3 : run8_g3 = true
  s8_g4 : run8_g4 = true
  s8_g5 : run8_g5 = true
  s8_g6 : run8_g6 = true
  s8_g7 : run8_g7 = true
  s8_g8 : run8_g8 = true
  s8_g9 : run8_g9 = true
  s9_mac : run9_mac = true
  s9_mac2 : run9_mac2 = true
  s10_g0 : run10_g0 = true
  s11_g0 : run11_g0 = true
  s12_g0 : run12_g0 = true
  s12_g1 : run12_g1 = true
  s13_g0 : run13_g0 = true
  s14_g0 : run14_g0 = true
  s14_g1 : run14_g1 = true
  s14_g2 : run14_g2 = true
  s14_g3 : run14_g3 = true
  s14_g4 : run14_g4 = true
  s14_g5 : run14_g5 = true
  s14_g6 : run14_g6 = true
  s14_g7 : run14_g7 = true
  s14_g8 : run14_g8 = true
  s14_g9 : run14_g9 = true
  s14_g10 : run14_g10 = true
  s14_g11 : run14_g11 = true
  s14_g12 : run14_g12 = true
  s14_g13 : run14_g13 = true
  s14_g14 : run14_g14 = true
  s14_g15 : run14_g15 = true
  s14_g16 : run14_g16 = true
  s14_g17 : run14_g17 = true
  s14_g18 : run14_g18 = true
  s14_g19 : run14_g19 = true
  s14_g20 : run14_g20 = true
  s14_g21 : run14_g21 = true
  s14_g22 : run14_g22 = true
  s14_g23 : run14_g23 = true
  s14_g24 : run14_g24 = true
  s14_g25 : run14_g25 = true
  s14_g26 : run14_g26 = true
  s14_g27 : run14_g27 = true
  s14_g28 : run14_g28 = true
  s14_g29 : run14_g29 = true
  s14_g30 : run14_g30 = true
  s14_g31 : run14_g31 = true
  s14_g32 : run14_g32 = true
  s14_g33 : run14_g33 = true
  s14_g34 : run14_g34 = true
  s14_g35 : run14_g35 = true
  s14_g36 : run14_g36 = true
  s14_g37 : run14_g37 = true
  s14_g38 : run14_g38 = true
  s14_g39 : run14_g39 = true
theorem tab1_ok {ν : Nu} (ht : TblOk Tryz.prog ν tab0) (h3 : IntCell ν 3) (hG : ∀ q ∈ gls, ∃ fr, (q.g, q.obj fr) ∈ ν.G) (R : Stages) : TblOk Tryz.prog ν tab1 := by
  obtain ⟨t', ht', h⟩ := mkTblZ_true noNG sym_nil (splitOk h3) fnsW_ok ht R.words
  unfold tab1
  exact ht.set (f := 462) (by omega) (FnGood.closed_map ht' h (fun w hw => hs_HR hG hw) phi_lim)
theorem tab2_ok {ν : Nu} (ht : TblOk Tryz.prog ν tab1) (h3 : IntCell ν 3) (hG : ∀ q ∈ gls, ∃ fr, (q.g, q.obj fr) ∈ ν.G) (R : Stages) : TblOk Tryz.prog ν tab2 := by
  obtain ⟨t', ht', h⟩ := mkTblZ_true noNG sym_nil (splitOk h3) fnsL_ok ht R.s2_true
  unfold tab2
  exact ht.set (f := 7) (by omega) (FnGood.closed_true ht' h (fun w hw => hs_HR hG hw) phi_lim)
theorem doChain_ok {ν : Nu} (ht : ∀ V, TblOk Tryz.prog ⟨ν.f, ν.G, V⟩ tab2) (h3 : IntCell ν 3) (hG : ∀ q ∈ gls, ∃ fr, (q.g, q.obj fr) ∈ ν.G) (R : Stages) {d : FnD} (hd : FnGood Tryz.prog ν 161 d) : FnGood Tryz.prog ν 161 (doChain d) := by
  have h3' : ∀ V, IntCell ⟨ν.f, ν.G, V⟩ 3 := fun _ => h3
  have u0 : ∀ V, ∃ t : T4 FnD TD, TblOk Tryz.prog ⟨ν.f, ν.G, V⟩ t ∧ runF t 60 161 doa0.args (doa0.h0 gls 16) (memoKW doa0 16) (fun _ _ => false) = true := fun V => mkTblZ_true noNG sym_nil (splitOk (h3' V)) fnsA_ok (ht V) R.s3_doa0
  have u1 : ∀ V, ∃ t : T4 FnD TD, TblOk Tryz.prog ⟨ν.f, ν.G, V⟩ t ∧ runF t 60 161 dom0.args (dom0.h0 gls 16) (memoKW dom0 16) (fun _ _ => false) = true := fun V => mkTblZ_true noNG sym_nil (splitOk (h3' V)) fnsA_ok (ht V) R.s3_dom0
  have u2 : ∀ V, ∃ t : T4 FnD TD, TblOk Tryz.prog ⟨ν.f, ν.G, V⟩ t ∧ runF t 60 161 doa1.args (doa1.h0 gls 16) (memoKW doa1 16) (fun _ _ => false) = true := fun V => mkTblZ_true noNG sym_nil (splitOk (h3' V)) fnsA_ok (ht V) R.s3_doa1
  have u3 : ∀ V, ∃ t : T4 FnD TD, TblOk Tryz.prog ⟨ν.f, ν.G, V⟩ t ∧ runF t 60 161 dom1.args (dom1.h0 gls 16) (memoKW dom1 16) (fun _ _ => false) = true := fun V => mkTblZ_true noNG sym_nil (splitOk (h3' V)) fnsA_ok (ht V) R.s3_dom1
  have u4 : ∀ V, ∃ t : T4 FnD TD, TblOk Tryz.prog ⟨ν.f, ν.G, V⟩ t ∧ runF t 60 161 doa2.args (doa2.h0 gls 16) (memoKW doa2 16) (fun _ _ => false) = true := fun V => mkTblZ_true noNG sym_nil (splitOk (h3' V)) fnsA_ok (ht V) R.s3_doa2
  have u5 : ∀ V, ∃ t : T4 FnD TD, TblOk Tryz.prog ⟨ν.f, ν.G, V⟩ t ∧ runF t 60 161 dom2.args (dom2.h0 gls 16) (memoKW dom2 16) (fun _ _ => false) = true := fun V => mkTblZ_true noNG sym_nil (splitOk (h3' V)) fnsA_ok (ht V) R.s3_dom2
  have u6 : ∀ V, ∃ t : T4 FnD TD, TblOk Tryz.prog ⟨ν.f, ν.G, V⟩ t ∧ runF t 60 161 doa3.args (doa3.h0 gls 16) (memoKW doa3 16) (fun _ _ => false) = true := fun V => mkTblZ_true noNG sym_nil (splitOk (h3' V)) fnsA_ok (ht V) R.s3_doa3
  have u7 : ∀ V, ∃ t : T4 FnD TD, TblOk Tryz.prog ⟨ν.f, ν.G, V⟩ t ∧ runF t 60 161 dom3.args (dom3.h0 gls 16) (memoKW dom3 16) (fun _ _ => false) = true := fun V => mkTblZ_true noNG sym_nil (splitOk (h3' V)) fnsA_ok (ht V) R.s3_dom3
  have u8 : ∀ V, ∃ t : T4 FnD TD, TblOk Tryz.prog ⟨ν.f, ν.G, V⟩ t ∧ runF t 60 161 doa4.args (doa4.h0 gls 16) (memoKW doa4 16) (fun _ _ => false) = true := fun V => mkTblZ_true noNG sym_nil (splitOk (h3' V)) fnsA_ok (ht V) R.s3_doa4
  have u9 : ∀ V, ∃ t : T4 FnD TD, TblOk Tryz.prog ⟨ν.f, ν.G, V⟩ t ∧ runF t 60 161 dom4.args (dom4.h0 gls 16) (memoKW dom4 16) (fun _ _ => false) = true := fun V => mkTblZ_true noNG sym_nil (splitOk (h3' V)) fnsA_ok (ht V) R.s3_dom4
  exact (FnGood.memoW doa0 u0 (fun V w hw => hs_HR (ν := ⟨ν.f, ν.G, V⟩) hG hw) (phi_in hG) (by decide +kernel) (by decide +kernel) (by decide +kernel) (FnGood.memoW dom0 u1 (fun V w hw => hs_HR (ν := ⟨ν.f, ν.G, V⟩) hG hw) (phi_in hG) (by decide +kernel) (by decide +kernel) (by decide +kernel) (FnGood.memoW doa1 u2 (fun V w hw => hs_HR (ν := ⟨ν.f, ν.G, V⟩) hG hw) (phi_in hG) (by decide +kernel) (by decide +kernel) (by decide +kernel) (FnGood.memoW dom1 u3 (fun V w hw => hs_HR (ν := ⟨ν.f, ν.G, V⟩) hG hw) (phi_in hG) (by decide +kernel) (by decide +kernel) (by decide +kernel) (FnGood.memoW doa2 u4 (fun V w hw => hs_HR (ν := ⟨ν.f, ν.G, V⟩) hG hw) (phi_in hG) (by decide +kernel) (by decide +kernel) (by decide +kernel) (FnGood.memoW dom2 u5 (fun V w hw => hs_HR (ν := ⟨ν.f, ν.G, V⟩) hG hw) (phi_in hG) (by decide +kernel) (by decide +kernel) (by decide +kernel) (FnGood.memoW doa3 u6 (fun V w hw => hs_HR (ν := ⟨ν.f, ν.G, V⟩) hG hw) (phi_in hG) (by decide +kernel) (by decide +kernel) (by decide +kernel) (FnGood.memoW dom3 u7 (fun V w hw => hs_HR (ν := ⟨ν.f, ν.G, V⟩) hG hw) (phi_in hG) (by decide +kernel) (by decide +kernel) (by decide +kernel) (FnGood.memoW doa4 u8 (fun V w hw => hs_HR (ν := ⟨ν.f, ν.G, V⟩) hG hw) (phi_in hG) (by decide +kernel) (by decide +kernel) (by decide +kernel) (FnGood.memoW dom4 u9 (fun V w hw => hs_HR (ν := ⟨ν.f, ν.G, V⟩) hG hw) (phi_in hG) (by decide +kernel) (by decide +kernel) (by decide +kernel) hd))))))))))
theorem withDo_true {ν : Nu} (hD : ∀ d, FnGood Tryz.prog ν 161 d → FnGood Tryz.prog ν 161 (doChain d)) {t : T4 FnD TD} {k : T4 FnD TD → Bool} (ht : TblOk Tryz.prog ν t) (h : withDo t k = true) : ∃ t', TblOk Tryz.prog ν t' ∧ k t' = true := by
  have h' : T4.getK TD 161 t (fun d => T4.setK TD 161 (doChain d) t k) = true := h
  obtain ⟨d, h1, h2⟩ := T4.getK_true _ _ _ _ h'
  rw [T4.setK_eq] at h2
  exact ⟨_, ht.set (f := 161) (by omega) (hD d (ht 161 d (show 161 < 4096 by omega) h1)), h2⟩
theorem tab3_ok {ν : Nu} (ht : TblOk Tryz.prog ν tab2) (h3 : IntCell ν 3) (hG : ∀ q ∈ gls, ∃ fr, (q.g, q.obj fr) ∈ ν.G) (R : Stages) : TblOk Tryz.prog ν tab3 := ht
theorem tab4_ok {ν : Nu} (ht : TblOk Tryz.prog ν tab3) (h3 : IntCell ν 3) (hG : ∀ q ∈ gls, ∃ fr, (q.g, q.obj fr) ∈ ν.G) (R : Stages) : TblOk Tryz.prog ν tab4 := by
  obtain ⟨u0, hu0, e0⟩ := mkTblZ_true noNG sym_nil (splitOk h3) fnsD_ok ht R.s4_dat
  unfold tab4
  exact ht.set (f := 22) (by omega) (FnGood.memo2 hu0 dat e0 (fun w hw => hs_HR hG hw) (phi_in hG) (by decide +kernel) (by decide +kernel) (by decide +kernel) failD_good)
theorem tab5_ok {ν : Nu} (ht : TblOk Tryz.prog ν tab4) (h3 : IntCell ν 3) (hG : ∀ q ∈ gls, ∃ fr, (q.g, q.obj fr) ∈ ν.G) (R : Stages) : TblOk Tryz.prog ν tab5 := by
  obtain ⟨u0, hu0, e0⟩ := mkTblZ_true noNG sym_nil (splitOk h3) fnsB_ok ht R.s5_lay
  unfold tab5
  exact ht.set (f := 26) (by omega) (FnGood.memo2 hu0 lay e0 (fun w hw => hs_HR hG hw) (phi_in hG) (by decide +kernel) (by decide +kernel) (by decide +kernel) failD_good)
theorem q6 {ν : Nu} (ht : TblOk Tryz.prog ν tab5) (h3 : IntCell ν 3) {m : Memo2} (R : rk0 fnsO tab5 5 m = true) : ∃ t, TblOk Tryz.prog ν t ∧ runF t 60 5 m.args (m.h0 gls 16) (memoK0 m) (fun _ _ => false) = true := mkTblZ_true noNG sym_nil (splitOk h3) fnsO_ok ht R
theorem c6 {ν : Nu} (hG : ∀ q ∈ gls, ∃ fr, (q.g, q.obj fr) ∈ ν.G) {t : T4 FnD TD} {m : Memo2} (hu : TblOk Tryz.prog ν t) (e : runF t 60 5 m.args (m.h0 gls 16) (memoK0 m) (fun _ _ => false) = true) (h : 16 + m.ins.length ≤ 1024) {d : FnD} (hd : FnGood Tryz.prog ν 5 d) : FnGood Tryz.prog ν 5 (memoD0 m 16 d) := FnGood.memo0 hu m e (fun w hw => hs_HR hG hw) (phi_in hG) h hd
theorem tab6_ok {ν : Nu} (ht : TblOk Tryz.prog ν tab5) (h3 : IntCell ν 3) (hG : ∀ q ∈ gls, ∃ fr, (q.g, q.obj fr) ∈ ν.G) (R : Stages) : TblOk Tryz.prog ν tab6 := by
  obtain ⟨u0, hu0, e0⟩ := q6 ht h3 R.s6_g0
  obtain ⟨u1, hu1, e1⟩ := q6 ht h3 R.s6_g1
  obtain ⟨u2, hu2, e2⟩ := q6 ht h3 R.s6_g2
  obtain ⟨u3, hu3, e3⟩ := q6 ht h3 R.s6_g3
  obtain ⟨u4, hu4, e4⟩ := q6 ht h3 R.s6_g4
  obtain ⟨u5, hu5, e5⟩ := q6 ht h3 R.s6_g5
  obtain ⟨u6, hu6, e6⟩ := q6 ht h3 R.s6_g6
  obtain ⟨u7, hu7, e7⟩ := q6 ht h3 R.s6_g7
  obtain ⟨u8, hu8, e8⟩ := q6 ht h3 R.s6_g8
  obtain ⟨u9, hu9, e9⟩ := q6 ht h3 R.s6_g9
  obtain ⟨u10, hu10, e10⟩ := q6 ht h3 R.s6_g10
  obtain ⟨u11, hu11, e11⟩ := q6 ht h3 R.s6_g11
  obtain ⟨u12, hu12, e12⟩ := q6 ht h3 R.s6_g12
  obtain ⟨u13, hu13, e13⟩ := q6 ht h3 R.s6_g13
  obtain ⟨u14, hu14, e14⟩ := q6 ht h3 R.s6_g14
  obtain ⟨u15, hu15, e15⟩ := q6 ht h3 R.s6_g15
  obtain ⟨u16, hu16, e16⟩ := q6 ht h3 R.s6_g16
  obtain ⟨u17, hu17, e17⟩ := q6 ht h3 R.s6_g17
  obtain ⟨u18, hu18, e18⟩ := q6 ht h3 R.s6_g18
  obtain ⟨u19, hu19, e19⟩ := q6 ht h3 R.s6_g19
  obtain ⟨u20, hu20, e20⟩ := q6 ht h3 R.s6_g20
  obtain ⟨u21, hu21, e21⟩ := q6 ht h3 R.s6_g21
  obtain ⟨u22, hu22, e22⟩ := q6 ht h3 R.s6_g22
  obtain ⟨u23, hu23, e23⟩ := q6 ht h3 R.s6_g23
  obtain ⟨u24, hu24, e24⟩ := q6 ht h3 R.s6_g24
  obtain ⟨u25, hu25, e25⟩ := q6 ht h3 R.s6_g25
  obtain ⟨u26, hu26, e26⟩ := q6 ht h3 R.s6_g26
  obtain ⟨u27, hu27, e27⟩ := q6 ht h3 R.s6_g27
  obtain ⟨u28, hu28, e28⟩ := q6 ht h3 R.s6_g28
  obtain ⟨u29, hu29, e29⟩ := q6 ht h3 R.s6_g29
  obtain ⟨u30, hu30, e30⟩ := q6 ht h3 R.s6_g30
  obtain ⟨u31, hu31, e31⟩ := q6 ht h3 R.s6_g31
  obtain ⟨u32, hu32, e32⟩ := q6 ht h3 R.s6_g32
  obtain ⟨u33, hu33, e33⟩ := q6 ht h3 R.s6_g33
  obtain ⟨u34, hu34, e34⟩ := q6 ht h3 R.s6_g34
  obtain ⟨u35, hu35, e35⟩ := q6 ht h3 R.s6_g35
  obtain ⟨u36, hu36, e36⟩ := q6 ht h3 R.s6_g36
  obtain ⟨u37, hu37, e37⟩ := q6 ht h3 R.s6_g37
  obtain ⟨u38, hu38, e38⟩ := q6 ht h3 R.s6_g38
  obtain ⟨u39, hu39, e39⟩ := q6 ht h3 R.s6_g39
  unfold tab6
  exact ht.set (f := 5) (by omega) (c6 hG hu0 e0 (by decide +kernel) (c6 hG hu1 e1 (by decide +kernel) (c6 hG hu2 e2 (by decide +kernel) (c6 hG hu3 e3 (by decide +kernel) (c6 hG hu4 e4 (by decide +kernel) (c6 hG hu5 e5 (by decide +kernel) (c6 hG hu6 e6 (by decide +kernel) (c6 hG hu7 e7 (by decide +kernel) (c6 hG hu8 e8 (by decide +kernel) (c6 hG hu9 e9 (by decide +kernel) (c6 hG hu10 e10 (by decide +kernel) (c6 hG hu11 e11 (by decide +kernel) (c6 hG hu12 e12 (by decide +kernel) (c6 hG hu13 e13 (by decide +kernel) (c6 hG hu14 e14 (by decide +kernel) (c6 hG hu15 e15 (by decide +kernel) (c6 hG hu16 e16 (by decide +kernel) (c6 hG hu17 e17 (by decide +kernel) (c6 hG hu18 e18 (by decide +kernel) (c6 hG hu19 e19 (by decide +kernel) (c6 hG hu20 e20 (by decide +kernel) (c6 hG hu21 e21 (by decide +kernel) (c6 hG hu22 e22 (by decide +kernel) (c6 hG hu23 e23 (by decide +kernel) (c6 hG hu24 e24 (by decide +kernel) (c6 hG hu25 e25 (by decide +kernel) (c6 hG hu26 e26 (by decide +kernel) (c6 hG hu27 e27 (by decide +kernel) (c6 hG hu28 e28 (by decide +kernel) (c6 hG hu29 e29 (by decide +kernel) (c6 hG hu30 e30 (by decide +kernel) (c6 hG hu31 e31 (by decide +kernel) (c6 hG hu32 e32 (by decide +kernel) (c6 hG hu33 e33 (by decide +kernel) (c6 hG hu34 e34 (by decide +kernel) (c6 hG hu35 e35 (by decide +kernel) (c6 hG hu36 e36 (by decide +kernel) (c6 hG hu37 e37 (by decide +kernel) (c6 hG hu38 e38 (by decide +kernel) (c6 hG hu39 e39 (by decide +kernel) failD_good))))))))))))))))))))))))))))))))))))))))
theorem tab7_ok {ν : Nu} (ht : TblOk Tryz.prog ν tab6) (h3 : IntCell ν 3) (hG : ∀ q ∈ gls, ∃ fr, (q.g, q.obj fr) ∈ ν.G) (R : Stages) : TblOk Tryz.prog ν tab7 := by
  obtain ⟨u0, hu0, e0⟩ := mkTblZ_true noNG sym_nil (splitOk h3) fnsU_ok ht R.s7_unE
  unfold tab7
  exact ht.set (f := 9) (by omega) (FnGood.memo2 hu0 unE e0 (fun w hw => hs_HR hG hw) (phi_in hG) (by decide +kernel) (by decide +kernel) (by decide +kernel) failD_good)
theorem q8 {ν : Nu} (ht : TblOk Tryz.prog ν tab7) (h3 : IntCell ν 3) {m : Memo2} (R : rk0 fnsE tab7 6 m = true) : ∃ t, TblOk Tryz.prog ν t ∧ runF t 60 6 m.args (m.h0 gls 16) (memoK0 m) (fun _ _ => false) = true := mkTblZ_true noNG sym_nil (splitOk h3) fnsE_ok ht R
theorem c8 {ν : Nu} (hG : ∀ q ∈ gls, ∃ fr, (q.g, q.obj fr) ∈ ν.G) {t : T4 FnD TD} {m : Memo2} (hu : TblOk Tryz.prog ν t) (e : runF t 60 6 m.args (m.h0 gls 16) (memoK0 m) (fun _ _ => false) = true) (h : 16 + m.ins.length ≤ 1024) {d : FnD} (hd : FnGood Tryz.prog ν 6 d) : FnGood Tryz.prog ν 6 (memoD0 m 16 d) := FnGood.memo0 hu m e (fun w hw => hs_HR hG hw) (phi_in hG) h hd
theorem tab8_ok {ν : Nu} (ht : TblOk Tryz.prog ν tab7) (h3 : IntCell ν 3) (hG : ∀ q ∈ gls, ∃ fr, (q.g, q.obj fr) ∈ ν.G) (R : Stages) : TblOk Tryz.prog ν tab8 := by
  obtain ⟨u0, hu0, e0⟩ := mkTblZ_true noNG sym_nil (splitOk h3) fnsE_ok ht R.s8_g0
  obtain ⟨u1, hu1, e1⟩ := mkTblZ_true noNG sym_nil (splitOk h3) fnsE_ok ht R.s8_g1
  obtain ⟨u2, hu2, e2⟩ := mkTblZ_true noNG sym_nil (splitOk h3) fnsE_ok ht R.s8_g2
  obtain ⟨u3, hu3, e3⟩ := mkTblZ_true noNG sym_nil (splitOk h3) fnsE_ok ht R.s8_g3
  obtain ⟨u4, hu4, e4⟩ := mkTblZ_true noNG sym_nil (splitOk h3) fnsE_ok ht R.s8_g4
  obtain ⟨u5, hu5, e5⟩ := mkTblZ_true noNG sym_nil (splitOk h3) fnsE_ok ht R.s8_g5
  obtain ⟨u6, hu6, e6⟩ := mkTblZ_true noNG sym_nil (splitOk h3) fnsE_ok ht R.s8_g6
  obtain ⟨u7, hu7, e7⟩ := mkTblZ_true noNG sym_nil (splitOk h3) fnsE_ok ht R.s8_g7
  obtain ⟨u8, hu8, e8⟩ := mkTblZ_true noNG sym_nil (splitOk h3) fnsE_ok ht R.s8_g8
  obtain ⟨u9, hu9, e9⟩ := mkTblZ_true noNG sym_nil (splitOk h3) fnsE_ok ht R.s8_g9
  unfold tab8
  exact ht.set (f := 6) (by omega) (c8 hG hu0 (memoAll_mem e0 er0 (by simp)) (by decide +kernel) (c8 hG hu0 (memoAll_mem e0 er1 (by simp)) (by decide +kernel) (c8 hG hu0 (memoAll_mem e0 er2 (by simp)) (by decide +kernel) (c8 hG hu0 (memoAll_mem e0 er3 (by simp)) (by decide +kernel) (c8 hG hu1 (memoAll_mem e1 er4 (by simp)) (by decide +kernel) (c8 hG hu1 (memoAll_mem e1 er5 (by simp)) (by decide +kernel) (c8 hG hu1 (memoAll_mem e1 er6 (by simp)) (by decide +kernel) (c8 hG hu1 (memoAll_mem e1 er7 (by simp)) (by decide +kernel) (c8 hG hu2 (memoAll_mem e2 er8 (by simp)) (by decide +kernel) (c8 hG hu2 (memoAll_mem e2 er9 (by simp)) (by decide +kernel) (c8 hG hu2 (memoAll_mem e2 er10 (by simp)) (by decide +kernel) (c8 hG hu2 (memoAll_mem e2 er11 (by simp)) (by decide +kernel) (c8 hG hu3 (memoAll_mem e3 er12 (by simp)) (by decide +kernel) (c8 hG hu3 (memoAll_mem e3 er13 (by simp)) (by decide +kernel) (c8 hG hu3 (memoAll_mem e3 er14 (by simp)) (by decide +kernel) (c8 hG hu3 (memoAll_mem e3 er15 (by simp)) (by decide +kernel) (c8 hG hu4 (memoAll_mem e4 er16 (by simp)) (by decide +kernel) (c8 hG hu4 (memoAll_mem e4 er17 (by simp)) (by decide +kernel) (c8 hG hu4 (memoAll_mem e4 er18 (by simp)) (by decide +kernel) (c8 hG hu4 (memoAll_mem e4 er19 (by simp)) (by decide +kernel) (c8 hG hu5 (memoAll_mem e5 er20 (by simp)) (by decide +kernel) (c8 hG hu5 (memoAll_mem e5 er21 (by simp)) (by decide +kernel) (c8 hG hu5 (memoAll_mem e5 er22 (by simp)) (by decide +kernel) (c8 hG hu5 (memoAll_mem e5 er23 (by simp)) (by decide +kernel) (c8 hG hu6 (memoAll_mem e6 er24 (by simp)) (by decide +kernel) (c8 hG hu6 (memoAll_mem e6 er25 (by simp)) (by decide +kernel) (c8 hG hu6 (memoAll_mem e6 er26 (by simp)) (by decide +kernel) (c8 hG hu6 (memoAll_mem e6 er27 (by simp)) (by decide +kernel) (c8 hG hu7 (memoAll_mem e7 er28 (by simp)) (by decide +kernel) (c8 hG hu7 (memoAll_mem e7 er29 (by simp)) (by decide +kernel) (c8 hG hu7 (memoAll_mem e7 er30 (by simp)) (by decide +kernel) (c8 hG hu7 (memoAll_mem e7 er31 (by simp)) (by decide +kernel) (c8 hG hu8 (memoAll_mem e8 er32 (by simp)) (by decide +kernel) (c8 hG hu8 (memoAll_mem e8 er33 (by simp)) (by decide +kernel) (c8 hG hu8 (memoAll_mem e8 er34 (by simp)) (by decide +kernel) (c8 hG hu8 (memoAll_mem e8 er35 (by simp)) (by decide +kernel) (c8 hG hu9 (memoAll_mem e9 er36 (by simp)) (by decide +kernel) (c8 hG hu9 (memoAll_mem e9 er37 (by simp)) (by decide +kernel) (c8 hG hu9 (memoAll_mem e9 er38 (by simp)) (by decide +kernel) (c8 hG hu9 (memoAll_mem e9 er39 (by simp)) (by decide +kernel) failD_good))))))))))))))))))))))))))))))))))))))))
theorem tab9_ok {ν : Nu} (ht : TblOk Tryz.prog ν tab8) (h3 : IntCell ν 3) (hG : ∀ q ∈ gls, ∃ fr, (q.g, q.obj fr) ∈ ν.G) (R : Stages) : TblOk Tryz.prog ν tab9 := by
  obtain ⟨u0, hu0, e0⟩ := mkTblZ_true noNG sym_nil (splitOk h3) fnsM_ok ht R.s9_mac
  obtain ⟨u1, hu1, e1⟩ := mkTblZ_true noNG sym_nil (splitOk h3) fnsM_ok ht R.s9_mac2
  unfold tab9
  exact ht.set (f := 15) (by omega) (FnGood.memo2 hu0 mac e0 (fun w hw => hs_HR hG hw) (phi_in hG) (by decide +kernel) (by decide +kernel) (by decide +kernel) (FnGood.memo2 hu1 mac2 e1 (fun w hw => hs_HR hG hw) (phi_in hG) (by decide +kernel) (by decide +kernel) (by decide +kernel) failD_good))
theorem q10 {ν : Nu} (ht : TblOk Tryz.prog ν tab9) (h3 : IntCell ν 3) {m : Memo2} (R : rk0 fnsS tab9 38 m = true) : ∃ t, TblOk Tryz.prog ν t ∧ runF t 60 38 m.args (m.h0 gls 16) (memoK0 m) (fun _ _ => false) = true := mkTblZ_true noNG sym_nil (splitOk h3) fnsS_ok ht R
theorem c10 {ν : Nu} (hG : ∀ q ∈ gls, ∃ fr, (q.g, q.obj fr) ∈ ν.G) {t : T4 FnD TD} {m : Memo2} (hu : TblOk Tryz.prog ν t) (e : runF t 60 38 m.args (m.h0 gls 16) (memoK0 m) (fun _ _ => false) = true) (h : 16 + m.ins.length ≤ 1024) {d : FnD} (hd : FnGood Tryz.prog ν 38 d) : FnGood Tryz.prog ν 38 (memoDF m 16 d) := FnGood.memo0f hu m e (fun w hw => hs_HR hG hw) (phi_in hG) h hd
theorem tab10_ok {ν : Nu} (ht : TblOk Tryz.prog ν tab9) (h3 : IntCell ν 3) (hG : ∀ q ∈ gls, ∃ fr, (q.g, q.obj fr) ∈ ν.G) (R : Stages) : TblOk Tryz.prog ν tab10 := by
  obtain ⟨u0, hu0, e0⟩ := mkTblZ_true noNG sym_nil (splitOk h3) fnsS_ok ht R.s10_g0
  unfold tab10
  exact ht.set (f := 38) (by omega) (c10 hG hu0 (memoAll_mem e0 sum01 (by simp)) (by decide +kernel) (c10 hG hu0 (memoAll_mem e0 sum11 (by simp)) (by decide +kernel) (c10 hG hu0 (memoAll_mem e0 sum21 (by simp)) (by decide +kernel) (c10 hG hu0 (memoAll_mem e0 sum31 (by simp)) (by decide +kernel) (c10 hG hu0 (memoAll_mem e0 sum41 (by simp)) (by decide +kernel) failD_good)))))
theorem q11 {ν : Nu} (ht : TblOk Tryz.prog ν tab10) (h3 : IntCell ν 3) {m : Memo2} (R : rk0 fnsG tab10 179 m = true) : ∃ t, TblOk Tryz.prog ν t ∧ runF t 60 179 m.args (m.h0 gls 16) (memoK0 m) (fun _ _ => false) = true := mkTblZ_true noNG sym_nil (splitOk h3) fnsG_ok ht R
theorem c11 {ν : Nu} (hG : ∀ q ∈ gls, ∃ fr, (q.g, q.obj fr) ∈ ν.G) {t : T4 FnD TD} {m : Memo2} (hu : TblOk Tryz.prog ν t) (e : runF t 60 179 m.args (m.h0 gls 16) (memoK0 m) (fun _ _ => false) = true) (h : 16 + m.ins.length ≤ 1024) {d : FnD} (hd : FnGood Tryz.prog ν 179 d) : FnGood Tryz.prog ν 179 (memoDF m 16 d) := FnGood.memo0f hu m e (fun w hw => hs_HR hG hw) (phi_in hG) h hd
theorem tab11_ok {ν : Nu} (ht : TblOk Tryz.prog ν tab10) (h3 : IntCell ν 3) (hG : ∀ q ∈ gls, ∃ fr, (q.g, q.obj fr) ∈ ν.G) (R : Stages) : TblOk Tryz.prog ν tab11 := by
  obtain ⟨u0, hu0, e0⟩ := mkTblZ_true noNG sym_nil (splitOk h3) fnsG_ok ht R.s11_g0
  unfold tab11
  exact ht.set (f := 179) (by omega) (c11 hG hu0 (memoAll_mem e0 rng0 (by simp)) (by decide +kernel) (c11 hG hu0 (memoAll_mem e0 rng1 (by simp)) (by decide +kernel) (c11 hG hu0 (memoAll_mem e0 rng2 (by simp)) (by decide +kernel) (c11 hG hu0 (memoAll_mem e0 rng3 (by simp)) (by decide +kernel) (c11 hG hu0 (memoAll_mem e0 rng4 (by simp)) (by decide +kernel) (c11 hG hu0 (memoAll_mem e0 rng5 (by simp)) (by decide +kernel) (c11 hG hu0 (memoAll_mem e0 rng6 (by simp)) (by decide +kernel) (c11 hG hu0 (memoAll_mem e0 rng7 (by simp)) (by decide +kernel) (c11 hG hu0 (memoAll_mem e0 rng8 (by simp)) (by decide +kernel) (c11 hG hu0 (memoAll_mem e0 rng9 (by simp)) (by decide +kernel) (c11 hG hu0 (memoAll_mem e0 rng10 (by simp)) (by decide +kernel) (c11 hG hu0 (memoAll_mem e0 rng11 (by simp)) (by decide +kernel) failD_good))))))))))))
theorem q12 {ν : Nu} (ht : TblOk Tryz.prog ν tab11) (h3 : IntCell ν 3) {m : Memo2} (R : rk0 fnsT tab11 84 m = true) : ∃ t, TblOk Tryz.prog ν t ∧ runF t 60 84 m.args (m.h0 gls 16) (memoK0 m) (fun _ _ => false) = true := mkTblZ_true noNG sym_nil (splitOk h3) fnsT_ok ht R
theorem c12 {ν : Nu} (hG : ∀ q ∈ gls, ∃ fr, (q.g, q.obj fr) ∈ ν.G) {t : T4 FnD TD} {m : Memo2} (hu : TblOk Tryz.prog ν t) (e : runF t 60 84 m.args (m.h0 gls 16) (memoK0 m) (fun _ _ => false) = true) (h : 16 + m.ins.length ≤ 1024) {d : FnD} (hd : FnGood Tryz.prog ν 84 d) : FnGood Tryz.prog ν 84 (memoDF m 16 d) := FnGood.memo0f hu m e (fun w hw => hs_HR hG hw) (phi_in hG) h hd
theorem tab12_ok {ν : Nu} (ht : TblOk Tryz.prog ν tab11) (h3 : IntCell ν 3) (hG : ∀ q ∈ gls, ∃ fr, (q.g, q.obj fr) ∈ ν.G) (R : Stages) : TblOk Tryz.prog ν tab12 := by
  obtain ⟨u0, hu0, e0⟩ := mkTblZ_true noNG sym_nil (splitOk h3) fnsT_ok ht R.s12_g0
  obtain ⟨u1, hu1, e1⟩ := mkTblZ_true noNG sym_nil (splitOk h3) fnsT_ok ht R.s12_g1
  unfold tab12
  exact ht.set (f := 84) (by omega) (c12 hG hu0 (memoAll_mem e0 tst0 (by simp)) (by decide +kernel) (c12 hG hu0 (memoAll_mem e0 tst1 (by simp)) (by decide +kernel) (c12 hG hu0 (memoAll_mem e0 tst2 (by simp)) (by decide +kernel) (c12 hG hu0 (memoAll_mem e0 tst3 (by simp)) (by decide +kernel) (c12 hG hu0 (memoAll_mem e0 tst4 (by simp)) (by decide +kernel) (c12 hG hu0 (memoAll_mem e0 tst5 (by simp)) (by decide +kernel) (c12 hG hu0 (memoAll_mem e0 tst6 (by simp)) (by decide +kernel) (c12 hG hu1 (memoAll_mem e1 tst7 (by simp)) (by decide +kernel) (c12 hG hu1 (memoAll_mem e1 tst8 (by simp)) (by decide +kernel) (c12 hG hu1 (memoAll_mem e1 tst9 (by simp)) (by decide +kernel) (c12 hG hu1 (memoAll_mem e1 tst10 (by simp)) (by decide +kernel) (c12 hG hu1 (memoAll_mem e1 tst11 (by simp)) (by decide +kernel) (c12 hG hu1 (memoAll_mem e1 tst12 (by simp)) (by decide +kernel) failD_good)))))))))))))
theorem q13 {ν : Nu} (ht : TblOk Tryz.prog ν tab12) (h3 : IntCell ν 3) {m : Memo2} (R : rk0 fnsT tab12 171 m = true) : ∃ t, TblOk Tryz.prog ν t ∧ runF t 60 171 m.args (m.h0 gls 16) (memoK0 m) (fun _ _ => false) = true := mkTblZ_true noNG sym_nil (splitOk h3) fnsT_ok ht R
theorem c13 {ν : Nu} (hG : ∀ q ∈ gls, ∃ fr, (q.g, q.obj fr) ∈ ν.G) {t : T4 FnD TD} {m : Memo2} (hu : TblOk Tryz.prog ν t) (e : runF t 60 171 m.args (m.h0 gls 16) (memoK0 m) (fun _ _ => false) = true) (h : 16 + m.ins.length ≤ 1024) {d : FnD} (hd : FnGood Tryz.prog ν 171 d) : FnGood Tryz.prog ν 171 (memoDF m 16 d) := FnGood.memo0f hu m e (fun w hw => hs_HR hG hw) (phi_in hG) h hd
theorem tab13_ok {ν : Nu} (ht : TblOk Tryz.prog ν tab12) (h3 : IntCell ν 3) (hG : ∀ q ∈ gls, ∃ fr, (q.g, q.obj fr) ∈ ν.G) (R : Stages) : TblOk Tryz.prog ν tab13 := by
  obtain ⟨u0, hu0, e0⟩ := mkTblZ_true noNG sym_nil (splitOk h3) fnsT_ok ht R.s13_g0
  unfold tab13
  exact ht.set (f := 171) (by omega) (c13 hG hu0 (memoAll_mem e0 num0 (by simp)) (by decide +kernel) (c13 hG hu0 (memoAll_mem e0 num1 (by simp)) (by decide +kernel) (c13 hG hu0 (memoAll_mem e0 num2 (by simp)) (by decide +kernel) (c13 hG hu0 (memoAll_mem e0 num3 (by simp)) (by decide +kernel) failD_good))))
theorem q14 {ν : Nu} (ht : TblOk Tryz.prog ν tab13) (h3 : IntCell ν 3) (hD : ∀ d, FnGood Tryz.prog ν 161 d → FnGood Tryz.prog ν 161 (doChain d)) {m : Memo2} (R : rkW fnsC tab13 4 m = true) : ∃ t, TblOk Tryz.prog ν t ∧ runF t 60 4 m.args (m.h0 gls 16) (memoK0 m) (fun _ _ => false) = true := by
  obtain ⟨v, hv, d⟩ := mkTblZ_true noNG sym_nil (splitOk h3) fnsC_ok ht R
  exact withDo_true hD hv d
theorem c14 {ν : Nu} (hG : ∀ q ∈ gls, ∃ fr, (q.g, q.obj fr) ∈ ν.G) {t : T4 FnD TD} {m : Memo2} (hu : TblOk Tryz.prog ν t) (e : runF t 60 4 m.args (m.h0 gls 16) (memoK0 m) (fun _ _ => false) = true) (h : 16 + m.ins.length ≤ 1024) {d : FnD} (hd : FnGood Tryz.prog ν 4 d) : FnGood Tryz.prog ν 4 (memoD0 m 16 d) := FnGood.memo0 hu m e (fun w hw => hs_HR hG hw) (phi_in hG) h hd
theorem tab14_ok {ν : Nu} (ht : TblOk Tryz.prog ν tab13) (h3 : IntCell ν 3) (hG : ∀ q ∈ gls, ∃ fr, (q.g, q.obj fr) ∈ ν.G) (R : Stages) (hD : ∀ d, FnGood Tryz.prog ν 161 d → FnGood Tryz.prog ν 161 (doChain d)) : TblOk Tryz.prog ν tab14 := by
  obtain ⟨u0, hu0, e0⟩ := q14 ht h3 hD R.s14_g0
  obtain ⟨u1, hu1, e1⟩ := q14 ht h3 hD R.s14_g1
  obtain ⟨u2, hu2, e2⟩ := q14 ht h3 hD R.s14_g2
  obtain ⟨u3, hu3, e3⟩ := q14 ht h3 hD R.s14_g3
  obtain ⟨u4, hu4, e4⟩ := q14 ht h3 hD R.s14_g4
  obtain ⟨u5, hu5, e5⟩ := q14 ht h3 hD R.s14_g5
  obtain ⟨u6, hu6, e6⟩ := q14 ht h3 hD R.s14_g6
  obtain ⟨u7, hu7, e7⟩ := q14 ht h3 hD R.s14_g7
  obtain ⟨u8, hu8, e8⟩ := q14 ht h3 hD R.s14_g8
  obtain ⟨u9, hu9, e9⟩ := q14 ht h3 hD R.s14_g9
  obtain ⟨u10, hu10, e10⟩ := q14 ht h3 hD R.s14_g10
  obtain ⟨u11, hu11, e11⟩ := q14 ht h3 hD R.s14_g11
  obtain ⟨u12, hu12, e12⟩ := q14 ht h3 hD R.s14_g12
  obtain ⟨u13, hu13, e13⟩ := q14 ht h3 hD R.s14_g13
  obtain ⟨u14, hu14, e14⟩ := q14 ht h3 hD R.s14_g14
  obtain ⟨u15, hu15, e15⟩ := q14 ht h3 hD R.s14_g15
  obtain ⟨u16, hu16, e16⟩ := q14 ht h3 hD R.s14_g16
  obtain ⟨u17, hu17, e17⟩ := q14 ht h3 hD R.s14_g17
  obtain ⟨u18, hu18, e18⟩ := q14 ht h3 hD R.s14_g18
  obtain ⟨u19, hu19, e19⟩ := q14 ht h3 hD R.s14_g19
  obtain ⟨u20, hu20, e20⟩ := q14 ht h3 hD R.s14_g20
  obtain ⟨u21, hu21, e21⟩ := q14 ht h3 hD R.s14_g21
  obtain ⟨u22, hu22, e22⟩ := q14 ht h3 hD R.s14_g22
  obtain ⟨u23, hu23, e23⟩ := q14 ht h3 hD R.s14_g23
  obtain ⟨u24, hu24, e24⟩ := q14 ht h3 hD R.s14_g24
  obtain ⟨u25, hu25, e25⟩ := q14 ht h3 hD R.s14_g25
  obtain ⟨u26, hu26, e26⟩ := q14 ht h3 hD R.s14_g26
  obtain ⟨u27, hu27, e27⟩ := q14 ht h3 hD R.s14_g27
  obtain ⟨u28, hu28, e28⟩ := q14 ht h3 hD R.s14_g28
  obtain ⟨u29, hu29, e29⟩ := q14 ht h3 hD R.s14_g29
  obtain ⟨u30, hu30, e30⟩ := q14 ht h3 hD R.s14_g30
  obtain ⟨u31, hu31, e31⟩ := q14 ht h3 hD R.s14_g31
  obtain ⟨u32, hu32, e32⟩ := q14 ht h3 hD R.s14_g32
  obtain ⟨u33, hu33, e33⟩ := q14 ht h3 hD R.s14_g33
  obtain ⟨u34, hu34, e34⟩ := q14 ht h3 hD R.s14_g34
  obtain ⟨u35, hu35, e35⟩ := q14 ht h3 hD R.s14_g35
  obtain ⟨u36, hu36, e36⟩ := q14 ht h3 hD R.s14_g36
  obtain ⟨u37, hu37, e37⟩ := q14 ht h3 hD R.s14_g37
  obtain ⟨u38, hu38, e38⟩ := q14 ht h3 hD R.s14_g38
  obtain ⟨u39, hu39, e39⟩ := q14 ht h3 hD R.s14_g39
  unfold tab14
  exact ht.set (f := 4) (by omega) (c14 hG hu0 e0 (by decide +kernel) (c14 hG hu1 e1 (by decide +kernel) (c14 hG hu2 e2 (by decide +kernel) (c14 hG hu3 e3 (by decide +kernel) (c14 hG hu4 e4 (by decide +kernel) (c14 hG hu5 e5 (by decide +kernel) (c14 hG hu6 e6 (by decide +kernel) (c14 hG hu7 e7 (by decide +kernel) (c14 hG hu8 e8 (by decide +kernel) (c14 hG hu9 e9 (by decide +kernel) (c14 hG hu10 e10 (by decide +kernel) (c14 hG hu11 e11 (by decide +kernel) (c14 hG hu12 e12 (by decide +kernel) (c14 hG hu13 e13 (by decide +kernel) (c14 hG hu14 e14 (by decide +kernel) (c14 hG hu15 e15 (by decide +kernel) (c14 hG hu16 e16 (by decide +kernel) (c14 hG hu17 e17 (by decide +kernel) (c14 hG hu18 e18 (by decide +kernel) (c14 hG hu19 e19 (by decide +kernel) (c14 hG hu20 e20 (by decide +kernel) (c14 hG hu21 e21 (by decide +kernel) (c14 hG hu22 e22 (by decide +kernel) (c14 hG hu23 e23 (by decide +kernel) (c14 hG hu24 e24 (by decide +kernel) (c14 hG hu25 e25 (by decide +kernel) (c14 hG hu26 e26 (by decide +kernel) (c14 hG hu27 e27 (by decide +kernel) (c14 hG hu28 e28 (by decide +kernel) (c14 hG hu29 e29 (by decide +kernel) (c14 hG hu30 e30 (by decide +kernel) (c14 hG hu31 e31 (by decide +kernel) (c14 hG hu32 e32 (by decide +kernel) (c14 hG hu33 e33 (by decide +kernel) (c14 hG hu34 e34 (by decide +kernel) (c14 hG hu35 e35 (by decide +kernel) (c14 hG hu36 e36 (by decide +kernel) (c14 hG hu37 e37 (by decide +kernel) (c14 hG hu38 e38 (by decide +kernel) (c14 hG hu39 e39 (by decide +kernel) failD_good))))))))))))))))))))))))))))))))))))))))
theorem tabF_ok {ν : Nu} (h0 : TabCell Tryz.prog ν "strings.asciiSpace" .u8 Lib.asciiSpaceTab) (hP : TabCell Tryz.prog ν "internal/strconv.uint64pow10" .u64 Lib.pow10Tab) (h3 : IntCell ν 3) (hG : ∀ q ∈ gls, ∃ fr, (q.g, q.obj fr) ∈ ν.G) (R : Stages) : TblOk Tryz.prog ν tab14 :=
  (tab14_ok (tab13_ok (tab12_ok (tab11_ok (tab10_ok (tab9_ok (tab8_ok (tab7_ok (tab6_ok (tab5_ok (tab4_ok (tab3_ok (tab2_ok (tab1_ok (tab0_ok h0 h3 hP) h3 hG R) h3 hG R) h3 hG R) h3 hG R) h3 hG R) h3 hG R) h3 hG R) h3 hG R) h3 hG R) h3 hG R) h3 hG R) h3 hG R) h3 hG R) h3 hG R (fun d hd => doChain_ok (fun V => (tab2_ok (tab1_ok (tab0_ok h0 h3 hP) h3 hG R) h3 hG R)) h3 hG R hd))
/-- a run by a table that is good, put to use -/
theorem run_said {f : Nat → Int} {G : List (Nat × Obj)} {V : Nat → Value} {t : T4 FnD TD} (ht : TblOk Tryz.prog ⟨f, G, V⟩ t) (g4 : ∀ q ∈ gls, ∃ fr, (q.g, q.obj fr) ∈ G) {W : World} (g1 : ∀ b o, (b, o) ∈ G → W.heap[b]? = some o) {avs : List AV} {vs : List Value} (hv : VRs (phiOf gls) ⟨f, G, V⟩ avs vs)
    (h : runF t 60 3 avs hs isTrueK (fun _ _ => false) = true) : Calls Tryz.prog 3 vs.toArray W fun e w' => e = .returned (.bool true) ∧ Below W.heap.size W w' := by
  have hr := hs_HR (ν := ⟨f, G, V⟩) g4 (w := W) g1
  have hco := runF_ok ht 60 3 _ hs isTrueK (fun _ _ => false) h (phiOf gls) W vs hr hv
  have key : ∀ e w', FPost (phiOf gls) ⟨f, G, V⟩ hs.ro W hs.ds isTrueK (fun _ _ => false) e w' → e = .returned (.bool true) ∧ Below W.heap.size W w' := by
    intro e w' hp
    cases e with
    | returned x =>
      obtain ⟨φ', av, h', hvr, hr', hx, _, _, hav⟩ := hp
      obtain ⟨b, e2, hb2⟩ := vBool_true (show vBool av (fun b => b) = true from hav)
      subst e2 hb2
      cases hvr
      exact ⟨rfl, below_of_ext hx phi_lim⟩
    | panicked chain =>
      obtain ⟨φ', av, h', v, _, _, _, _, _, _, hav⟩ := hp
      cases hav
    | outgrown => exact hp.elim
  rcases hco with ⟨_, h2⟩ | ⟨x, w', h2, _⟩
  · exact h2.mono key
  · exfalso
    have hb : hasBody Tryz.prog 3 = true := by kernel_rfl
    rw [hasBody_true hb] at h2
    cases h2
/-- what the kernel ran -/
structure Runs : Prop extends Stages where
  root : runRoot = true
theorem walk (R : Runs) {W : World} (hF : Facts W) : Calls Tryz.prog 3 #[] W fun e w' => e = .returned (.bool true) ∧ Below W.heap.size W w' := by
  have hF' := hF
  obtain ⟨fP, hP⟩ := hF'.gP
  obtain ⟨G, g1, g2, g3, g4, g5⟩ := nu_of hF [(2, Obj.cells (Lib.pow10Tab.map fun z => Value.int .u64 z).toArray 327 fP)] (fun b o h => by
    cases List.mem_singleton.1 h
    exact hP)
  have F : Nat → Int := fun _ => 0
  have V : Nat → Value := fun _ => .nilFunc
  have k3 := g3 F V
  have kP : TabCell Tryz.prog ⟨F, G, V⟩ "internal/strconv.uint64pow10" .u64 Lib.pow10Tab := ⟨2, 327, fP, namedP, g5 _ List.mem_cons_self⟩
  have tF := tabF_ok (g2 F V) kP k3 g4 R.toStages
  obtain ⟨t1, ht1, h⟩ := mkTblZ_true noNG sym_nil (splitOk k3) fnsR_ok tF R.root
  exact run_said ht1 g4 g1 (vs := []) .nil h
end Go.Proofs.YtkadfophjfmknaaGreatDoor
