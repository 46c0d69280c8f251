/-
  The tables of functions are good: each entry speaks of its function; under the two facts on package-level variables that are stated.
-/
import Derived.Test.YtmkekbogeniehaaGreatDoorTabs
import Derived.Test.YtmkekbogeniehaaGreatDoorGoods
import Derived.Clock
import Derived.Stop.LaidErr
import Derived.Test.YtmkekbogeniehaaGreatDoorTabsX
import Derived.Test.YtmkekbogeniehaaGreatDoorRunC5
import Derived.Test.YtmkekbogeniehaaGreatDoorRunA5
set_option linter.unusedVariables false
set_option linter.unusedSimpArgs false
namespace Go.Proofs.YtmkekbogeniehaaGreatDoor
open Go Go.Abs
set_option maxRecDepth 100000
set_option maxHeartbeats 0
theorem tab0_ok {ν : Nu} (h0 : TabCell Tryz.prog ν "strings.asciiSpace" .u8 Lib.asciiSpaceTab) (h3 : IntCell ν 3) (hP : TabCell Tryz.prog ν "internal/strconv.uint64pow10" .u64 Lib.pow10Tab) : TblOk Tryz.prog ν tab0 := by
  unfold tab0
  refine TblOk.set ?_ (f := 101) (by omega) good101
  refine TblOk.set ?_ (f := 22) (by omega) (good22 hP)
  refine TblOk.set ?_ (f := 238) (by omega) good238
  refine TblOk.set ?_ (f := 62) (by omega) good62
  refine TblOk.set ?_ (f := 436) (by omega) good436
  refine TblOk.set ?_ (f := 292) (by omega) good292
  refine TblOk.set ?_ (f := 349) (by omega) good349
  refine TblOk.set ?_ (f := 61) (by omega) (good61 h0)
  refine TblOk.set ?_ (f := 127) (by omega) good127
  refine TblOk.set ?_ (f := 52) (by omega) good52
  refine TblOk.set ?_ (f := 93) (by omega) good93
  refine TblOk.set ?_ (f := 313) (by omega) good313
  refine TblOk.set ?_ (f := 63) (by omega) (good63 h3)
  refine TblOk.set ?_ (f := 182) (by omega) (good182 h3)
  refine TblOk.set ?_ (f := 112) (by omega) (good112 h3)
  exact TblOk.empty
theorem fnsZ_ok : FnsOkZ Tryz.prog fnsZ := ⟨Tryz.func12, Tryz.func13, Tryz.func14, Tryz.func16, Tryz.func17, Tryz.func20, Tryz.func21, Tryz.func24, Tryz.func25, Tryz.func26, Tryz.func27, Tryz.func30, Tryz.func31, Tryz.func32, Tryz.func33, Tryz.func34, Tryz.func35, Tryz.func36, Tryz.func37, Tryz.func38, Tryz.func39, Tryz.func40, Tryz.func41, Tryz.func42, Tryz.func44, Tryz.func45, Tryz.func46, Tryz.func47, Tryz.func48, Tryz.func49, Tryz.func50, Tryz.func53, Tryz.func54, Tryz.func55, Tryz.func56, Tryz.func57, Tryz.func58, Tryz.func65, Tryz.func66, Tryz.func67, Tryz.func68, Tryz.func74, Tryz.func75, Tryz.func76, Tryz.func77, Tryz.func78, Tryz.func79, Tryz.func80, Tryz.func81, Tryz.func82, Tryz.func84, Tryz.func85, Tryz.func92, Tryz.func94, Tryz.func95, Tryz.func96, Tryz.func97, Tryz.func98, Tryz.func99, Tryz.func100, Tryz.func102, Tryz.func122, Tryz.func123, Tryz.func124, Tryz.func125, Tryz.func126, Tryz.func128, Tryz.func129, Tryz.func130, Tryz.func131, Tryz.func133, Tryz.func134, Tryz.func135, Tryz.func136, Tryz.func137, Tryz.func138, Tryz.func140, Tryz.func143, Tryz.func147, Tryz.func148, Tryz.func151, Tryz.func153, Tryz.func154, Tryz.func155, Tryz.func158, Tryz.func159, Tryz.func160, Tryz.func161, Tryz.func162, Tryz.func163, Tryz.func164, Tryz.func165, Tryz.func166, Tryz.func171, Tryz.func172, Tryz.func173, Tryz.func186, Tryz.func191, Tryz.func193, Tryz.func204, Tryz.func208, Tryz.func210, Tryz.func211, Tryz.func212, Tryz.func216, Tryz.func219, Tryz.func220, Tryz.func222, Tryz.func223, Tryz.func224, Tryz.func225, Tryz.func226, Tryz.func227, Tryz.func228, Tryz.func235, Tryz.func236, Tryz.func237, Tryz.func239, Tryz.func240, Tryz.func242, Tryz.func243, Tryz.func244, Tryz.func249, Tryz.func250, Tryz.func251, Tryz.func252, Tryz.func253, Tryz.func254, Tryz.func256, Tryz.func258, Tryz.func259, Tryz.func260, Tryz.func261, Tryz.func262, Tryz.func263, Tryz.func266, Tryz.func267, Tryz.func268, Tryz.func269, Tryz.func270, Tryz.func271, Tryz.func274, Tryz.func276, Tryz.func280, Tryz.func281, Tryz.func283, Tryz.func294, Tryz.func314, Tryz.func315, Tryz.func316, Tryz.func317, Tryz.func319, Tryz.func320, Tryz.func321, Tryz.func322, Tryz.func323, Tryz.func324, Tryz.func329, Tryz.func331, Tryz.func332, Tryz.func335, Tryz.func336, Tryz.func337, Tryz.func338, Tryz.func347, Tryz.func351, Tryz.func353, Tryz.func354, Tryz.func355, Tryz.func356, Tryz.func357, Tryz.func358, Tryz.func359, Tryz.func360, Tryz.func361, Tryz.func364, Tryz.func366, Tryz.func367, Tryz.func368, Tryz.func369, Tryz.func370, Tryz.func371, Tryz.func372, Tryz.func373, Tryz.func374, Tryz.func375, Tryz.func376, Tryz.func377, Tryz.func378, Tryz.func379, Tryz.func380, Tryz.func381, Tryz.func382, Tryz.func383, Tryz.func384, Tryz.func385, Tryz.func390, Tryz.func391, Tryz.func392, Tryz.func393, Tryz.func395, Tryz.func397, Tryz.func398, Tryz.func399, Tryz.func400, Tryz.func401, Tryz.func403, Tryz.func409, Tryz.func410, Tryz.func415, Tryz.func417, Tryz.func418, Tryz.func419, Tryz.func420, Tryz.func423, Tryz.func424, Tryz.func426, Tryz.func432, Tryz.func433, Tryz.func441, Tryz.func452, Tryz.func460, Tryz.func461, Tryz.func462, Tryz.func464, Tryz.func465, Tryz.func466, Tryz.func467, Tryz.func468, Tryz.func469, Tryz.func470, Tryz.func471, Tryz.func473, Tryz.func496, Tryz.func497, Tryz.func499, Tryz.func500, Tryz.func501, Tryz.func502, Tryz.func503, Tryz.func512, Tryz.func514, Tryz.func515, Tryz.func516, Tryz.func517, Tryz.func518, Tryz.func519, Tryz.func520, Tryz.func521, Tryz.func522, Tryz.func523, Tryz.func524, Tryz.func525, Tryz.func526, Tryz.func527, Tryz.func528, Tryz.func529, Tryz.func530, Tryz.func531, Tryz.func532, Tryz.func533, Tryz.func534, Tryz.func535, Tryz.func536, Tryz.func537, Tryz.func540, Tryz.func542, Tryz.func543, Tryz.func544, Tryz.func548, Tryz.func549, Tryz.func550, Tryz.func551, Tryz.func552, Tryz.func554, Tryz.func555, Tryz.func564, Tryz.func569, Tryz.func570, Tryz.func573, Tryz.func578, Tryz.func579, Tryz.func581, Tryz.func605, Tryz.func613, Tryz.func620, Tryz.func621, Tryz.func627, Tryz.func628, Tryz.func629, Tryz.func635, Tryz.func637, Tryz.func638, Tryz.func639, Tryz.func642, Tryz.func647, Tryz.func648, Tryz.func649, Tryz.func650, Tryz.func652, Tryz.func653, Tryz.func654, Tryz.func655, Tryz.func656, Tryz.func657, Tryz.func658, Tryz.func659, Tryz.func660, Tryz.func661, Tryz.func662, Tryz.func663, Tryz.func664, Tryz.func666, Tryz.func667, Tryz.func671, Tryz.func672, Tryz.func675, Tryz.func677, Tryz.func678, Tryz.func679, Tryz.func694, Tryz.func697, Tryz.func702, Tryz.func703, Tryz.func714, Tryz.func736, Tryz.func738, Tryz.func743, Tryz.func744, Tryz.func746, Tryz.func749, Tryz.func750, Tryz.func751, Tryz.func753, Tryz.func754, Tryz.func755, Tryz.func756, Tryz.func758, Tryz.func759, Tryz.func760, Tryz.func761, Tryz.func762, Tryz.func764, Tryz.func767, Tryz.func778, Tryz.func779, Tryz.func784, Tryz.func798, Tryz.func801, Tryz.func802, Tryz.func803, Tryz.func804, Tryz.func805, Tryz.func806, Tryz.func807, Tryz.func808, Tryz.func809, Tryz.func810, Tryz.func812, Tryz.func813, Tryz.func819, Tryz.func820, Tryz.func823, Tryz.func824, Tryz.func825, Tryz.func826, Tryz.func827, Tryz.func828, Tryz.func830, Tryz.func831, Tryz.func832, Tryz.func833, trivial⟩
theorem fnsW_ok : FnsOkZ Tryz.prog fnsW := ⟨Tryz.func609, trivial⟩
theorem fnsL_ok : FnsOkZ Tryz.prog fnsL := ⟨Tryz.func8, Tryz.func10, Tryz.func12, Tryz.func13, Tryz.func14, Tryz.func15, Tryz.func17, Tryz.func19, Tryz.func24, Tryz.func25, Tryz.func26, Tryz.func27, Tryz.func30, Tryz.func31, Tryz.func32, Tryz.func33, Tryz.func34, Tryz.func35, Tryz.func36, Tryz.func37, Tryz.func38, Tryz.func39, Tryz.func40, Tryz.func41, Tryz.func43, Tryz.func44, Tryz.func45, Tryz.func46, Tryz.func47, Tryz.func48, Tryz.func49, Tryz.func50, Tryz.func51, Tryz.func53, Tryz.func59, Tryz.func60, Tryz.func64, Tryz.func65, Tryz.func66, Tryz.func67, Tryz.func68, Tryz.func74, Tryz.func75, Tryz.func76, Tryz.func77, Tryz.func78, Tryz.func80, Tryz.func81, Tryz.func82, Tryz.func84, Tryz.func85, Tryz.func86, Tryz.func87, Tryz.func88, Tryz.func89, Tryz.func90, Tryz.func92, Tryz.func94, Tryz.func95, Tryz.func96, Tryz.func102, Tryz.func105, Tryz.func107, Tryz.func108, Tryz.func109, Tryz.func113, Tryz.func114, Tryz.func115, Tryz.func116, Tryz.func117, Tryz.func118, Tryz.func119, Tryz.func120, Tryz.func121, Tryz.func122, Tryz.func123, Tryz.func124, Tryz.func125, Tryz.func126, Tryz.func128, Tryz.func129, Tryz.func130, Tryz.func131, Tryz.func133, Tryz.func136, Tryz.func137, Tryz.func138, Tryz.func140, Tryz.func141, Tryz.func142, Tryz.func143, Tryz.func144, Tryz.func145, Tryz.func146, Tryz.func147, Tryz.func148, Tryz.func151, Tryz.func153, Tryz.func154, Tryz.func155, Tryz.func158, Tryz.func159, Tryz.func160, Tryz.func161, Tryz.func165, Tryz.func166, Tryz.func172, Tryz.func173, Tryz.func178, Tryz.func180, Tryz.func183, Tryz.func184, Tryz.func185, Tryz.func186, Tryz.func187, Tryz.func188, Tryz.func189, Tryz.func190, Tryz.func191, Tryz.func192, Tryz.func193, Tryz.func194, Tryz.func197, Tryz.func198, Tryz.func201, Tryz.func202, Tryz.func203, Tryz.func204, Tryz.func206, Tryz.func208, Tryz.func210, Tryz.func211, Tryz.func212, Tryz.func216, Tryz.func220, Tryz.func222, Tryz.func223, Tryz.func225, Tryz.func226, Tryz.func227, Tryz.func228, Tryz.func229, Tryz.func230, Tryz.func231, Tryz.func232, Tryz.func233, Tryz.func234, Tryz.func235, Tryz.func236, Tryz.func237, Tryz.func239, Tryz.func240, Tryz.func242, Tryz.func243, Tryz.func244, Tryz.func248, Tryz.func249, Tryz.func250, Tryz.func251, Tryz.func252, Tryz.func253, Tryz.func254, Tryz.func261, Tryz.func262, Tryz.func263, Tryz.func266, Tryz.func267, Tryz.func271, Tryz.func274, Tryz.func280, Tryz.func281, Tryz.func283, Tryz.func290, Tryz.func294, Tryz.func296, Tryz.func298, Tryz.func299, Tryz.func300, Tryz.func301, Tryz.func302, Tryz.func303, Tryz.func304, Tryz.func307, Tryz.func308, Tryz.func309, Tryz.func310, Tryz.func311, Tryz.func312, Tryz.func314, Tryz.func315, Tryz.func316, Tryz.func317, Tryz.func319, Tryz.func320, Tryz.func321, Tryz.func322, Tryz.func323, Tryz.func324, Tryz.func329, Tryz.func331, Tryz.func332, Tryz.func335, Tryz.func336, Tryz.func337, Tryz.func338, Tryz.func348, Tryz.func351, Tryz.func353, Tryz.func354, Tryz.func355, Tryz.func356, Tryz.func357, Tryz.func358, Tryz.func359, Tryz.func360, Tryz.func361, Tryz.func363, Tryz.func364, Tryz.func366, Tryz.func367, Tryz.func368, Tryz.func369, Tryz.func370, Tryz.func371, Tryz.func372, Tryz.func373, Tryz.func374, Tryz.func375, Tryz.func380, Tryz.func381, Tryz.func382, Tryz.func383, Tryz.func384, Tryz.func385, Tryz.func390, Tryz.func391, Tryz.func395, Tryz.func397, Tryz.func400, Tryz.func409, Tryz.func410, Tryz.func423, Tryz.func426, Tryz.func432, Tryz.func433, Tryz.func440, Tryz.func441, Tryz.func442, Tryz.func443, Tryz.func444, Tryz.func445, Tryz.func446, Tryz.func447, Tryz.func448, Tryz.func449, Tryz.func450, Tryz.func452, Tryz.func453, Tryz.func454, Tryz.func455, Tryz.func456, Tryz.func457, Tryz.func461, Tryz.func464, Tryz.func465, Tryz.func466, Tryz.func468, Tryz.func469, Tryz.func470, Tryz.func471, Tryz.func473, Tryz.func496, Tryz.func499, Tryz.func500, Tryz.func501, Tryz.func502, Tryz.func503, Tryz.func509, Tryz.func512, Tryz.func514, Tryz.func515, Tryz.func516, Tryz.func517, Tryz.func518, Tryz.func519, Tryz.func520, Tryz.func521, Tryz.func522, Tryz.func524, Tryz.func525, Tryz.func530, Tryz.func531, Tryz.func532, Tryz.func534, Tryz.func535, Tryz.func536, Tryz.func537, Tryz.func540, Tryz.func544, Tryz.func555, Tryz.func578, Tryz.func579, Tryz.func606, Tryz.func607, Tryz.func608, Tryz.func610, Tryz.func611, Tryz.func613, Tryz.func616, Tryz.func618, Tryz.func619, Tryz.func620, Tryz.func627, Tryz.func628, Tryz.func629, Tryz.func637, Tryz.func638, Tryz.func639, Tryz.func647, Tryz.func648, Tryz.func649, Tryz.func652, Tryz.func653, Tryz.func654, Tryz.func655, Tryz.func656, Tryz.func657, Tryz.func658, Tryz.func659, Tryz.func660, Tryz.func661, Tryz.func662, Tryz.func663, Tryz.func666, Tryz.func667, Tryz.func671, Tryz.func679, Tryz.func694, Tryz.func703, Tryz.func714, Tryz.func736, Tryz.func737, Tryz.func738, Tryz.func743, Tryz.func753, Tryz.func754, Tryz.func755, Tryz.func756, Tryz.func761, Tryz.func762, Tryz.func764, Tryz.func767, Tryz.func778, Tryz.func779, Tryz.func784, Tryz.func798, Tryz.func801, Tryz.func802, Tryz.func803, Tryz.func805, Tryz.func806, Tryz.func808, Tryz.func819, Tryz.func820, Tryz.func823, Tryz.func824, Tryz.func825, Tryz.func828, Tryz.func830, Tryz.func831, Tryz.func832, Tryz.func833, trivial⟩
theorem fnsD_ok : FnsOkZ Tryz.prog fnsD := ⟨Tryz.func60, trivial⟩
theorem fnsB_ok : FnsOkZ Tryz.prog fnsB := ⟨Tryz.func48, Tryz.func50, Tryz.func64, Tryz.func68, Tryz.func106, Tryz.func107, Tryz.func109, Tryz.func113, Tryz.func114, Tryz.func115, Tryz.func116, Tryz.func117, Tryz.func118, Tryz.func119, Tryz.func120, Tryz.func121, Tryz.func147, Tryz.func148, Tryz.func155, Tryz.func178, Tryz.func180, Tryz.func183, Tryz.func184, Tryz.func185, Tryz.func186, Tryz.func187, Tryz.func188, Tryz.func189, Tryz.func190, Tryz.func191, Tryz.func192, Tryz.func193, Tryz.func194, Tryz.func197, Tryz.func198, Tryz.func201, Tryz.func202, Tryz.func203, Tryz.func204, Tryz.func206, Tryz.func208, Tryz.func236, Tryz.func237, Tryz.func239, Tryz.func240, Tryz.func290, Tryz.func294, Tryz.func296, Tryz.func298, Tryz.func299, Tryz.func300, Tryz.func301, Tryz.func302, Tryz.func303, Tryz.func304, Tryz.func307, Tryz.func308, Tryz.func309, Tryz.func310, Tryz.func311, Tryz.func312, Tryz.func314, Tryz.func315, Tryz.func316, Tryz.func317, Tryz.func351, Tryz.func354, Tryz.func355, Tryz.func356, Tryz.func357, Tryz.func400, Tryz.func440, Tryz.func441, Tryz.func442, Tryz.func443, Tryz.func444, Tryz.func445, Tryz.func446, Tryz.func447, Tryz.func448, Tryz.func449, Tryz.func450, Tryz.func452, Tryz.func453, Tryz.func454, Tryz.func455, Tryz.func456, Tryz.func457, Tryz.func460, Tryz.func512, Tryz.func514, Tryz.func515, Tryz.func516, Tryz.func555, Tryz.func606, Tryz.func607, Tryz.func608, Tryz.func610, Tryz.func611, Tryz.func613, Tryz.func616, Tryz.func618, Tryz.func619, Tryz.func642, Tryz.func737, Tryz.func738, Tryz.func746, trivial⟩
theorem fnsP_ok : FnsOkZ Tryz.prog fnsP := ⟨Tryz.func50, Tryz.func68, Tryz.func106, Tryz.func107, Tryz.func109, Tryz.func178, Tryz.func180, Tryz.func190, Tryz.func239, Tryz.func240, Tryz.func290, Tryz.func294, Tryz.func309, Tryz.func310, Tryz.func311, Tryz.func312, Tryz.func351, Tryz.func356, Tryz.func357, Tryz.func400, Tryz.func446, Tryz.func447, Tryz.func448, Tryz.func449, Tryz.func450, Tryz.func452, Tryz.func453, Tryz.func454, Tryz.func455, Tryz.func456, Tryz.func457, Tryz.func512, Tryz.func555, Tryz.func610, Tryz.func611, Tryz.func613, Tryz.func616, Tryz.func618, Tryz.func619, Tryz.func642, Tryz.func737, Tryz.func738, Tryz.func746, trivial⟩
theorem fnsX0_ok : FnsOkZ Tryz.prog fnsX0 := ⟨Tryz.func44, Tryz.func48, Tryz.func49, Tryz.func80, Tryz.func143, Tryz.func147, Tryz.func148, Tryz.func191, Tryz.func193, Tryz.func204, Tryz.func208, Tryz.func236, Tryz.func237, Tryz.func239, Tryz.func266, Tryz.func267, Tryz.func268, Tryz.func314, Tryz.func315, Tryz.func316, Tryz.func317, Tryz.func323, Tryz.func351, Tryz.func354, Tryz.func355, Tryz.func356, Tryz.func357, Tryz.func383, Tryz.func390, Tryz.func391, Tryz.func392, Tryz.func393, Tryz.func395, Tryz.func397, Tryz.func409, Tryz.func423, Tryz.func426, Tryz.func433, Tryz.func441, Tryz.func460, Tryz.func468, Tryz.func469, Tryz.func470, Tryz.func471, Tryz.func512, Tryz.func514, Tryz.func515, Tryz.func516, Tryz.func524, Tryz.func525, Tryz.func542, Tryz.func543, Tryz.func544, Tryz.func578, Tryz.func579, Tryz.func605, Tryz.func642, Tryz.func649, Tryz.func652, Tryz.func653, Tryz.func654, Tryz.func655, Tryz.func672, Tryz.func679, Tryz.func702, Tryz.func703, Tryz.func736, Tryz.func738, Tryz.func746, Tryz.func749, Tryz.func767, Tryz.func808, Tryz.func809, Tryz.func810, Tryz.func812, Tryz.func813, Tryz.func828, trivial⟩
theorem fnsX1_ok : FnsOkZ Tryz.prog fnsX1 := ⟨Tryz.func41, Tryz.func44, Tryz.func48, Tryz.func49, Tryz.func80, Tryz.func85, Tryz.func102, Tryz.func143, Tryz.func147, Tryz.func148, Tryz.func155, Tryz.func166, Tryz.func173, Tryz.func186, Tryz.func191, Tryz.func193, Tryz.func204, Tryz.func208, Tryz.func220, Tryz.func225, Tryz.func235, Tryz.func236, Tryz.func237, Tryz.func239, Tryz.func261, Tryz.func262, Tryz.func263, Tryz.func266, Tryz.func267, Tryz.func268, Tryz.func270, Tryz.func283, Tryz.func314, Tryz.func315, Tryz.func316, Tryz.func317, Tryz.func323, Tryz.func337, Tryz.func351, Tryz.func353, Tryz.func354, Tryz.func355, Tryz.func356, Tryz.func357, Tryz.func378, Tryz.func380, Tryz.func381, Tryz.func382, Tryz.func383, Tryz.func384, Tryz.func385, Tryz.func390, Tryz.func391, Tryz.func392, Tryz.func393, Tryz.func395, Tryz.func397, Tryz.func400, Tryz.func401, Tryz.func409, Tryz.func423, Tryz.func424, Tryz.func426, Tryz.func441, Tryz.func460, Tryz.func468, Tryz.func469, Tryz.func470, Tryz.func471, Tryz.func473, Tryz.func512, Tryz.func514, Tryz.func515, Tryz.func516, Tryz.func523, Tryz.func524, Tryz.func525, Tryz.func526, Tryz.func530, Tryz.func531, Tryz.func532, Tryz.func533, Tryz.func534, Tryz.func535, Tryz.func536, Tryz.func537, Tryz.func540, Tryz.func542, Tryz.func543, Tryz.func544, Tryz.func549, Tryz.func550, Tryz.func555, Tryz.func578, Tryz.func579, Tryz.func627, Tryz.func628, Tryz.func629, Tryz.func642, Tryz.func647, Tryz.func648, Tryz.func649, Tryz.func650, Tryz.func652, Tryz.func653, Tryz.func654, Tryz.func655, Tryz.func656, Tryz.func657, Tryz.func658, Tryz.func659, Tryz.func660, Tryz.func661, Tryz.func662, Tryz.func663, Tryz.func664, Tryz.func666, Tryz.func667, Tryz.func671, Tryz.func672, Tryz.func675, Tryz.func677, Tryz.func678, Tryz.func679, Tryz.func694, Tryz.func702, Tryz.func703, Tryz.func714, Tryz.func736, Tryz.func738, Tryz.func746, Tryz.func749, Tryz.func750, Tryz.func751, Tryz.func753, Tryz.func754, Tryz.func755, Tryz.func756, Tryz.func758, Tryz.func759, Tryz.func760, Tryz.func761, Tryz.func762, Tryz.func764, Tryz.func767, Tryz.func778, Tryz.func779, Tryz.func784, Tryz.func798, Tryz.func801, Tryz.func802, Tryz.func803, Tryz.func804, Tryz.func805, Tryz.func806, Tryz.func807, Tryz.func808, Tryz.func809, Tryz.func810, Tryz.func812, Tryz.func813, Tryz.func819, Tryz.func820, Tryz.func823, Tryz.func824, Tryz.func825, Tryz.func826, Tryz.func827, Tryz.func828, Tryz.func830, Tryz.func831, Tryz.func832, Tryz.func833, trivial⟩
theorem fnsX2_ok : FnsOkZ Tryz.prog fnsX2 := ⟨Tryz.func80, Tryz.func143, Tryz.func191, Tryz.func193, Tryz.func204, Tryz.func208, Tryz.func267, Tryz.func268, Tryz.func314, Tryz.func315, Tryz.func316, Tryz.func317, Tryz.func323, Tryz.func395, Tryz.func426, Tryz.func460, Tryz.func468, Tryz.func469, Tryz.func470, Tryz.func471, Tryz.func544, Tryz.func578, Tryz.func579, Tryz.func702, Tryz.func703, trivial⟩
theorem fnsX3_ok : FnsOkZ Tryz.prog fnsX3 := ⟨Tryz.func193, Tryz.func204, Tryz.func208, Tryz.func315, Tryz.func316, Tryz.func317, Tryz.func460, trivial⟩
theorem fnsX4_ok : FnsOkZ Tryz.prog fnsX4 := ⟨Tryz.func143, Tryz.func191, Tryz.func314, trivial⟩
theorem fnsX5_ok : FnsOkZ Tryz.prog fnsX5 := ⟨Tryz.func525, Tryz.func649, Tryz.func655, Tryz.func738, Tryz.func749, trivial⟩
theorem fnsO_ok : FnsOkZ Tryz.prog fnsO := FnsOkZ.app fnsZ_ok ⟨Tryz.func7, Tryz.func15, Tryz.func18, Tryz.func43, Tryz.func86, Tryz.func87, Tryz.func88, Tryz.func89, Tryz.func90, Tryz.func106, Tryz.func107, Tryz.func109, Tryz.func132, Tryz.func141, Tryz.func142, Tryz.func144, Tryz.func145, Tryz.func146, Tryz.func178, Tryz.func180, Tryz.func221, Tryz.func229, Tryz.func230, Tryz.func231, Tryz.func232, Tryz.func233, Tryz.func234, Tryz.func248, Tryz.func290, Tryz.func348, Tryz.func363, Tryz.func453, Tryz.func616, Tryz.func849, trivial⟩
theorem fnsM_ok : FnsOkZ Tryz.prog fnsM := ⟨Tryz.func15, Tryz.func43, Tryz.func44, Tryz.func45, Tryz.func48, Tryz.func50, Tryz.func68, Tryz.func86, Tryz.func87, Tryz.func88, Tryz.func89, Tryz.func90, Tryz.func106, Tryz.func107, Tryz.func109, Tryz.func141, Tryz.func142, Tryz.func143, Tryz.func144, Tryz.func145, Tryz.func146, Tryz.func147, Tryz.func148, Tryz.func178, Tryz.func180, Tryz.func190, Tryz.func191, Tryz.func229, Tryz.func230, Tryz.func231, Tryz.func232, Tryz.func233, Tryz.func234, Tryz.func235, Tryz.func236, Tryz.func237, Tryz.func239, Tryz.func240, Tryz.func290, Tryz.func294, Tryz.func309, Tryz.func310, Tryz.func311, Tryz.func312, Tryz.func314, Tryz.func348, Tryz.func351, Tryz.func353, Tryz.func354, Tryz.func355, Tryz.func356, Tryz.func357, Tryz.func400, Tryz.func446, Tryz.func447, Tryz.func448, Tryz.func449, Tryz.func450, Tryz.func452, Tryz.func453, Tryz.func454, Tryz.func455, Tryz.func456, Tryz.func457, Tryz.func512, Tryz.func514, Tryz.func515, Tryz.func516, Tryz.func555, Tryz.func610, Tryz.func611, Tryz.func613, Tryz.func616, Tryz.func618, Tryz.func619, Tryz.func642, Tryz.func737, Tryz.func738, Tryz.func746, trivial⟩
theorem fnsC_ok : FnsOkZ Tryz.prog fnsC := FnsOkZ.app fnsZ_ok ⟨Tryz.func4, Tryz.func9, Tryz.func10, Tryz.func11, Tryz.func18, Tryz.func28, Tryz.func29, Tryz.func69, Tryz.func70, Tryz.func71, Tryz.func72, Tryz.func73, trivial⟩
theorem fnsA_ok : FnsOkZ Tryz.prog fnsA := FnsOkZ.app fnsZ_ok ⟨Tryz.func5, Tryz.func9, Tryz.func10, Tryz.func11, Tryz.func19, Tryz.func28, Tryz.func29, Tryz.func51, Tryz.func69, Tryz.func70, Tryz.func71, Tryz.func72, Tryz.func73, trivial⟩
theorem fnsT_ok : FnsOkZ Tryz.prog fnsT := ⟨Tryz.func6, Tryz.func9, Tryz.func10, Tryz.func11, Tryz.func12, Tryz.func13, Tryz.func14, Tryz.func19, Tryz.func23, Tryz.func24, Tryz.func25, Tryz.func26, Tryz.func27, Tryz.func28, Tryz.func29, Tryz.func30, Tryz.func31, Tryz.func32, Tryz.func33, Tryz.func34, Tryz.func35, Tryz.func36, Tryz.func37, Tryz.func38, Tryz.func39, Tryz.func40, Tryz.func41, Tryz.func42, Tryz.func44, Tryz.func48, Tryz.func50, Tryz.func51, Tryz.func53, Tryz.func65, Tryz.func66, Tryz.func67, Tryz.func68, Tryz.func69, Tryz.func70, Tryz.func71, Tryz.func72, Tryz.func73, Tryz.func74, Tryz.func75, Tryz.func76, Tryz.func77, Tryz.func78, Tryz.func79, Tryz.func80, Tryz.func81, Tryz.func82, Tryz.func84, Tryz.func85, Tryz.func94, Tryz.func95, Tryz.func96, Tryz.func102, Tryz.func122, Tryz.func123, Tryz.func124, Tryz.func125, Tryz.func126, Tryz.func128, Tryz.func129, Tryz.func130, Tryz.func131, Tryz.func133, Tryz.func134, Tryz.func135, Tryz.func136, Tryz.func137, Tryz.func138, Tryz.func140, Tryz.func143, Tryz.func147, Tryz.func148, Tryz.func153, Tryz.func154, Tryz.func155, Tryz.func158, Tryz.func159, Tryz.func160, Tryz.func166, Tryz.func173, Tryz.func186, Tryz.func191, Tryz.func193, Tryz.func204, Tryz.func208, Tryz.func210, Tryz.func211, Tryz.func212, Tryz.func216, Tryz.func219, Tryz.func220, Tryz.func222, Tryz.func223, Tryz.func224, Tryz.func225, Tryz.func226, Tryz.func227, Tryz.func228, Tryz.func235, Tryz.func236, Tryz.func237, Tryz.func239, Tryz.func240, Tryz.func251, Tryz.func252, Tryz.func253, Tryz.func254, Tryz.func261, Tryz.func266, Tryz.func267, Tryz.func270, Tryz.func283, Tryz.func314, Tryz.func315, Tryz.func316, Tryz.func317, Tryz.func319, Tryz.func320, Tryz.func321, Tryz.func322, Tryz.func323, Tryz.func324, Tryz.func329, Tryz.func331, Tryz.func332, Tryz.func335, Tryz.func336, Tryz.func337, Tryz.func338, Tryz.func347, Tryz.func351, Tryz.func353, Tryz.func354, Tryz.func355, Tryz.func356, Tryz.func357, Tryz.func366, Tryz.func367, Tryz.func368, Tryz.func369, Tryz.func370, Tryz.func371, Tryz.func372, Tryz.func373, Tryz.func374, Tryz.func375, Tryz.func379, Tryz.func380, Tryz.func381, Tryz.func382, Tryz.func390, Tryz.func391, Tryz.func392, Tryz.func393, Tryz.func400, Tryz.func401, Tryz.func424, Tryz.func426, Tryz.func433, Tryz.func441, Tryz.func452, Tryz.func460, Tryz.func461, Tryz.func462, Tryz.func464, Tryz.func465, Tryz.func466, Tryz.func467, Tryz.func468, Tryz.func469, Tryz.func470, Tryz.func471, Tryz.func473, Tryz.func496, Tryz.func497, Tryz.func499, Tryz.func500, Tryz.func501, Tryz.func502, Tryz.func503, Tryz.func512, Tryz.func514, Tryz.func515, Tryz.func516, Tryz.func519, Tryz.func520, Tryz.func521, Tryz.func522, Tryz.func524, Tryz.func525, Tryz.func527, Tryz.func528, Tryz.func529, Tryz.func530, Tryz.func531, Tryz.func536, Tryz.func542, Tryz.func543, Tryz.func549, Tryz.func550, Tryz.func551, Tryz.func552, Tryz.func555, Tryz.func613, Tryz.func620, Tryz.func621, Tryz.func627, Tryz.func628, Tryz.func629, Tryz.func635, Tryz.func637, Tryz.func638, Tryz.func639, Tryz.func642, Tryz.func649, Tryz.func652, Tryz.func653, Tryz.func654, Tryz.func655, Tryz.func656, Tryz.func657, Tryz.func658, Tryz.func661, Tryz.func662, Tryz.func672, Tryz.func675, Tryz.func677, Tryz.func678, Tryz.func679, Tryz.func694, Tryz.func738, Tryz.func743, Tryz.func744, Tryz.func746, Tryz.func749, Tryz.func753, Tryz.func754, Tryz.func755, Tryz.func756, Tryz.func767, Tryz.func778, Tryz.func779, Tryz.func798, Tryz.func801, Tryz.func802, Tryz.func803, Tryz.func804, Tryz.func805, Tryz.func806, Tryz.func808, Tryz.func809, Tryz.func810, Tryz.func819, Tryz.func820, Tryz.func823, Tryz.func824, Tryz.func825, Tryz.func826, Tryz.func827, Tryz.func828, Tryz.func830, Tryz.func831, Tryz.func832, Tryz.func833, trivial⟩
theorem fnsR_ok : FnsOkZ Tryz.prog fnsR := ⟨Tryz.func3, trivial⟩
theorem noNG : NoNG Tryz.prog := by
  have h : (Tryz.prog.funcs.toList.all fun fn => !(fn.name == "runtime.NumGoroutine")) = true := by kernel_rfl
  intro f fn hf
  rw [List.all_eq_true] at h
  have hm : fn ∈ Tryz.prog.funcs.toList := Array.mem_toList_iff.2 (Array.mem_of_getElem? hf)
  simpa using h fn hm
theorem failD_good {ν : Nu} {f : Nat} : FnGood Tryz.prog ν f failD := by
  intro cf _ args h kr kp hk
  cases hk
end Go.Proofs.YtmkekbogeniehaaGreatDoor
namespace Go.Proofs.YtmkekbogeniehaaGreatDoor
open Go Go.Abs
set_option maxRecDepth 100000
set_option maxHeartbeats 0
open Go.RowKit (Below)
theorem rem_ok (t : TypeId) (w : World) (x c : Int) (hx : 0 ≤ x) (hx2 : x ≤ 255) (hc : 0 < c) (hc2 : c ≤ 255) : (binOp .rem t (.int .u8 x) (.int .u8 c)).run Tryz.prog w = .ok (.int .u8 (x % c)) w := by
  have h1 : ¬ (c = 0) := by omega
  simp [binOp, Op.intDiv, h1, Int.tmod_eq_emod_of_nonneg hx]
theorem quo_ok (t : TypeId) (w : World) (x c : Int) (hx : 0 ≤ x) (hx2 : x ≤ 255) (hc : 0 < c) (hc2 : c ≤ 255) : (binOp .quo t (.int .u8 x) (.int .u8 c)).run Tryz.prog w = .ok (.int .u8 (x / c)) w := by
  have h1 : ¬ (c = 0) := by omega
  have h2 : 0 ≤ x / c := Int.ediv_nonneg hx (by omega)
  have h3 : x / c ≤ x := Int.ediv_le_self c hx
  have h4 : IntKind.u8.wrap (x / c) = x / c := Go.Abs.wrap_small IntKind.u8 _ (by simp [loK]; omega) (by simp [hiK]; omega)
  simp [binOp, Op.intDiv, h1, Int.tdiv_eq_ediv_of_nonneg hx, h4]
theorem sym_nil {ν : Nu} : SymOk Tryz.prog ν [] := fun q hq => by cases hq

/-! ### what the world holds -/
theorem shaped_at {W : World} (h : W.ShapedOpen Tryz.prog) (g : Nat) (t : TypeId) (hg : g < Tryz.prog.globals.size) (h0 : (((begin Tryz.prog (fun _ _ => 0) default).world.heap[g]?).bind Obj.row?).map (·.2) = some t) :
    ∃ cs, W.heap[g]? = some (.cells cs t) := by
  obtain ⟨⟨zero, t'⟩, hz, rfl⟩ := Option.map_eq_some_iff.1 h0
  obtain ⟨cs, hc, _⟩ := h.1 g zero t' hg hz
  exact ⟨cs, hc⟩
theorem obj_of {W : World} {name : String} {g : Nat} {k : IntKind} {zs : List Int} {cs : Array Value} {t : TypeId} {fr : Nat × Nat} (hn : Tryz.prog.globalNamed name = some g) (hh : W.heap[g]? = some (.cells cs t fr)) (hT : Lib.TabIs Tryz.prog W name k zs) :
    cs = (zs.map fun z => Value.int k z).toArray := by
  unfold Lib.TabIs World.var? at hT
  rw [hn] at hT
  simpa [hh] using hT
/-- the blocks that the run reads -/
structure Facts (W : World) : Prop where
  gA : ∃ fr, W.heap[0]? = some (.cells (Lib.asciiSpaceTab.map fun z => Value.int .u8 z).toArray 243 fr)
  gM : ∃ m fr, W.heap[3]? = some (.cells #[.int .i64 m] 3 fr)
  t0 : ∃ fr, W.heap[8]? = some ((⟨8, gU [36, 43, 45], 795⟩ : Gl).obj fr)
  t1 : ∃ fr, W.heap[9]? = some ((⟨9, gU [63, 15, 63, 15, 61, 61], 869⟩ : Gl).obj fr)
  t2 : ∃ fr, W.heap[10]? = some ((⟨10, [.t [84, 82, 85, 78, 67, 65, 84, 73, 79, 78], .t [78, 69, 65, 82, 69, 83, 84, 45, 65, 87, 65, 89, 45, 70, 82, 79, 77, 45, 90, 69, 82, 79], .t [78, 69, 65, 82, 69, 83, 84, 45, 69, 86, 69, 78], .t [78, 69, 65, 82, 69, 83, 84, 45, 84, 79, 87, 65, 82, 68, 45, 90, 69, 82, 79], .t [65, 87, 65, 89, 45, 70, 82, 79, 77, 45, 90, 69, 82, 79], .t [84, 79, 87, 65, 82, 68, 45, 71, 82, 69, 65, 84, 69, 82], .t [84, 79, 87, 65, 82, 68, 45, 76, 69, 83, 83, 69, 82], .t [80, 82, 79, 72, 73, 66, 73, 84, 69, 68]], 911⟩ : Gl).obj fr)
  gP : ∃ fr, W.heap[2]? = some (.cells (Lib.pow10Tab.map fun z => Value.int .u64 z).toArray 439 fr)
theorem namedP : Tryz.prog.globalNamed "internal/strconv.uint64pow10" = some 2 := by kernel_rfl
theorem named0 : Tryz.prog.globalNamed "strings.asciiSpace" = some 0 := by kernel_rfl
theorem globsW : Tryz.prog.globals.size = 15 := by kernel_rfl
theorem nu_of {W : World} (hF : Facts W) (X : List (Nat × Obj)) (hX : ∀ b o, (b, o) ∈ X → W.heap[b]? = some o) : ∃ G : List (Nat × Obj), (∀ b o, (b, o) ∈ G → W.heap[b]? = some o) ∧ (∀ f V, TabCell Tryz.prog ⟨f, G, V⟩ "strings.asciiSpace" .u8 Lib.asciiSpaceTab) ∧ (∀ f V, IntCell ⟨f, G, V⟩ 3) ∧
    (∀ q ∈ gls, ∃ fr, (q.g, q.obj fr) ∈ G) ∧ ∀ q ∈ X, q ∈ G := by
  obtain ⟨⟨f0, h0⟩, ⟨m, f3, h3⟩, ⟨e0, k0⟩, ⟨e1, k1⟩, ⟨e2, k2⟩, _⟩ := hF
  refine ⟨(0, Obj.cells (Lib.asciiSpaceTab.map fun z => Value.int .u8 z).toArray 243 f0) :: (3, Obj.cells #[.int .i64 m] 3 f3) :: (8, (⟨8, gU [36, 43, 45], 795⟩ : Gl).obj e0) :: (9, (⟨9, gU [63, 15, 63, 15, 61, 61], 869⟩ : Gl).obj e1) :: (10, (⟨10, [.t [84, 82, 85, 78, 67, 65, 84, 73, 79, 78], .t [78, 69, 65, 82, 69, 83, 84, 45, 65, 87, 65, 89, 45, 70, 82, 79, 77, 45, 90, 69, 82, 79], .t [78, 69, 65, 82, 69, 83, 84, 45, 69, 86, 69, 78], .t [78, 69, 65, 82, 69, 83, 84, 45, 84, 79, 87, 65, 82, 68, 45, 90, 69, 82, 79], .t [65, 87, 65, 89, 45, 70, 82, 79, 77, 45, 90, 69, 82, 79], .t [84, 79, 87, 65, 82, 68, 45, 71, 82, 69, 65, 84, 69, 82], .t [84, 79, 87, 65, 82, 68, 45, 76, 69, 83, 83, 69, 82], .t [80, 82, 79, 72, 73, 66, 73, 84, 69, 68]], 911⟩ : Gl).obj e2) :: X, fun b o hb => ?_, fun f _ => ⟨0, 243, f0, named0, ?_⟩, fun f _ => ⟨m, 3, f3, ?_⟩, fun q hq => ?_, fun q hq => List.mem_cons_of_mem _ (List.mem_cons_of_mem _ (List.mem_cons_of_mem _ (List.mem_cons_of_mem _ (List.mem_cons_of_mem _ hq))))⟩
  rotate_left
  · exact List.mem_cons_self
  · exact List.mem_cons_of_mem _ List.mem_cons_self
  · simp only [gls, List.mem_cons, List.mem_nil_iff, or_false] at hq
    rcases hq with rfl | rfl | rfl
    · exact ⟨e0, List.mem_cons_of_mem _ (List.mem_cons_of_mem _ (List.mem_cons_self))⟩
    · exact ⟨e1, List.mem_cons_of_mem _ (List.mem_cons_of_mem _ (List.mem_cons_of_mem _ (List.mem_cons_self)))⟩
    · exact ⟨e2, List.mem_cons_of_mem _ (List.mem_cons_of_mem _ (List.mem_cons_of_mem _ (List.mem_cons_of_mem _ (List.mem_cons_self))))⟩
  · simp only [List.mem_cons, Prod.mk.injEq] at hb
    rcases hb with ⟨rfl, rfl⟩ | ⟨rfl, rfl⟩ | ⟨rfl, rfl⟩ | ⟨rfl, rfl⟩ | ⟨rfl, rfl⟩ | hb
    · exact h0
    · exact h3
    · exact k0
    · exact k1
    · exact k2
    · exact hX b o hb
theorem hs_HR {ν : Nu} (hG : ∀ q ∈ gls, ∃ fr, (q.g, q.obj fr) ∈ ν.G) {w : World} (hw : ∀ b o, (b, o) ∈ ν.G → w.heap[b]? = some o) : HR (phiOf gls) ν hs w := by
  refine h0_HR (by decide) ?_ ?_ ?_ ?_ hG hw
  · intro q hq; simp only [gls, List.mem_cons, List.mem_nil_iff, or_false] at hq; rcases hq with rfl | rfl | rfl <;> decide
  · intro q hq; simp only [gls, List.mem_cons, List.mem_nil_iff, or_false] at hq; rcases hq with rfl | rfl | rfl <;> decide
  · decide +kernel
  · intro g hg
    unfold gver at hg
    cases hb0 : Nat.beq g 8 with
    | true =>
      have e := Nat.eq_of_beq_eq_true hb0
      subst e
      exact ⟨⟨8, gU [36, 43, 45], 795⟩, by simp [gls], rfl, rfl⟩
    | false =>
      first | rw [hb0, cond_false] at hg | rw [cond_false] at hg
      cases hb1 : Nat.beq g 9 with
      | true =>
        have e := Nat.eq_of_beq_eq_true hb1
        subst e
        exact ⟨⟨9, gU [63, 15, 63, 15, 61, 61], 869⟩, by simp [gls], rfl, rfl⟩
      | false =>
        first | rw [hb1, cond_false] at hg | rw [cond_false] at hg
        cases hb2 : Nat.beq g 10 with
        | true =>
          have e := Nat.eq_of_beq_eq_true hb2
          subst e
          exact ⟨⟨10, [.t [84, 82, 85, 78, 67, 65, 84, 73, 79, 78], .t [78, 69, 65, 82, 69, 83, 84, 45, 65, 87, 65, 89, 45, 70, 82, 79, 77, 45, 90, 69, 82, 79], .t [78, 69, 65, 82, 69, 83, 84, 45, 69, 86, 69, 78], .t [78, 69, 65, 82, 69, 83, 84, 45, 84, 79, 87, 65, 82, 68, 45, 90, 69, 82, 79], .t [65, 87, 65, 89, 45, 70, 82, 79, 77, 45, 90, 69, 82, 79], .t [84, 79, 87, 65, 82, 68, 45, 71, 82, 69, 65, 84, 69, 82], .t [84, 79, 87, 65, 82, 68, 45, 76, 69, 83, 83, 69, 82], .t [80, 82, 79, 72, 73, 66, 73, 84, 69, 68]], 911⟩, by simp [gls], rfl, rfl⟩
        | false =>
          first | rw [hb2, cond_false] at hg | rw [cond_false] at hg
          exact absurd hg (Nat.lt_irrefl 0)
theorem phi_lim : ∀ id ver p, phiOf gls id ver = some p → id < hs.ro.lim := by
  intro id ver p h
  obtain ⟨q, hq, h1, _, _⟩ := phiOf_some h
  simp only [gls, List.mem_cons, List.mem_nil_iff, or_false] at hq
  show id < 16
  rw [← h1]
  rcases hq with rfl | rfl | rfl <;> decide
theorem phi_in {ν : Nu} (hG : ∀ q ∈ gls, ∃ fr, (q.g, q.obj fr) ∈ ν.G) : ∀ id ver p, phiOf gls id ver = some p → ∃ o, (p.blk, o) ∈ ν.G := by
  intro id ver p h
  obtain ⟨q, hq, h1, h2, rfl⟩ := phiOf_some h
  obtain ⟨fr, hm⟩ := hG q hq
  exact ⟨_, hm⟩

theorem memoAll_mem {t : T4 FnD TD} {f : Nat} {ms : List Memo2} (h : memoAll t f ms = true) : ∀ m ∈ ms, runF t 60 f m.args (m.h0 gls 16) (memoK0 m) (fun _ _ => false) = true := by
  induction ms with
  | nil => intro m hm; cases hm
  | cons a l ih =>
    have h' : andB (runF t 60 f a.args (a.h0 gls 16) (memoK0 a) (fun _ _ => false)) (memoAll t f l) = true := h
    obtain ⟨h1, h2⟩ := andB_true h'
    intro m hm
    rcases List.mem_cons.1 hm with rfl | hm
    · exact h1
    · exact ih h2 m hm

/-! ### the runs, put to use -/
/-- what the kernel ran, but for the cases -/
structure Stages : Prop where
  words : runW = true
  s2_true : run2_true = true
  s3_dat : run3_dat = true
  s4_lay : run4_lay = true
  s5_tabPic : run5_tabPic = true
  s6_x0g0 : run6_x0g0 = true
  s6_x0g1 : run6_x0g1 = true
  s6_x0g2 : run6_x0g2 = true
  s6_x0g3 : run6_x0g3 = true
  s6_x0g4 : run6_x0g4 = true
  s6_x0g5 : run6_x0g5 = true
  s6_x1g0 : run6_x1g0 = true
  s6_x1g1 : run6_x1g1 = true
  s6_x1g2 : run6_x1g2 = true
  s6_x1g3 : run6_x1g3 = true
  s6_x1g4 : run6_x1g4 = true
  s6_x1g5 : run6_x1g5 = true
  s6_x1g6 : run6_x1g6 = true
  s6_x1g7 : run6_x1g7 = true
  s6_x1g8 : run6_x1g8 = true
  s6_x1g9 : run6_x1g9 = true
  s6_x2g0 : run6_x2g0 = true
  s6_x2g1 : run6_x2g1 = true
  s6_x3g0 : run6_x3g0 = true
  s6_x3g1 : run6_x3g1 = true
  s6_x4g0 : run6_x4g0 = true
  s6_x4g1 : run6_x4g1 = true
  s6_x5g0 : run6_x5g0 = true
  s6_x5g1 : run6_x5g1 = true
  s7_g0 : run7_g0 = true
  s7_g1 : run7_g1 = true
  s7_g2 : run7_g2 = true
  s7_g3 : run7_g3 = true
  s7_g4 : run7_g4 = true
  s7_g5 : run7_g5 = true
  s7_g6 : run7_g6 = true
  s7_g7 : run7_g7 = true
  s7_g8 : run7_g8 = true
  s7_g9 : run7_g9 = true
  s7_g10 : run7_g10 = true
  s7_g11 : run7_g11 = true
  s7_g12 : run7_g12 = true
  s7_g13 : run7_g13 = true
  s7_g14 : run7_g14 = true
  s7_g15 : run7_g15 = true
  s7_g16 : run7_g16 = true
  s7_g17 : run7_g17 = true
  s7_g18 : run7_g18 = true
  s7_g19 : run7_g19 = true
  s7_g20 : run7_g20 = true
  s7_g21 : run7_g21 = true
  s7_g22 : run7_g22 = true
  s7_g23 : run7_g23 = true
  s7_g24 : run7_g24 = true
  s7_g25 : run7_g25 = true
  s7_g26 : run7_g26 = true
  s7_g27 : run7_g27 = true
  s7_g28 : run7_g28 = true
  s7_g29 : run7_g29 = true
  s7_g30 : run7_g30 = true
  s7_g31 : run7_g31 = true
  s7_g32 : run7_g32 = true
  s7_g33 : run7_g33 = true
  s7_g34 : run7_g34 = true
  s7_g35 : run7_g35 = true
  s7_g36 : run7_g36 = true
  s7_g37 : run7_g37 = true
  s7_g38 : run7_g38 = true
  s7_g39 : run7_g39 = true
  s8_mac : run8_mac = true
  s8_mac2 : run8_mac2 = true
  s9_g0 : run9_g0 = true
  s9_g1 : run9_g1 = true
  s9_g2 : run9_g2 = true
  s9_g3 : run9_g3 = true
  s9_g4 : run9_g4 = true
  s9_g5 : run9_g5 = true
  s9_g6 : run9_g6 = true
  s9_g7 : run9_g7 = true
  s9_g8 : run9_g8 = true
  s9_g9 : run9_g9 = true
  s9_g10 : run9_g10 = true
  s9_g11 : run9_g11 = true
  s9_g12 : run9_g12 = true
  s9_g13 : run9_x13 = true
  s9_g14 : run9_g14 = true
  s9_g15 : run9_g15 = true
  s9_g16 : run9_g16 = true
  s9_g17 : run9_g17 = true
  s9_g18 : run9_x18 = true
  s9_g19 : run9_g19 = true
  s9_g20 : run9_g20 = true
  s9_g21 : run9_g21 = true
  s9_g22 : run9_g22 = true
  s9_g23 : run9_g23 = true
  s9_g24 : run9_g24 = true
  s9_g25 : run9_g25 = true
  s9_g26 : run9_g26 = true
  s9_g27 : run9_g27 = true
  s9_g28 : run9_g28 = true
  s9_g29 : run9_g29 = true
  s9_g30 : run9_g30 = true
  s9_g31 : run9_g31 = true
  s9_g32 : run9_g32 = true
  s9_g33 : run9_g33 = true
  s9_g34 : run9_g34 = true
  s9_g35 : run9_g35 = true
  s9_g36 : run9_g36 = true
  s9_g37 : run9_x37 = true
  s9_g38 : run9_g38 = true
  s9_g39 : run9_x39 = true
  s10_g0 : run10_g0 = true
  s10_g1 : run10_g1 = true
  s10_g2 : run10_g2 = true
  s10_g3 : run10_g3 = true
  s10_g4 : run10_g4 = true
  s10_g5 : run10_g5 = true
  s10_g6 : run10_g6 = true
  s10_g7 : run10_g7 = true
  s10_g8 : run10_g8 = true
  s10_g9 : run10_g9 = true
  s10_g10 : run10_g10 = true
  s10_g11 : run10_g11 = true
  s10_g12 : run10_g12 = true
  s10_g13 : run10_x13 = true
  s10_g14 : run10_g14 = true
  s10_g15 : run10_g15 = true
  s10_g16 : run10_g16 = true
  s10_g17 : run10_g17 = true
  s10_g18 : run10_x18 = true
  s10_g19 : run10_g19 = true
  s10_g20 : run10_g20 = true
  s10_g21 : run10_g21 = true
  s10_g22 : run10_g22 = true
  s10_g23 : run10_g23 = true
  s10_g24 : run10_g24 = true
  s10_g25 : run10_g25 = true
  s10_g26 : run10_g26 = true
  s10_g27 : run10_g27 = true
  s10_g28 : run10_g28 = true
  s10_g29 : run10_g29 = true
  s10_g30 : run10_g30 = true
  s10_g31 : run10_g31 = true
  s10_g32 : run10_g32 = true
  s10_g33 : run10_g33 = true
  s10_g34 : run10_g34 = true
  s10_g35 : run10_g35 = true
  s10_g36 : run10_g36 = true
  s10_g37 : run10_x37 = true
  s10_g38 : run10_g38 = true
  s10_g39 : run10_x39 = true
  s11_g0 : run11_g0 = true
  s11_g1 : run11_g1 = true
  s11_g2 : run11_g2 = true
  s11_g3 : run11_g3 = true
  s11_g4 : run11_g4 = true
  s11_g5 : run11_g5 = true
  s11_g6 : run11_g6 = true
  s11_g7 : run11_g7 = true
  s11_g8 : run11_g8 = true
  s11_g9 : run11_g9 = true
  s11_g10 : run11_g10 = true
  s11_g11 : run11_g11 = true
  s11_g12 : run11_g12 = true
  s11_g13 : run11_g13 = true
  s11_g14 : run11_g14 = true
  s11_g15 : run11_g15 = true
  s11_g16 : run11_g16 = true
  s11_g17 : run11_g17 = true
  s11_g18 : run11_g18 = true
  s11_g19 : run11_g19 = true
  s11_g20 : run11_g20 = true
  s11_g21 : run11_g21 = true
  s11_g22 : run11_g22 = true
  s11_g23 : run11_g23 = true
  s11_g24 : run11_g24 = true
  s11_g25 : run11_g25 = true
  s11_g26 : run11_g26 = true
  s11_g27 : run11_g27 = true
  s11_g28 : run11_g28 = true
  s11_g29 : run11_g29 = true
  s11_g30 : run11_g30 = true
  s11_g31 : run11_g31 = true
  s11_g32 : run11_g32 = true
  s11_g33 : run11_g33 = true
  s11_g34 : run11_g34 = true
  s11_g35 : run11_g35 = true
  s11_g36 : run11_g36 = true
  s11_g37 : run11_g37 = true
  s11_g38 : run11_g38 = true
  s11_g39 : run11_g39 = true
theorem tab1_ok {ν : Nu} (ht : TblOk Tryz.prog ν tab0) (h3 : IntCell ν 3) (hG : ∀ q ∈ gls, ∃ fr, (q.g, q.obj fr) ∈ ν.G) (R : Stages) : TblOk Tryz.prog ν tab1 := by
  obtain ⟨t', ht', h⟩ := mkTblZ_true noNG sym_nil (splitOk h3) fnsW_ok ht R.words
  unfold tab1
  exact ht.set (f := 609) (by omega) (FnGood.closed_map ht' h (fun w hw => hs_HR hG hw) phi_lim)
theorem tab2_ok {ν : Nu} (ht : TblOk Tryz.prog ν tab1) (h3 : IntCell ν 3) (hG : ∀ q ∈ gls, ∃ fr, (q.g, q.obj fr) ∈ ν.G) (R : Stages) : TblOk Tryz.prog ν tab2 := by
  obtain ⟨t', ht', h⟩ := mkTblZ_true noNG sym_nil (splitOk h3) fnsL_ok ht R.s2_true
  unfold tab2
  exact ht.set (f := 8) (by omega) (FnGood.closed_true ht' h (fun w hw => hs_HR hG hw) phi_lim)
theorem tab3_ok {ν : Nu} (ht : TblOk Tryz.prog ν tab2) (h3 : IntCell ν 3) (hG : ∀ q ∈ gls, ∃ fr, (q.g, q.obj fr) ∈ ν.G) (R : Stages) : TblOk Tryz.prog ν tab3 := by
  obtain ⟨u0, hu0, e0⟩ := mkTblZ_true noNG sym_nil (splitOk h3) fnsD_ok ht R.s3_dat
  unfold tab3
  exact ht.set (f := 60) (by omega) (FnGood.memo2 hu0 dat e0 (fun w hw => hs_HR hG hw) (phi_in hG) (by decide +kernel) (by decide +kernel) (by decide +kernel) failD_good)
theorem tab4_ok {ν : Nu} (ht : TblOk Tryz.prog ν tab3) (h3 : IntCell ν 3) (hG : ∀ q ∈ gls, ∃ fr, (q.g, q.obj fr) ∈ ν.G) (R : Stages) : TblOk Tryz.prog ν tab4 := by
  obtain ⟨u0, hu0, e0⟩ := mkTblZ_true noNG sym_nil (splitOk h3) fnsB_ok ht R.s4_lay
  unfold tab4
  exact ht.set (f := 64) (by omega) (FnGood.memo2 hu0 lay e0 (fun w hw => hs_HR hG hw) (phi_in hG) (by decide +kernel) (by decide +kernel) (by decide +kernel) failD_good)
theorem tab5_ok {ν : Nu} (ht : TblOk Tryz.prog ν tab4) (h3 : IntCell ν 3) (hG : ∀ q ∈ gls, ∃ fr, (q.g, q.obj fr) ∈ ν.G) (R : Stages) : TblOk Tryz.prog ν tab5 := by
  obtain ⟨t', ht', h⟩ := mkTblZ_true noNG sym_nil (splitOk h3) fnsP_ok ht R.s5_tabPic
  unfold tab5
  exact ht.set (f := 190) (by omega) (FnGood.strTab ht' (by kernel_rfl) h (fun w hw => hs_HR hG hw) phi_lim failD_good)
theorem cX {ν : Nu} (hG : ∀ q ∈ gls, ∃ fr, (q.g, q.obj fr) ∈ ν.G) {f : Nat} {t : T4 FnD TD} {m : Memo2} (hu : TblOk Tryz.prog ν t) (e : runF t 60 f m.args (m.h0 gls 16) (memoK0 m) (fun _ _ => false) = true) (h : 16 + m.ins.length ≤ 1024) {d : FnD} (hd : FnGood Tryz.prog ν f d) : FnGood Tryz.prog ν f (memoDF m 16 d) := FnGood.memo0f hu m e (fun w hw => hs_HR hG hw) (phi_in hG) h hd
theorem chX0_ok {ν : Nu} (ht : TblOk Tryz.prog ν tab5) (h3 : IntCell ν 3) (hG : ∀ q ∈ gls, ∃ fr, (q.g, q.obj fr) ∈ ν.G) (R : Stages) {d : FnD} (hd : FnGood Tryz.prog ν 433 d) : FnGood Tryz.prog ν 433 (chX0 d) := by
  obtain ⟨u0, hu0, e0⟩ := mkTblZ_true noNG sym_nil (splitOk h3) fnsX0_ok ht R.s6_x0g0
  obtain ⟨u1, hu1, e1⟩ := mkTblZ_true noNG sym_nil (splitOk h3) fnsX0_ok ht R.s6_x0g1
  obtain ⟨u2, hu2, e2⟩ := mkTblZ_true noNG sym_nil (splitOk h3) fnsX0_ok ht R.s6_x0g2
  obtain ⟨u3, hu3, e3⟩ := mkTblZ_true noNG sym_nil (splitOk h3) fnsX0_ok ht R.s6_x0g3
  obtain ⟨u4, hu4, e4⟩ := mkTblZ_true noNG sym_nil (splitOk h3) fnsX0_ok ht R.s6_x0g4
  obtain ⟨u5, hu5, e5⟩ := mkTblZ_true noNG sym_nil (splitOk h3) fnsX0_ok ht R.s6_x0g5
  exact (cX hG hu0 (memoAll_mem e0 sh00 (by simp)) (by decide +kernel) (cX hG hu0 (memoAll_mem e0 sh01 (by simp)) (by decide +kernel) (cX hG hu0 (memoAll_mem e0 sh02 (by simp)) (by decide +kernel) (cX hG hu0 (memoAll_mem e0 sh03 (by simp)) (by decide +kernel) (cX hG hu0 (memoAll_mem e0 sh04 (by simp)) (by decide +kernel) (cX hG hu0 (memoAll_mem e0 sh05 (by simp)) (by decide +kernel) (cX hG hu1 (memoAll_mem e1 sh06 (by simp)) (by decide +kernel) (cX hG hu1 (memoAll_mem e1 sh07 (by simp)) (by decide +kernel) (cX hG hu1 (memoAll_mem e1 sh08 (by simp)) (by decide +kernel) (cX hG hu1 (memoAll_mem e1 sh09 (by simp)) (by decide +kernel) (cX hG hu1 (memoAll_mem e1 sh10 (by simp)) (by decide +kernel) (cX hG hu1 (memoAll_mem e1 sh11 (by simp)) (by decide +kernel) (cX hG hu2 (memoAll_mem e2 sh12 (by simp)) (by decide +kernel) (cX hG hu2 (memoAll_mem e2 sh13 (by simp)) (by decide +kernel) (cX hG hu2 (memoAll_mem e2 sh14 (by simp)) (by decide +kernel) (cX hG hu2 (memoAll_mem e2 sh15 (by simp)) (by decide +kernel) (cX hG hu2 (memoAll_mem e2 sh16 (by simp)) (by decide +kernel) (cX hG hu2 (memoAll_mem e2 sh17 (by simp)) (by decide +kernel) (cX hG hu3 (memoAll_mem e3 sh18 (by simp)) (by decide +kernel) (cX hG hu3 (memoAll_mem e3 sh19 (by simp)) (by decide +kernel) (cX hG hu3 (memoAll_mem e3 sh20 (by simp)) (by decide +kernel) (cX hG hu3 (memoAll_mem e3 sh21 (by simp)) (by decide +kernel) (cX hG hu3 (memoAll_mem e3 sh22 (by simp)) (by decide +kernel) (cX hG hu3 (memoAll_mem e3 sh23 (by simp)) (by decide +kernel) (cX hG hu4 (memoAll_mem e4 sh24 (by simp)) (by decide +kernel) (cX hG hu4 (memoAll_mem e4 sh25 (by simp)) (by decide +kernel) (cX hG hu4 (memoAll_mem e4 sh26 (by simp)) (by decide +kernel) (cX hG hu4 (memoAll_mem e4 sh27 (by simp)) (by decide +kernel) (cX hG hu4 (memoAll_mem e4 sh28 (by simp)) (by decide +kernel) (cX hG hu4 (memoAll_mem e4 sh29 (by simp)) (by decide +kernel) (cX hG hu5 (memoAll_mem e5 sh30 (by simp)) (by decide +kernel) (cX hG hu5 (memoAll_mem e5 sh31 (by simp)) (by decide +kernel) hd))))))))))))))))))))))))))))))))
theorem chX1_ok {ν : Nu} (ht : TblOk Tryz.prog ν tab5) (h3 : IntCell ν 3) (hG : ∀ q ∈ gls, ∃ fr, (q.g, q.obj fr) ∈ ν.G) (R : Stages) {d : FnD} (hd : FnGood Tryz.prog ν 166 d) : FnGood Tryz.prog ν 166 (chX1 d) := by
  obtain ⟨u0, hu0, e0⟩ := mkTblZ_true noNG sym_nil (splitOk h3) fnsX1_ok ht R.s6_x1g0
  obtain ⟨u1, hu1, e1⟩ := mkTblZ_true noNG sym_nil (splitOk h3) fnsX1_ok ht R.s6_x1g1
  obtain ⟨u2, hu2, e2⟩ := mkTblZ_true noNG sym_nil (splitOk h3) fnsX1_ok ht R.s6_x1g2
  obtain ⟨u3, hu3, e3⟩ := mkTblZ_true noNG sym_nil (splitOk h3) fnsX1_ok ht R.s6_x1g3
  obtain ⟨u4, hu4, e4⟩ := mkTblZ_true noNG sym_nil (splitOk h3) fnsX1_ok ht R.s6_x1g4
  obtain ⟨u5, hu5, e5⟩ := mkTblZ_true noNG sym_nil (splitOk h3) fnsX1_ok ht R.s6_x1g5
  obtain ⟨u6, hu6, e6⟩ := mkTblZ_true noNG sym_nil (splitOk h3) fnsX1_ok ht R.s6_x1g6
  obtain ⟨u7, hu7, e7⟩ := mkTblZ_true noNG sym_nil (splitOk h3) fnsX1_ok ht R.s6_x1g7
  obtain ⟨u8, hu8, e8⟩ := mkTblZ_true noNG sym_nil (splitOk h3) fnsX1_ok ht R.s6_x1g8
  obtain ⟨u9, hu9, e9⟩ := mkTblZ_true noNG sym_nil (splitOk h3) fnsX1_ok ht R.s6_x1g9
  exact (cX hG hu0 (memoAll_mem e0 tst00 (by simp)) (by decide +kernel) (cX hG hu0 (memoAll_mem e0 tst01 (by simp)) (by decide +kernel) (cX hG hu0 (memoAll_mem e0 tst02 (by simp)) (by decide +kernel) (cX hG hu0 (memoAll_mem e0 tst03 (by simp)) (by decide +kernel) (cX hG hu0 (memoAll_mem e0 tst04 (by simp)) (by decide +kernel) (cX hG hu0 (memoAll_mem e0 tst05 (by simp)) (by decide +kernel) (cX hG hu1 (memoAll_mem e1 tst06 (by simp)) (by decide +kernel) (cX hG hu1 (memoAll_mem e1 tst07 (by simp)) (by decide +kernel) (cX hG hu1 (memoAll_mem e1 tst08 (by simp)) (by decide +kernel) (cX hG hu1 (memoAll_mem e1 tst09 (by simp)) (by decide +kernel) (cX hG hu1 (memoAll_mem e1 tst10 (by simp)) (by decide +kernel) (cX hG hu1 (memoAll_mem e1 tst11 (by simp)) (by decide +kernel) (cX hG hu2 (memoAll_mem e2 tst12 (by simp)) (by decide +kernel) (cX hG hu2 (memoAll_mem e2 tst13 (by simp)) (by decide +kernel) (cX hG hu2 (memoAll_mem e2 tst14 (by simp)) (by decide +kernel) (cX hG hu2 (memoAll_mem e2 tst15 (by simp)) (by decide +kernel) (cX hG hu2 (memoAll_mem e2 tst16 (by simp)) (by decide +kernel) (cX hG hu2 (memoAll_mem e2 tst17 (by simp)) (by decide +kernel) (cX hG hu3 (memoAll_mem e3 tst18 (by simp)) (by decide +kernel) (cX hG hu3 (memoAll_mem e3 tst19 (by simp)) (by decide +kernel) (cX hG hu3 (memoAll_mem e3 tst20 (by simp)) (by decide +kernel) (cX hG hu3 (memoAll_mem e3 tst21 (by simp)) (by decide +kernel) (cX hG hu3 (memoAll_mem e3 tst22 (by simp)) (by decide +kernel) (cX hG hu3 (memoAll_mem e3 tst23 (by simp)) (by decide +kernel) (cX hG hu4 (memoAll_mem e4 tst24 (by simp)) (by decide +kernel) (cX hG hu4 (memoAll_mem e4 tst25 (by simp)) (by decide +kernel) (cX hG hu4 (memoAll_mem e4 tst26 (by simp)) (by decide +kernel) (cX hG hu4 (memoAll_mem e4 tst27 (by simp)) (by decide +kernel) (cX hG hu4 (memoAll_mem e4 tst28 (by simp)) (by decide +kernel) (cX hG hu4 (memoAll_mem e4 tst29 (by simp)) (by decide +kernel) (cX hG hu5 (memoAll_mem e5 tst30 (by simp)) (by decide +kernel) (cX hG hu5 (memoAll_mem e5 tst31 (by simp)) (by decide +kernel) (cX hG hu5 (memoAll_mem e5 tst32 (by simp)) (by decide +kernel) (cX hG hu5 (memoAll_mem e5 tst33 (by simp)) (by decide +kernel) (cX hG hu5 (memoAll_mem e5 tst34 (by simp)) (by decide +kernel) (cX hG hu5 (memoAll_mem e5 tst35 (by simp)) (by decide +kernel) (cX hG hu6 (memoAll_mem e6 tst36 (by simp)) (by decide +kernel) (cX hG hu6 (memoAll_mem e6 tst37 (by simp)) (by decide +kernel) (cX hG hu6 (memoAll_mem e6 tst38 (by simp)) (by decide +kernel) (cX hG hu6 (memoAll_mem e6 tst39 (by simp)) (by decide +kernel) (cX hG hu6 (memoAll_mem e6 tst40 (by simp)) (by decide +kernel) (cX hG hu6 (memoAll_mem e6 tst41 (by simp)) (by decide +kernel) (cX hG hu7 (memoAll_mem e7 tst42 (by simp)) (by decide +kernel) (cX hG hu7 (memoAll_mem e7 tst43 (by simp)) (by decide +kernel) (cX hG hu7 (memoAll_mem e7 tst44 (by simp)) (by decide +kernel) (cX hG hu7 (memoAll_mem e7 tst45 (by simp)) (by decide +kernel) (cX hG hu7 (memoAll_mem e7 tst46 (by simp)) (by decide +kernel) (cX hG hu7 (memoAll_mem e7 tst47 (by simp)) (by decide +kernel) (cX hG hu8 (memoAll_mem e8 tst48 (by simp)) (by decide +kernel) (cX hG hu8 (memoAll_mem e8 tst49 (by simp)) (by decide +kernel) (cX hG hu8 (memoAll_mem e8 tst50 (by simp)) (by decide +kernel) (cX hG hu8 (memoAll_mem e8 tst51 (by simp)) (by decide +kernel) (cX hG hu8 (memoAll_mem e8 tst52 (by simp)) (by decide +kernel) (cX hG hu8 (memoAll_mem e8 tst53 (by simp)) (by decide +kernel) (cX hG hu9 (memoAll_mem e9 tst54 (by simp)) (by decide +kernel) (cX hG hu9 (memoAll_mem e9 tst55 (by simp)) (by decide +kernel) (cX hG hu9 (memoAll_mem e9 tst56 (by simp)) (by decide +kernel) (cX hG hu9 (memoAll_mem e9 tst57 (by simp)) (by decide +kernel) (cX hG hu9 (memoAll_mem e9 tst58 (by simp)) (by decide +kernel) (cX hG hu9 (memoAll_mem e9 tst59 (by simp)) (by decide +kernel) hd))))))))))))))))))))))))))))))))))))))))))))))))))))))))))))
theorem chX2_ok {ν : Nu} (ht : TblOk Tryz.prog ν tab5) (h3 : IntCell ν 3) (hG : ∀ q ∈ gls, ∃ fr, (q.g, q.obj fr) ∈ ν.G) (R : Stages) {d : FnD} (hd : FnGood Tryz.prog ν 426 d) : FnGood Tryz.prog ν 426 (chX2 d) := by
  obtain ⟨u0, hu0, e0⟩ := mkTblZ_true noNG sym_nil (splitOk h3) fnsX2_ok ht R.s6_x2g0
  obtain ⟨u1, hu1, e1⟩ := mkTblZ_true noNG sym_nil (splitOk h3) fnsX2_ok ht R.s6_x2g1
  exact (cX hG hu0 (memoAll_mem e0 res0 (by simp)) (by decide +kernel) (cX hG hu0 (memoAll_mem e0 res1 (by simp)) (by decide +kernel) (cX hG hu0 (memoAll_mem e0 res10 (by simp)) (by decide +kernel) (cX hG hu0 (memoAll_mem e0 res2 (by simp)) (by decide +kernel) (cX hG hu0 (memoAll_mem e0 res3 (by simp)) (by decide +kernel) (cX hG hu0 (memoAll_mem e0 res4 (by simp)) (by decide +kernel) (cX hG hu1 (memoAll_mem e1 res5 (by simp)) (by decide +kernel) (cX hG hu1 (memoAll_mem e1 res6 (by simp)) (by decide +kernel) (cX hG hu1 (memoAll_mem e1 res7 (by simp)) (by decide +kernel) (cX hG hu1 (memoAll_mem e1 res8 (by simp)) (by decide +kernel) (cX hG hu1 (memoAll_mem e1 res9 (by simp)) (by decide +kernel) hd)))))))))))
theorem chX3_ok {ν : Nu} (ht : TblOk Tryz.prog ν tab5) (h3 : IntCell ν 3) (hG : ∀ q ∈ gls, ∃ fr, (q.g, q.obj fr) ∈ ν.G) (R : Stages) {d : FnD} (hd : FnGood Tryz.prog ν 204 d) : FnGood Tryz.prog ν 204 (chX3 d) := by
  obtain ⟨u0, hu0, e0⟩ := mkTblZ_true noNG sym_nil (splitOk h3) fnsX3_ok ht R.s6_x3g0
  obtain ⟨u1, hu1, e1⟩ := mkTblZ_true noNG sym_nil (splitOk h3) fnsX3_ok ht R.s6_x3g1
  exact (cX hG hu0 (memoAll_mem e0 ix0 (by simp)) (by decide +kernel) (cX hG hu0 (memoAll_mem e0 ix1 (by simp)) (by decide +kernel) (cX hG hu0 (memoAll_mem e0 ix10 (by simp)) (by decide +kernel) (cX hG hu0 (memoAll_mem e0 ix2 (by simp)) (by decide +kernel) (cX hG hu0 (memoAll_mem e0 ix3 (by simp)) (by decide +kernel) (cX hG hu0 (memoAll_mem e0 ix4 (by simp)) (by decide +kernel) (cX hG hu1 (memoAll_mem e1 ix5 (by simp)) (by decide +kernel) (cX hG hu1 (memoAll_mem e1 ix6 (by simp)) (by decide +kernel) (cX hG hu1 (memoAll_mem e1 ix7 (by simp)) (by decide +kernel) (cX hG hu1 (memoAll_mem e1 ix8 (by simp)) (by decide +kernel) (cX hG hu1 (memoAll_mem e1 ix9 (by simp)) (by decide +kernel) hd)))))))))))
theorem chX4_ok {ν : Nu} (ht : TblOk Tryz.prog ν tab5) (h3 : IntCell ν 3) (hG : ∀ q ∈ gls, ∃ fr, (q.g, q.obj fr) ∈ ν.G) (R : Stages) {d : FnD} (hd : FnGood Tryz.prog ν 143 d) : FnGood Tryz.prog ν 143 (chX4 d) := by
  obtain ⟨u0, hu0, e0⟩ := mkTblZ_true noNG sym_nil (splitOk h3) fnsX4_ok ht R.s6_x4g0
  obtain ⟨u1, hu1, e1⟩ := mkTblZ_true noNG sym_nil (splitOk h3) fnsX4_ok ht R.s6_x4g1
  exact (cX hG hu0 (memoAll_mem e0 pc0 (by simp)) (by decide +kernel) (cX hG hu0 (memoAll_mem e0 pc1 (by simp)) (by decide +kernel) (cX hG hu0 (memoAll_mem e0 pc10 (by simp)) (by decide +kernel) (cX hG hu0 (memoAll_mem e0 pc11 (by simp)) (by decide +kernel) (cX hG hu0 (memoAll_mem e0 pc12 (by simp)) (by decide +kernel) (cX hG hu0 (memoAll_mem e0 pc13 (by simp)) (by decide +kernel) (cX hG hu0 (memoAll_mem e0 pc14 (by simp)) (by decide +kernel) (cX hG hu0 (memoAll_mem e0 pc2 (by simp)) (by decide +kernel) (cX hG hu1 (memoAll_mem e1 pc3 (by simp)) (by decide +kernel) (cX hG hu1 (memoAll_mem e1 pc4 (by simp)) (by decide +kernel) (cX hG hu1 (memoAll_mem e1 pc5 (by simp)) (by decide +kernel) (cX hG hu1 (memoAll_mem e1 pc6 (by simp)) (by decide +kernel) (cX hG hu1 (memoAll_mem e1 pc7 (by simp)) (by decide +kernel) (cX hG hu1 (memoAll_mem e1 pc8 (by simp)) (by decide +kernel) (cX hG hu1 (memoAll_mem e1 pc9 (by simp)) (by decide +kernel) hd)))))))))))))))
theorem chX5_ok {ν : Nu} (ht : TblOk Tryz.prog ν tab5) (h3 : IntCell ν 3) (hG : ∀ q ∈ gls, ∃ fr, (q.g, q.obj fr) ∈ ν.G) (R : Stages) {d : FnD} (hd : FnGood Tryz.prog ν 525 d) : FnGood Tryz.prog ν 525 (chX5 d) := by
  obtain ⟨u0, hu0, e0⟩ := mkTblZ_true noNG sym_nil (splitOk h3) fnsX5_ok ht R.s6_x5g0
  obtain ⟨u1, hu1, e1⟩ := mkTblZ_true noNG sym_nil (splitOk h3) fnsX5_ok ht R.s6_x5g1
  exact (cX hG hu0 (memoAll_mem e0 dc0 (by simp)) (by decide +kernel) (cX hG hu0 (memoAll_mem e0 dc1 (by simp)) (by decide +kernel) (cX hG hu0 (memoAll_mem e0 dc10 (by simp)) (by decide +kernel) (cX hG hu0 (memoAll_mem e0 dc11 (by simp)) (by decide +kernel) (cX hG hu0 (memoAll_mem e0 dc12 (by simp)) (by decide +kernel) (cX hG hu0 (memoAll_mem e0 dc13 (by simp)) (by decide +kernel) (cX hG hu0 (memoAll_mem e0 dc14 (by simp)) (by decide +kernel) (cX hG hu0 (memoAll_mem e0 dc15 (by simp)) (by decide +kernel) (cX hG hu0 (memoAll_mem e0 dc16 (by simp)) (by decide +kernel) (cX hG hu1 (memoAll_mem e1 dc2 (by simp)) (by decide +kernel) (cX hG hu1 (memoAll_mem e1 dc3 (by simp)) (by decide +kernel) (cX hG hu1 (memoAll_mem e1 dc4 (by simp)) (by decide +kernel) (cX hG hu1 (memoAll_mem e1 dc5 (by simp)) (by decide +kernel) (cX hG hu1 (memoAll_mem e1 dc6 (by simp)) (by decide +kernel) (cX hG hu1 (memoAll_mem e1 dc7 (by simp)) (by decide +kernel) (cX hG hu1 (memoAll_mem e1 dc8 (by simp)) (by decide +kernel) (cX hG hu1 (memoAll_mem e1 dc9 (by simp)) (by decide +kernel) hd)))))))))))))))))
abbrev HD (ν : Nu) : Prop := (∀ d, FnGood Tryz.prog ν 433 d → FnGood Tryz.prog ν 433 (chX0 d)) ∧ (∀ d, FnGood Tryz.prog ν 166 d → FnGood Tryz.prog ν 166 (chX1 d)) ∧ (∀ d, FnGood Tryz.prog ν 426 d → FnGood Tryz.prog ν 426 (chX2 d)) ∧ (∀ d, FnGood Tryz.prog ν 204 d → FnGood Tryz.prog ν 204 (chX3 d)) ∧ (∀ d, FnGood Tryz.prog ν 143 d → FnGood Tryz.prog ν 143 (chX4 d)) ∧ (∀ d, FnGood Tryz.prog ν 525 d → FnGood Tryz.prog ν 525 (chX5 d))
theorem withDo_true {ν : Nu} (hD : HD ν) {t : T4 FnD TD} {k : T4 FnD TD → Bool} (ht : TblOk Tryz.prog ν t) (h : withDo t k = true) : ∃ t', TblOk Tryz.prog ν t' ∧ k t' = true := by
  unfold withDo at h
  obtain ⟨h0, h1, h2, h3, h4, h5⟩ := hD
  obtain ⟨d0, g0, h⟩ := T4.getK_true _ _ _ _ h
  rw [T4.setK_eq] at h
  have ht := ht.set (f := 433) (by omega) (h0 d0 (ht 433 d0 (show 433 < 4096 by omega) g0))
  obtain ⟨d1, g1, h⟩ := T4.getK_true _ _ _ _ h
  rw [T4.setK_eq] at h
  have ht := ht.set (f := 166) (by omega) (h1 d1 (ht 166 d1 (show 166 < 4096 by omega) g1))
  obtain ⟨d2, g2, h⟩ := T4.getK_true _ _ _ _ h
  rw [T4.setK_eq] at h
  have ht := ht.set (f := 426) (by omega) (h2 d2 (ht 426 d2 (show 426 < 4096 by omega) g2))
  obtain ⟨d3, g3, h⟩ := T4.getK_true _ _ _ _ h
  rw [T4.setK_eq] at h
  have ht := ht.set (f := 204) (by omega) (h3 d3 (ht 204 d3 (show 204 < 4096 by omega) g3))
  obtain ⟨d4, g4, h⟩ := T4.getK_true _ _ _ _ h
  rw [T4.setK_eq] at h
  have ht := ht.set (f := 143) (by omega) (h4 d4 (ht 143 d4 (show 143 < 4096 by omega) g4))
  obtain ⟨d5, g5, h⟩ := T4.getK_true _ _ _ _ h
  rw [T4.setK_eq] at h
  have ht := ht.set (f := 525) (by omega) (h5 d5 (ht 525 d5 (show 525 < 4096 by omega) g5))
  exact ⟨_, ht, h⟩
theorem hD_ok {ν : Nu} (ht : TblOk Tryz.prog ν tab5) (h3 : IntCell ν 3) (hG : ∀ q ∈ gls, ∃ fr, (q.g, q.obj fr) ∈ ν.G) (R : Stages) : HD ν := ⟨fun _ hd => chX0_ok ht h3 hG R hd, fun _ hd => chX1_ok ht h3 hG R hd, fun _ hd => chX2_ok ht h3 hG R hd, fun _ hd => chX3_ok ht h3 hG R hd, fun _ hd => chX4_ok ht h3 hG R hd, fun _ hd => chX5_ok ht h3 hG R hd⟩
theorem tab6_ok {ν : Nu} (ht : TblOk Tryz.prog ν tab5) (h3 : IntCell ν 3) (hG : ∀ q ∈ gls, ∃ fr, (q.g, q.obj fr) ∈ ν.G) (R : Stages) : TblOk Tryz.prog ν tab6 := ht
theorem q7 {ν : Nu} (ht : TblOk Tryz.prog ν tab6) (h3 : IntCell ν 3) (hD : HD ν) {m : Memo2} (R : rkW fnsO tab6 7 m = true) : ∃ t, TblOk Tryz.prog ν t ∧ runF t 60 7 m.args (m.h0 gls 16) (memoK0 m) (fun _ _ => false) = true := by
  obtain ⟨v, hv, d⟩ := mkTblZ_true noNG sym_nil (splitOk h3) fnsO_ok ht R
  exact withDo_true hD hv d
theorem c7 {ν : Nu} (hG : ∀ q ∈ gls, ∃ fr, (q.g, q.obj fr) ∈ ν.G) {t : T4 FnD TD} {m : Memo2} (hu : TblOk Tryz.prog ν t) (e : runF t 60 7 m.args (m.h0 gls 16) (memoK0 m) (fun _ _ => false) = true) (h : 16 + m.ins.length ≤ 1024) {d : FnD} (hd : FnGood Tryz.prog ν 7 d) : FnGood Tryz.prog ν 7 (memoD0 m 16 d) := FnGood.memo0 hu m e (fun w hw => hs_HR hG hw) (phi_in hG) h hd
theorem tab7_ok {ν : Nu} (ht : TblOk Tryz.prog ν tab6) (h3 : IntCell ν 3) (hG : ∀ q ∈ gls, ∃ fr, (q.g, q.obj fr) ∈ ν.G) (R : Stages) (hD : HD ν) : TblOk Tryz.prog ν tab7 := by
  obtain ⟨u0, hu0, e0⟩ := q7 ht h3 hD R.s7_g0
  obtain ⟨u1, hu1, e1⟩ := q7 ht h3 hD R.s7_g1
  obtain ⟨u2, hu2, e2⟩ := q7 ht h3 hD R.s7_g2
  obtain ⟨u3, hu3, e3⟩ := q7 ht h3 hD R.s7_g3
  obtain ⟨u4, hu4, e4⟩ := q7 ht h3 hD R.s7_g4
  obtain ⟨u5, hu5, e5⟩ := q7 ht h3 hD R.s7_g5
  obtain ⟨u6, hu6, e6⟩ := q7 ht h3 hD R.s7_g6
  obtain ⟨u7, hu7, e7⟩ := q7 ht h3 hD R.s7_g7
  obtain ⟨u8, hu8, e8⟩ := q7 ht h3 hD R.s7_g8
  obtain ⟨u9, hu9, e9⟩ := q7 ht h3 hD R.s7_g9
  obtain ⟨u10, hu10, e10⟩ := q7 ht h3 hD R.s7_g10
  obtain ⟨u11, hu11, e11⟩ := q7 ht h3 hD R.s7_g11
  obtain ⟨u12, hu12, e12⟩ := q7 ht h3 hD R.s7_g12
  obtain ⟨u13, hu13, e13⟩ := q7 ht h3 hD R.s7_g13
  obtain ⟨u14, hu14, e14⟩ := q7 ht h3 hD R.s7_g14
  obtain ⟨u15, hu15, e15⟩ := q7 ht h3 hD R.s7_g15
  obtain ⟨u16, hu16, e16⟩ := q7 ht h3 hD R.s7_g16
  obtain ⟨u17, hu17, e17⟩ := q7 ht h3 hD R.s7_g17
  obtain ⟨u18, hu18, e18⟩ := q7 ht h3 hD R.s7_g18
  obtain ⟨u19, hu19, e19⟩ := q7 ht h3 hD R.s7_g19
  obtain ⟨u20, hu20, e20⟩ := q7 ht h3 hD R.s7_g20
  obtain ⟨u21, hu21, e21⟩ := q7 ht h3 hD R.s7_g21
  obtain ⟨u22, hu22, e22⟩ := q7 ht h3 hD R.s7_g22
  obtain ⟨u23, hu23, e23⟩ := q7 ht h3 hD R.s7_g23
  obtain ⟨u24, hu24, e24⟩ := q7 ht h3 hD R.s7_g24
  obtain ⟨u25, hu25, e25⟩ := q7 ht h3 hD R.s7_g25
  obtain ⟨u26, hu26, e26⟩ := q7 ht h3 hD R.s7_g26
  obtain ⟨u27, hu27, e27⟩ := q7 ht h3 hD R.s7_g27
  obtain ⟨u28, hu28, e28⟩ := q7 ht h3 hD R.s7_g28
  obtain ⟨u29, hu29, e29⟩ := q7 ht h3 hD R.s7_g29
  obtain ⟨u30, hu30, e30⟩ := q7 ht h3 hD R.s7_g30
  obtain ⟨u31, hu31, e31⟩ := q7 ht h3 hD R.s7_g31
  obtain ⟨u32, hu32, e32⟩ := q7 ht h3 hD R.s7_g32
  obtain ⟨u33, hu33, e33⟩ := q7 ht h3 hD R.s7_g33
  obtain ⟨u34, hu34, e34⟩ := q7 ht h3 hD R.s7_g34
  obtain ⟨u35, hu35, e35⟩ := q7 ht h3 hD R.s7_g35
  obtain ⟨u36, hu36, e36⟩ := q7 ht h3 hD R.s7_g36
  obtain ⟨u37, hu37, e37⟩ := q7 ht h3 hD R.s7_g37
  obtain ⟨u38, hu38, e38⟩ := q7 ht h3 hD R.s7_g38
  obtain ⟨u39, hu39, e39⟩ := q7 ht h3 hD R.s7_g39
  unfold tab7
  exact ht.set (f := 7) (by omega) (c7 hG hu0 e0 (by decide +kernel) (c7 hG hu1 e1 (by decide +kernel) (c7 hG hu2 e2 (by decide +kernel) (c7 hG hu3 e3 (by decide +kernel) (c7 hG hu4 e4 (by decide +kernel) (c7 hG hu5 e5 (by decide +kernel) (c7 hG hu6 e6 (by decide +kernel) (c7 hG hu7 e7 (by decide +kernel) (c7 hG hu8 e8 (by decide +kernel) (c7 hG hu9 e9 (by decide +kernel) (c7 hG hu10 e10 (by decide +kernel) (c7 hG hu11 e11 (by decide +kernel) (c7 hG hu12 e12 (by decide +kernel) (c7 hG hu13 e13 (by decide +kernel) (c7 hG hu14 e14 (by decide +kernel) (c7 hG hu15 e15 (by decide +kernel) (c7 hG hu16 e16 (by decide +kernel) (c7 hG hu17 e17 (by decide +kernel) (c7 hG hu18 e18 (by decide +kernel) (c7 hG hu19 e19 (by decide +kernel) (c7 hG hu20 e20 (by decide +kernel) (c7 hG hu21 e21 (by decide +kernel) (c7 hG hu22 e22 (by decide +kernel) (c7 hG hu23 e23 (by decide +kernel) (c7 hG hu24 e24 (by decide +kernel) (c7 hG hu25 e25 (by decide +kernel) (c7 hG hu26 e26 (by decide +kernel) (c7 hG hu27 e27 (by decide +kernel) (c7 hG hu28 e28 (by decide +kernel) (c7 hG hu29 e29 (by decide +kernel) (c7 hG hu30 e30 (by decide +kernel) (c7 hG hu31 e31 (by decide +kernel) (c7 hG hu32 e32 (by decide +kernel) (c7 hG hu33 e33 (by decide +kernel) (c7 hG hu34 e34 (by decide +kernel) (c7 hG hu35 e35 (by decide +kernel) (c7 hG hu36 e36 (by decide +kernel) (c7 hG hu37 e37 (by decide +kernel) (c7 hG hu38 e38 (by decide +kernel) (c7 hG hu39 e39 (by decide +kernel) failD_good))))))))))))))))))))))))))))))))))))))))
theorem tab8_ok {ν : Nu} (ht : TblOk Tryz.prog ν tab7) (h3 : IntCell ν 3) (hG : ∀ q ∈ gls, ∃ fr, (q.g, q.obj fr) ∈ ν.G) (R : Stages) : TblOk Tryz.prog ν tab8 := by
  obtain ⟨u0, hu0, e0⟩ := mkTblZ_true noNG sym_nil (splitOk h3) fnsM_ok ht R.s8_mac
  obtain ⟨u1, hu1, e1⟩ := mkTblZ_true noNG sym_nil (splitOk h3) fnsM_ok ht R.s8_mac2
  unfold tab8
  exact ht.set (f := 15) (by omega) (FnGood.memo2 hu0 mac e0 (fun w hw => hs_HR hG hw) (phi_in hG) (by decide +kernel) (by decide +kernel) (by decide +kernel) (FnGood.memo2 hu1 mac2 e1 (fun w hw => hs_HR hG hw) (phi_in hG) (by decide +kernel) (by decide +kernel) (by decide +kernel) failD_good))
theorem q9 {ν : Nu} (ht : TblOk Tryz.prog ν tab8) (h3 : IntCell ν 3) (hD : HD ν) {m : Memo2} (R : rkW fnsC tab8 4 m = true) : ∃ t, TblOk Tryz.prog ν t ∧ runF t 60 4 m.args (m.h0 gls 16) (memoK0 m) (fun _ _ => false) = true := by
  obtain ⟨v, hv, d⟩ := mkTblZ_true noNG sym_nil (splitOk h3) fnsC_ok ht R
  exact withDo_true hD hv d
theorem fnsX_ok : FnsOkZ Tryz.prog fnsX := FnsOkZ.app fnsC_ok ⟨Tryz.func676, Tryz.func765, Tryz.func811, trivial⟩
theorem qX {ν : Nu} (ht : TblOk Tryz.prog ν tab8) (h3 : IntCell ν 3) (hD : HD ν) {m : Memo2} (R : rkW fnsX tab8 4 m = true) : ∃ t, TblOk Tryz.prog ν t ∧ runF t 60 4 m.args (m.h0 gls 16) (memoK0 m) (fun _ _ => false) = true := by
  obtain ⟨v, hv, d⟩ := mkTblZ_true noNG sym_nil (splitOk h3) fnsX_ok ht R
  exact withDo_true hD hv d
theorem c9 {ν : Nu} (hG : ∀ q ∈ gls, ∃ fr, (q.g, q.obj fr) ∈ ν.G) {t : T4 FnD TD} {m : Memo2} (hu : TblOk Tryz.prog ν t) (e : runF t 60 4 m.args (m.h0 gls 16) (memoK0 m) (fun _ _ => false) = true) (h : 16 + m.ins.length ≤ 1024) {d : FnD} (hd : FnGood Tryz.prog ν 4 d) : FnGood Tryz.prog ν 4 (memoD0 m 16 d) := FnGood.memo0 hu m e (fun w hw => hs_HR hG hw) (phi_in hG) h hd
theorem tab9_ok {ν : Nu} (ht : TblOk Tryz.prog ν tab8) (h3 : IntCell ν 3) (hG : ∀ q ∈ gls, ∃ fr, (q.g, q.obj fr) ∈ ν.G) (R : Stages) (hD : HD ν) : TblOk Tryz.prog ν tab9 := by
  obtain ⟨u0, hu0, e0⟩ := q9 ht h3 hD R.s9_g0
  obtain ⟨u1, hu1, e1⟩ := q9 ht h3 hD R.s9_g1
  obtain ⟨u2, hu2, e2⟩ := q9 ht h3 hD R.s9_g2
  obtain ⟨u3, hu3, e3⟩ := q9 ht h3 hD R.s9_g3
  obtain ⟨u4, hu4, e4⟩ := q9 ht h3 hD R.s9_g4
  obtain ⟨u5, hu5, e5⟩ := q9 ht h3 hD R.s9_g5
  obtain ⟨u6, hu6, e6⟩ := q9 ht h3 hD R.s9_g6
  obtain ⟨u7, hu7, e7⟩ := q9 ht h3 hD R.s9_g7
  obtain ⟨u8, hu8, e8⟩ := q9 ht h3 hD R.s9_g8
  obtain ⟨u9, hu9, e9⟩ := q9 ht h3 hD R.s9_g9
  obtain ⟨u10, hu10, e10⟩ := q9 ht h3 hD R.s9_g10
  obtain ⟨u11, hu11, e11⟩ := q9 ht h3 hD R.s9_g11
  obtain ⟨u12, hu12, e12⟩ := q9 ht h3 hD R.s9_g12
  obtain ⟨u13, hu13, e13⟩ := qX ht h3 hD R.s9_g13
  obtain ⟨u14, hu14, e14⟩ := q9 ht h3 hD R.s9_g14
  obtain ⟨u15, hu15, e15⟩ := q9 ht h3 hD R.s9_g15
  obtain ⟨u16, hu16, e16⟩ := q9 ht h3 hD R.s9_g16
  obtain ⟨u17, hu17, e17⟩ := q9 ht h3 hD R.s9_g17
  obtain ⟨u18, hu18, e18⟩ := qX ht h3 hD R.s9_g18
  obtain ⟨u19, hu19, e19⟩ := q9 ht h3 hD R.s9_g19
  obtain ⟨u20, hu20, e20⟩ := q9 ht h3 hD R.s9_g20
  obtain ⟨u21, hu21, e21⟩ := q9 ht h3 hD R.s9_g21
  obtain ⟨u22, hu22, e22⟩ := q9 ht h3 hD R.s9_g22
  obtain ⟨u23, hu23, e23⟩ := q9 ht h3 hD R.s9_g23
  obtain ⟨u24, hu24, e24⟩ := q9 ht h3 hD R.s9_g24
  obtain ⟨u25, hu25, e25⟩ := q9 ht h3 hD R.s9_g25
  obtain ⟨u26, hu26, e26⟩ := q9 ht h3 hD R.s9_g26
  obtain ⟨u27, hu27, e27⟩ := q9 ht h3 hD R.s9_g27
  obtain ⟨u28, hu28, e28⟩ := q9 ht h3 hD R.s9_g28
  obtain ⟨u29, hu29, e29⟩ := q9 ht h3 hD R.s9_g29
  obtain ⟨u30, hu30, e30⟩ := q9 ht h3 hD R.s9_g30
  obtain ⟨u31, hu31, e31⟩ := q9 ht h3 hD R.s9_g31
  obtain ⟨u32, hu32, e32⟩ := q9 ht h3 hD R.s9_g32
  obtain ⟨u33, hu33, e33⟩ := q9 ht h3 hD R.s9_g33
  obtain ⟨u34, hu34, e34⟩ := q9 ht h3 hD R.s9_g34
  obtain ⟨u35, hu35, e35⟩ := q9 ht h3 hD R.s9_g35
  obtain ⟨u36, hu36, e36⟩ := q9 ht h3 hD R.s9_g36
  obtain ⟨u37, hu37, e37⟩ := qX ht h3 hD R.s9_g37
  obtain ⟨u38, hu38, e38⟩ := q9 ht h3 hD R.s9_g38
  obtain ⟨u39, hu39, e39⟩ := qX ht h3 hD R.s9_g39
  unfold tab9
  exact ht.set (f := 4) (by omega) (c9 hG hu0 e0 (by decide +kernel) (c9 hG hu1 e1 (by decide +kernel) (c9 hG hu2 e2 (by decide +kernel) (c9 hG hu3 e3 (by decide +kernel) (c9 hG hu4 e4 (by decide +kernel) (c9 hG hu5 e5 (by decide +kernel) (c9 hG hu6 e6 (by decide +kernel) (c9 hG hu7 e7 (by decide +kernel) (c9 hG hu8 e8 (by decide +kernel) (c9 hG hu9 e9 (by decide +kernel) (c9 hG hu10 e10 (by decide +kernel) (c9 hG hu11 e11 (by decide +kernel) (c9 hG hu12 e12 (by decide +kernel) (c9 hG hu13 e13 (by decide +kernel) (c9 hG hu14 e14 (by decide +kernel) (c9 hG hu15 e15 (by decide +kernel) (c9 hG hu16 e16 (by decide +kernel) (c9 hG hu17 e17 (by decide +kernel) (c9 hG hu18 e18 (by decide +kernel) (c9 hG hu19 e19 (by decide +kernel) (c9 hG hu20 e20 (by decide +kernel) (c9 hG hu21 e21 (by decide +kernel) (c9 hG hu22 e22 (by decide +kernel) (c9 hG hu23 e23 (by decide +kernel) (c9 hG hu24 e24 (by decide +kernel) (c9 hG hu25 e25 (by decide +kernel) (c9 hG hu26 e26 (by decide +kernel) (c9 hG hu27 e27 (by decide +kernel) (c9 hG hu28 e28 (by decide +kernel) (c9 hG hu29 e29 (by decide +kernel) (c9 hG hu30 e30 (by decide +kernel) (c9 hG hu31 e31 (by decide +kernel) (c9 hG hu32 e32 (by decide +kernel) (c9 hG hu33 e33 (by decide +kernel) (c9 hG hu34 e34 (by decide +kernel) (c9 hG hu35 e35 (by decide +kernel) (c9 hG hu36 e36 (by decide +kernel) (c9 hG hu37 e37 (by decide +kernel) (c9 hG hu38 e38 (by decide +kernel) (c9 hG hu39 e39 (by decide +kernel) failD_good))))))))))))))))))))))))))))))))))))))))
theorem q10 {ν : Nu} (ht : TblOk Tryz.prog ν tab9) (h3 : IntCell ν 3) (hD : HD ν) {m : Memo2} (R : rkW fnsA tab9 5 m = true) : ∃ t, TblOk Tryz.prog ν t ∧ runF t 60 5 m.args (m.h0 gls 16) (memoK0 m) (fun _ _ => false) = true := by
  obtain ⟨v, hv, d⟩ := mkTblZ_true noNG sym_nil (splitOk h3) fnsA_ok ht R
  exact withDo_true hD hv d
theorem fnsY_ok : FnsOkZ Tryz.prog fnsY := FnsOkZ.app fnsA_ok ⟨Tryz.func676, Tryz.func765, Tryz.func811, trivial⟩
theorem qY {ν : Nu} (ht : TblOk Tryz.prog ν tab9) (h3 : IntCell ν 3) (hD : HD ν) {m : Memo2} (R : rkW fnsY tab9 5 m = true) : ∃ t, TblOk Tryz.prog ν t ∧ runF t 60 5 m.args (m.h0 gls 16) (memoK0 m) (fun _ _ => false) = true := by
  obtain ⟨v, hv, d⟩ := mkTblZ_true noNG sym_nil (splitOk h3) fnsY_ok ht R
  exact withDo_true hD hv d
theorem c10 {ν : Nu} (hG : ∀ q ∈ gls, ∃ fr, (q.g, q.obj fr) ∈ ν.G) {t : T4 FnD TD} {m : Memo2} (hu : TblOk Tryz.prog ν t) (e : runF t 60 5 m.args (m.h0 gls 16) (memoK0 m) (fun _ _ => false) = true) (h : 16 + m.ins.length ≤ 1024) {d : FnD} (hd : FnGood Tryz.prog ν 5 d) : FnGood Tryz.prog ν 5 (memoD0 m 16 d) := FnGood.memo0 hu m e (fun w hw => hs_HR hG hw) (phi_in hG) h hd
theorem tab10_ok {ν : Nu} (ht : TblOk Tryz.prog ν tab9) (h3 : IntCell ν 3) (hG : ∀ q ∈ gls, ∃ fr, (q.g, q.obj fr) ∈ ν.G) (R : Stages) (hD : HD ν) : TblOk Tryz.prog ν tab10 := by
  obtain ⟨u0, hu0, e0⟩ := q10 ht h3 hD R.s10_g0
  obtain ⟨u1, hu1, e1⟩ := q10 ht h3 hD R.s10_g1
  obtain ⟨u2, hu2, e2⟩ := q10 ht h3 hD R.s10_g2
  obtain ⟨u3, hu3, e3⟩ := q10 ht h3 hD R.s10_g3
  obtain ⟨u4, hu4, e4⟩ := q10 ht h3 hD R.s10_g4
  obtain ⟨u5, hu5, e5⟩ := q10 ht h3 hD R.s10_g5
  obtain ⟨u6, hu6, e6⟩ := q10 ht h3 hD R.s10_g6
  obtain ⟨u7, hu7, e7⟩ := q10 ht h3 hD R.s10_g7
  obtain ⟨u8, hu8, e8⟩ := q10 ht h3 hD R.s10_g8
  obtain ⟨u9, hu9, e9⟩ := q10 ht h3 hD R.s10_g9
  obtain ⟨u10, hu10, e10⟩ := q10 ht h3 hD R.s10_g10
  obtain ⟨u11, hu11, e11⟩ := q10 ht h3 hD R.s10_g11
  obtain ⟨u12, hu12, e12⟩ := q10 ht h3 hD R.s10_g12
  obtain ⟨u13, hu13, e13⟩ := qY ht h3 hD R.s10_g13
  obtain ⟨u14, hu14, e14⟩ := q10 ht h3 hD R.s10_g14
  obtain ⟨u15, hu15, e15⟩ := q10 ht h3 hD R.s10_g15
  obtain ⟨u16, hu16, e16⟩ := q10 ht h3 hD R.s10_g16
  obtain ⟨u17, hu17, e17⟩ := q10 ht h3 hD R.s10_g17
  obtain ⟨u18, hu18, e18⟩ := qY ht h3 hD R.s10_g18
  obtain ⟨u19, hu19, e19⟩ := q10 ht h3 hD R.s10_g19
  obtain ⟨u20, hu20, e20⟩ := q10 ht h3 hD R.s10_g20
  obtain ⟨u21, hu21, e21⟩ := q10 ht h3 hD R.s10_g21
  obtain ⟨u22, hu22, e22⟩ := q10 ht h3 hD R.s10_g22
  obtain ⟨u23, hu23, e23⟩ := q10 ht h3 hD R.s10_g23
  obtain ⟨u24, hu24, e24⟩ := q10 ht h3 hD R.s10_g24
  obtain ⟨u25, hu25, e25⟩ := q10 ht h3 hD R.s10_g25
  obtain ⟨u26, hu26, e26⟩ := q10 ht h3 hD R.s10_g26
  obtain ⟨u27, hu27, e27⟩ := q10 ht h3 hD R.s10_g27
  obtain ⟨u28, hu28, e28⟩ := q10 ht h3 hD R.s10_g28
  obtain ⟨u29, hu29, e29⟩ := q10 ht h3 hD R.s10_g29
  obtain ⟨u30, hu30, e30⟩ := q10 ht h3 hD R.s10_g30
  obtain ⟨u31, hu31, e31⟩ := q10 ht h3 hD R.s10_g31
  obtain ⟨u32, hu32, e32⟩ := q10 ht h3 hD R.s10_g32
  obtain ⟨u33, hu33, e33⟩ := q10 ht h3 hD R.s10_g33
  obtain ⟨u34, hu34, e34⟩ := q10 ht h3 hD R.s10_g34
  obtain ⟨u35, hu35, e35⟩ := q10 ht h3 hD R.s10_g35
  obtain ⟨u36, hu36, e36⟩ := q10 ht h3 hD R.s10_g36
  obtain ⟨u37, hu37, e37⟩ := qY ht h3 hD R.s10_g37
  obtain ⟨u38, hu38, e38⟩ := q10 ht h3 hD R.s10_g38
  obtain ⟨u39, hu39, e39⟩ := qY ht h3 hD R.s10_g39
  unfold tab10
  exact ht.set (f := 5) (by omega) (c10 hG hu0 e0 (by decide +kernel) (c10 hG hu1 e1 (by decide +kernel) (c10 hG hu2 e2 (by decide +kernel) (c10 hG hu3 e3 (by decide +kernel) (c10 hG hu4 e4 (by decide +kernel) (c10 hG hu5 e5 (by decide +kernel) (c10 hG hu6 e6 (by decide +kernel) (c10 hG hu7 e7 (by decide +kernel) (c10 hG hu8 e8 (by decide +kernel) (c10 hG hu9 e9 (by decide +kernel) (c10 hG hu10 e10 (by decide +kernel) (c10 hG hu11 e11 (by decide +kernel) (c10 hG hu12 e12 (by decide +kernel) (c10 hG hu13 e13 (by decide +kernel) (c10 hG hu14 e14 (by decide +kernel) (c10 hG hu15 e15 (by decide +kernel) (c10 hG hu16 e16 (by decide +kernel) (c10 hG hu17 e17 (by decide +kernel) (c10 hG hu18 e18 (by decide +kernel) (c10 hG hu19 e19 (by decide +kernel) (c10 hG hu20 e20 (by decide +kernel) (c10 hG hu21 e21 (by decide +kernel) (c10 hG hu22 e22 (by decide +kernel) (c10 hG hu23 e23 (by decide +kernel) (c10 hG hu24 e24 (by decide +kernel) (c10 hG hu25 e25 (by decide +kernel) (c10 hG hu26 e26 (by decide +kernel) (c10 hG hu27 e27 (by decide +kernel) (c10 hG hu28 e28 (by decide +kernel) (c10 hG hu29 e29 (by decide +kernel) (c10 hG hu30 e30 (by decide +kernel) (c10 hG hu31 e31 (by decide +kernel) (c10 hG hu32 e32 (by decide +kernel) (c10 hG hu33 e33 (by decide +kernel) (c10 hG hu34 e34 (by decide +kernel) (c10 hG hu35 e35 (by decide +kernel) (c10 hG hu36 e36 (by decide +kernel) (c10 hG hu37 e37 (by decide +kernel) (c10 hG hu38 e38 (by decide +kernel) (c10 hG hu39 e39 (by decide +kernel) failD_good))))))))))))))))))))))))))))))))))))))))
theorem q11 {ν : Nu} (ht : TblOk Tryz.prog ν tab10) (h3 : IntCell ν 3) (hD : HD ν) {m : Memo2} (R : rkW fnsT tab10 6 m = true) : ∃ t, TblOk Tryz.prog ν t ∧ runF t 60 6 m.args (m.h0 gls 16) (memoK0 m) (fun _ _ => false) = true := by
  obtain ⟨v, hv, d⟩ := mkTblZ_true noNG sym_nil (splitOk h3) fnsT_ok ht R
  exact withDo_true hD hv d
theorem c11 {ν : Nu} (hG : ∀ q ∈ gls, ∃ fr, (q.g, q.obj fr) ∈ ν.G) {t : T4 FnD TD} {m : Memo2} (hu : TblOk Tryz.prog ν t) (e : runF t 60 6 m.args (m.h0 gls 16) (memoK0 m) (fun _ _ => false) = true) (h : 16 + m.ins.length ≤ 1024) {d : FnD} (hd : FnGood Tryz.prog ν 6 d) : FnGood Tryz.prog ν 6 (memoD0 m 16 d) := FnGood.memo0 hu m e (fun w hw => hs_HR hG hw) (phi_in hG) h hd
theorem tab11_ok {ν : Nu} (ht : TblOk Tryz.prog ν tab10) (h3 : IntCell ν 3) (hG : ∀ q ∈ gls, ∃ fr, (q.g, q.obj fr) ∈ ν.G) (R : Stages) (hD : HD ν) : TblOk Tryz.prog ν tab11 := by
  obtain ⟨u0, hu0, e0⟩ := q11 ht h3 hD R.s11_g0
  obtain ⟨u1, hu1, e1⟩ := q11 ht h3 hD R.s11_g1
  obtain ⟨u2, hu2, e2⟩ := q11 ht h3 hD R.s11_g2
  obtain ⟨u3, hu3, e3⟩ := q11 ht h3 hD R.s11_g3
  obtain ⟨u4, hu4, e4⟩ := q11 ht h3 hD R.s11_g4
  obtain ⟨u5, hu5, e5⟩ := q11 ht h3 hD R.s11_g5
  obtain ⟨u6, hu6, e6⟩ := q11 ht h3 hD R.s11_g6
  obtain ⟨u7, hu7, e7⟩ := q11 ht h3 hD R.s11_g7
  obtain ⟨u8, hu8, e8⟩ := q11 ht h3 hD R.s11_g8
  obtain ⟨u9, hu9, e9⟩ := q11 ht h3 hD R.s11_g9
  obtain ⟨u10, hu10, e10⟩ := q11 ht h3 hD R.s11_g10
  obtain ⟨u11, hu11, e11⟩ := q11 ht h3 hD R.s11_g11
  obtain ⟨u12, hu12, e12⟩ := q11 ht h3 hD R.s11_g12
  obtain ⟨u13, hu13, e13⟩ := q11 ht h3 hD R.s11_g13
  obtain ⟨u14, hu14, e14⟩ := q11 ht h3 hD R.s11_g14
  obtain ⟨u15, hu15, e15⟩ := q11 ht h3 hD R.s11_g15
  obtain ⟨u16, hu16, e16⟩ := q11 ht h3 hD R.s11_g16
  obtain ⟨u17, hu17, e17⟩ := q11 ht h3 hD R.s11_g17
  obtain ⟨u18, hu18, e18⟩ := q11 ht h3 hD R.s11_g18
  obtain ⟨u19, hu19, e19⟩ := q11 ht h3 hD R.s11_g19
  obtain ⟨u20, hu20, e20⟩ := q11 ht h3 hD R.s11_g20
  obtain ⟨u21, hu21, e21⟩ := q11 ht h3 hD R.s11_g21
  obtain ⟨u22, hu22, e22⟩ := q11 ht h3 hD R.s11_g22
  obtain ⟨u23, hu23, e23⟩ := q11 ht h3 hD R.s11_g23
  obtain ⟨u24, hu24, e24⟩ := q11 ht h3 hD R.s11_g24
  obtain ⟨u25, hu25, e25⟩ := q11 ht h3 hD R.s11_g25
  obtain ⟨u26, hu26, e26⟩ := q11 ht h3 hD R.s11_g26
  obtain ⟨u27, hu27, e27⟩ := q11 ht h3 hD R.s11_g27
  obtain ⟨u28, hu28, e28⟩ := q11 ht h3 hD R.s11_g28
  obtain ⟨u29, hu29, e29⟩ := q11 ht h3 hD R.s11_g29
  obtain ⟨u30, hu30, e30⟩ := q11 ht h3 hD R.s11_g30
  obtain ⟨u31, hu31, e31⟩ := q11 ht h3 hD R.s11_g31
  obtain ⟨u32, hu32, e32⟩ := q11 ht h3 hD R.s11_g32
  obtain ⟨u33, hu33, e33⟩ := q11 ht h3 hD R.s11_g33
  obtain ⟨u34, hu34, e34⟩ := q11 ht h3 hD R.s11_g34
  obtain ⟨u35, hu35, e35⟩ := q11 ht h3 hD R.s11_g35
  obtain ⟨u36, hu36, e36⟩ := q11 ht h3 hD R.s11_g36
  obtain ⟨u37, hu37, e37⟩ := q11 ht h3 hD R.s11_g37
  obtain ⟨u38, hu38, e38⟩ := q11 ht h3 hD R.s11_g38
  obtain ⟨u39, hu39, e39⟩ := q11 ht h3 hD R.s11_g39
  unfold tab11
  exact ht.set (f := 6) (by omega) (c11 hG hu0 e0 (by decide +kernel) (c11 hG hu1 e1 (by decide +kernel) (c11 hG hu2 e2 (by decide +kernel) (c11 hG hu3 e3 (by decide +kernel) (c11 hG hu4 e4 (by decide +kernel) (c11 hG hu5 e5 (by decide +kernel) (c11 hG hu6 e6 (by decide +kernel) (c11 hG hu7 e7 (by decide +kernel) (c11 hG hu8 e8 (by decide +kernel) (c11 hG hu9 e9 (by decide +kernel) (c11 hG hu10 e10 (by decide +kernel) (c11 hG hu11 e11 (by decide +kernel) (c11 hG hu12 e12 (by decide +kernel) (c11 hG hu13 e13 (by decide +kernel) (c11 hG hu14 e14 (by decide +kernel) (c11 hG hu15 e15 (by decide +kernel) (c11 hG hu16 e16 (by decide +kernel) (c11 hG hu17 e17 (by decide +kernel) (c11 hG hu18 e18 (by decide +kernel) (c11 hG hu19 e19 (by decide +kernel) (c11 hG hu20 e20 (by decide +kernel) (c11 hG hu21 e21 (by decide +kernel) (c11 hG hu22 e22 (by decide +kernel) (c11 hG hu23 e23 (by decide +kernel) (c11 hG hu24 e24 (by decide +kernel) (c11 hG hu25 e25 (by decide +kernel) (c11 hG hu26 e26 (by decide +kernel) (c11 hG hu27 e27 (by decide +kernel) (c11 hG hu28 e28 (by decide +kernel) (c11 hG hu29 e29 (by decide +kernel) (c11 hG hu30 e30 (by decide +kernel) (c11 hG hu31 e31 (by decide +kernel) (c11 hG hu32 e32 (by decide +kernel) (c11 hG hu33 e33 (by decide +kernel) (c11 hG hu34 e34 (by decide +kernel) (c11 hG hu35 e35 (by decide +kernel) (c11 hG hu36 e36 (by decide +kernel) (c11 hG hu37 e37 (by decide +kernel) (c11 hG hu38 e38 (by decide +kernel) (c11 hG hu39 e39 (by decide +kernel) failD_good))))))))))))))))))))))))))))))))))))))))
theorem tabF_ok {ν : Nu} (h0 : TabCell Tryz.prog ν "strings.asciiSpace" .u8 Lib.asciiSpaceTab) (hP : TabCell Tryz.prog ν "internal/strconv.uint64pow10" .u64 Lib.pow10Tab) (h3 : IntCell ν 3) (hG : ∀ q ∈ gls, ∃ fr, (q.g, q.obj fr) ∈ ν.G) (R : Stages) : TblOk Tryz.prog ν tab11 :=
  (tab11_ok (tab10_ok (tab9_ok (tab8_ok (tab7_ok (tab6_ok (tab5_ok (tab4_ok (tab3_ok (tab2_ok (tab1_ok (tab0_ok h0 h3 hP) h3 hG R) h3 hG R) h3 hG R) h3 hG R) h3 hG R) h3 hG R) h3 hG R (hD_ok (tab5_ok (tab4_ok (tab3_ok (tab2_ok (tab1_ok (tab0_ok h0 h3 hP) h3 hG R) h3 hG R) h3 hG R) h3 hG R) h3 hG R) h3 hG R)) h3 hG R) h3 hG R (hD_ok (tab5_ok (tab4_ok (tab3_ok (tab2_ok (tab1_ok (tab0_ok h0 h3 hP) h3 hG R) h3 hG R) h3 hG R) h3 hG R) h3 hG R) h3 hG R)) h3 hG R (hD_ok (tab5_ok (tab4_ok (tab3_ok (tab2_ok (tab1_ok (tab0_ok h0 h3 hP) h3 hG R) h3 hG R) h3 hG R) h3 hG R) h3 hG R) h3 hG R)) h3 hG R (hD_ok (tab5_ok (tab4_ok (tab3_ok (tab2_ok (tab1_ok (tab0_ok h0 h3 hP) h3 hG R) h3 hG R) h3 hG R) h3 hG R) h3 hG R) h3 hG R))
/-- a run by a table that is good, put to use -/
theorem run_said {f : Nat → Int} {G : List (Nat × Obj)} {V : Nat → Value} {t : T4 FnD TD} (ht : TblOk Tryz.prog ⟨f, G, V⟩ t) (g4 : ∀ q ∈ gls, ∃ fr, (q.g, q.obj fr) ∈ G) {W : World} (g1 : ∀ b o, (b, o) ∈ G → W.heap[b]? = some o) {avs : List AV} {vs : List Value} (hv : VRs (phiOf gls) ⟨f, G, V⟩ avs vs)
    (h : runF t 60 3 avs hs isTrueK (fun _ _ => false) = true) : Calls Tryz.prog 3 vs.toArray W fun e w' => e = .returned (.bool true) ∧ Below W.heap.size W w' := by
  have hr := hs_HR (ν := ⟨f, G, V⟩) g4 (w := W) g1
  have hco := runF_ok ht 60 3 _ hs isTrueK (fun _ _ => false) h (phiOf gls) W vs hr hv
  have key : ∀ e w', FPost (phiOf gls) ⟨f, G, V⟩ hs.ro W hs.ds isTrueK (fun _ _ => false) e w' → e = .returned (.bool true) ∧ Below W.heap.size W w' := by
    intro e w' hp
    cases e with
    | returned x =>
      obtain ⟨φ', av, h', hvr, hr', hx, _, _, hav⟩ := hp
      obtain ⟨b, e2, hb2⟩ := vBool_true (show vBool av (fun b => b) = true from hav)
      subst e2 hb2
      cases hvr
      exact ⟨rfl, below_of_ext hx phi_lim⟩
    | panicked chain =>
      obtain ⟨φ', av, h', v, _, _, _, _, _, _, hav⟩ := hp
      cases hav
    | outgrown => exact hp.elim
  rcases hco with ⟨_, h2⟩ | ⟨x, w', h2, _⟩
  · exact h2.mono key
  · exfalso
    have hb : hasBody Tryz.prog 3 = true := by kernel_rfl
    rw [hasBody_true hb] at h2
    cases h2
/-- what the kernel ran -/
structure Runs : Prop extends Stages where
  root : runRoot = true
theorem walk (R : Runs) {W : World} (hF : Facts W) : Calls Tryz.prog 3 #[] W fun e w' => e = .returned (.bool true) ∧ Below W.heap.size W w' := by
  have hF' := hF
  obtain ⟨fP, hP⟩ := hF'.gP
  obtain ⟨G, g1, g2, g3, g4, g5⟩ := nu_of hF [(2, Obj.cells (Lib.pow10Tab.map fun z => Value.int .u64 z).toArray 439 fP)] (fun b o h => by
    cases List.mem_singleton.1 h
    exact hP)
  have F : Nat → Int := fun _ => 0
  have V : Nat → Value := fun _ => .nilFunc
  have k3 := g3 F V
  have kP : TabCell Tryz.prog ⟨F, G, V⟩ "internal/strconv.uint64pow10" .u64 Lib.pow10Tab := ⟨2, 439, fP, namedP, g5 _ List.mem_cons_self⟩
  have tF := tabF_ok (g2 F V) kP k3 g4 R.toStages
  obtain ⟨t1, ht1, h⟩ := mkTblZ_true noNG sym_nil (splitOk k3) fnsR_ok tF R.root
  exact run_said ht1 g4 g1 (vs := []) .nil h
end Go.Proofs.YtmkekbogeniehaaGreatDoor
