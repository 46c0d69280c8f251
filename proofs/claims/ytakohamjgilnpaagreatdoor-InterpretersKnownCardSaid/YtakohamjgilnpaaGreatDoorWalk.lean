/-
  The tables of functions are good: each entry speaks of its function; under the two facts on package-level variables that are stated.
-/
import Derived.Test.YtakohamjgilnpaaGreatDoorTabs
import Derived.Test.YtakohamjgilnpaaGreatDoorGoods
import Derived.Clock
import Derived.Stop.LaidErr
import Derived.Test.YtakohamjgilnpaaGreatDoorTabsX
set_option linter.unusedVariables false
set_option linter.unusedSimpArgs false
namespace Go.Proofs.YtakohamjgilnpaaGreatDoor
open Go Go.Abs
set_option maxRecDepth 100000
set_option maxHeartbeats 0
theorem tab0_ok {ν : Nu} (h0 : TabCell Tryz.prog ν "strings.asciiSpace" .u8 Lib.asciiSpaceTab) (h3 : IntCell ν 2) (hP : TabCell Tryz.prog ν "internal/strconv.uint64pow10" .u64 Lib.pow10Tab) : TblOk Tryz.prog ν tab0 := by
  unfold tab0
  refine TblOk.set ?_ (f := 19) (by omega) (good19 hP)
  refine TblOk.set ?_ (f := 276) (by omega) good276
  refine TblOk.set ?_ (f := 25) (by omega) good25
  refine TblOk.set ?_ (f := 222) (by omega) good222
  refine TblOk.set ?_ (f := 134) (by omega) good134
  refine TblOk.set ?_ (f := 350) (by omega) good350
  refine TblOk.set ?_ (f := 24) (by omega) (good24 h0)
  refine TblOk.set ?_ (f := 74) (by omega) good74
  refine TblOk.set ?_ (f := 42) (by omega) good42
  refine TblOk.set ?_ (f := 73) (by omega) good73
  refine TblOk.set ?_ (f := 243) (by omega) good243
  refine TblOk.set ?_ (f := 26) (by omega) (good26 h3)
  refine TblOk.set ?_ (f := 81) (by omega) (good81 h3)
  refine TblOk.set ?_ (f := 53) (by omega) (good53 h3)
  exact TblOk.empty
theorem fnsW_ok : FnsOkZ Tryz.prog fnsW := ⟨Tryz.func524, trivial⟩
theorem fnsL_ok : FnsOkZ Tryz.prog fnsL := ⟨Tryz.func7, Tryz.func8, Tryz.func9, Tryz.func10, Tryz.func12, Tryz.func15, Tryz.func16, Tryz.func20, Tryz.func21, Tryz.func22, Tryz.func23, Tryz.func27, Tryz.func28, Tryz.func29, Tryz.func31, Tryz.func32, Tryz.func33, Tryz.func37, Tryz.func38, Tryz.func39, Tryz.func40, Tryz.func41, Tryz.func43, Tryz.func46, Tryz.func48, Tryz.func49, Tryz.func50, Tryz.func54, Tryz.func55, Tryz.func56, Tryz.func57, Tryz.func58, Tryz.func59, Tryz.func60, Tryz.func61, Tryz.func62, Tryz.func63, Tryz.func64, Tryz.func65, Tryz.func66, Tryz.func67, Tryz.func68, Tryz.func69, Tryz.func70, Tryz.func71, Tryz.func72, Tryz.func75, Tryz.func77, Tryz.func79, Tryz.func82, Tryz.func83, Tryz.func84, Tryz.func85, Tryz.func86, Tryz.func87, Tryz.func88, Tryz.func89, Tryz.func90, Tryz.func91, Tryz.func92, Tryz.func93, Tryz.func94, Tryz.func95, Tryz.func96, Tryz.func97, Tryz.func98, Tryz.func99, Tryz.func100, Tryz.func102, Tryz.func103, Tryz.func106, Tryz.func107, Tryz.func108, Tryz.func109, Tryz.func110, Tryz.func111, Tryz.func112, Tryz.func113, Tryz.func114, Tryz.func115, Tryz.func118, Tryz.func120, Tryz.func121, Tryz.func122, Tryz.func125, Tryz.func132, Tryz.func136, Tryz.func138, Tryz.func139, Tryz.func140, Tryz.func141, Tryz.func142, Tryz.func143, Tryz.func144, Tryz.func145, Tryz.func146, Tryz.func147, Tryz.func148, Tryz.func151, Tryz.func152, Tryz.func155, Tryz.func156, Tryz.func157, Tryz.func158, Tryz.func160, Tryz.func162, Tryz.func164, Tryz.func165, Tryz.func166, Tryz.func170, Tryz.func172, Tryz.func173, Tryz.func174, Tryz.func175, Tryz.func176, Tryz.func177, Tryz.func178, Tryz.func179, Tryz.func182, Tryz.func183, Tryz.func184, Tryz.func185, Tryz.func187, Tryz.func188, Tryz.func189, Tryz.func190, Tryz.func191, Tryz.func192, Tryz.func193, Tryz.func194, Tryz.func195, Tryz.func196, Tryz.func199, Tryz.func200, Tryz.func202, Tryz.func208, Tryz.func209, Tryz.func215, Tryz.func216, Tryz.func226, Tryz.func228, Tryz.func229, Tryz.func230, Tryz.func231, Tryz.func232, Tryz.func233, Tryz.func234, Tryz.func237, Tryz.func238, Tryz.func239, Tryz.func240, Tryz.func241, Tryz.func242, Tryz.func244, Tryz.func245, Tryz.func246, Tryz.func247, Tryz.func249, Tryz.func250, Tryz.func251, Tryz.func252, Tryz.func253, Tryz.func254, Tryz.func259, Tryz.func260, Tryz.func262, Tryz.func263, Tryz.func266, Tryz.func267, Tryz.func268, Tryz.func269, Tryz.func270, Tryz.func271, Tryz.func272, Tryz.func273, Tryz.func274, Tryz.func275, Tryz.func277, Tryz.func278, Tryz.func280, Tryz.func281, Tryz.func282, Tryz.func283, Tryz.func284, Tryz.func285, Tryz.func286, Tryz.func287, Tryz.func288, Tryz.func289, Tryz.func290, Tryz.func291, Tryz.func292, Tryz.func293, Tryz.func294, Tryz.func295, Tryz.func296, Tryz.func297, Tryz.func298, Tryz.func299, Tryz.func300, Tryz.func301, Tryz.func302, Tryz.func307, Tryz.func308, Tryz.func312, Tryz.func314, Tryz.func315, Tryz.func316, Tryz.func317, Tryz.func319, Tryz.func327, Tryz.func328, Tryz.func341, Tryz.func344, Tryz.func351, Tryz.func352, Tryz.func355, Tryz.func356, Tryz.func357, Tryz.func358, Tryz.func359, Tryz.func360, Tryz.func361, Tryz.func362, Tryz.func363, Tryz.func364, Tryz.func365, Tryz.func367, Tryz.func368, Tryz.func369, Tryz.func370, Tryz.func371, Tryz.func372, Tryz.func376, Tryz.func378, Tryz.func379, Tryz.func380, Tryz.func381, Tryz.func382, Tryz.func383, Tryz.func384, Tryz.func385, Tryz.func386, Tryz.func387, Tryz.func389, Tryz.func412, Tryz.func415, Tryz.func416, Tryz.func417, Tryz.func418, Tryz.func419, Tryz.func420, Tryz.func422, Tryz.func424, Tryz.func425, Tryz.func426, Tryz.func427, Tryz.func428, Tryz.func429, Tryz.func430, Tryz.func431, Tryz.func432, Tryz.func433, Tryz.func434, Tryz.func435, Tryz.func436, Tryz.func437, Tryz.func438, Tryz.func439, Tryz.func440, Tryz.func441, Tryz.func442, Tryz.func443, Tryz.func445, Tryz.func446, Tryz.func447, Tryz.func448, Tryz.func451, Tryz.func455, Tryz.func459, Tryz.func460, Tryz.func461, Tryz.func462, Tryz.func463, Tryz.func465, Tryz.func466, Tryz.func467, Tryz.func490, Tryz.func491, Tryz.func493, Tryz.func517, Tryz.func518, Tryz.func519, Tryz.func520, Tryz.func521, Tryz.func522, Tryz.func523, Tryz.func525, Tryz.func526, Tryz.func528, Tryz.func531, Tryz.func533, Tryz.func534, Tryz.func535, Tryz.func542, Tryz.func543, Tryz.func544, Tryz.func552, Tryz.func553, Tryz.func554, Tryz.func557, Tryz.func559, Tryz.func560, Tryz.func561, Tryz.func562, Tryz.func563, Tryz.func565, Tryz.func566, Tryz.func567, Tryz.func568, Tryz.func569, Tryz.func570, Tryz.func571, Tryz.func572, Tryz.func573, Tryz.func574, Tryz.func575, Tryz.func576, Tryz.func577, Tryz.func578, Tryz.func581, Tryz.func582, Tryz.func586, Tryz.func590, Tryz.func592, Tryz.func593, Tryz.func594, Tryz.func611, Tryz.func620, Tryz.func631, Tryz.func653, Tryz.func654, Tryz.func655, Tryz.func660, Tryz.func668, Tryz.func669, Tryz.func671, Tryz.func672, Tryz.func673, Tryz.func674, Tryz.func675, Tryz.func680, Tryz.func681, Tryz.func683, Tryz.func686, Tryz.func700, Tryz.func701, Tryz.func706, Tryz.func723, Tryz.func726, Tryz.func727, Tryz.func728, Tryz.func730, Tryz.func731, Tryz.func733, Tryz.func734, Tryz.func753, Tryz.func754, Tryz.func757, Tryz.func758, Tryz.func759, Tryz.func762, Tryz.func769, Tryz.func770, Tryz.func772, Tryz.func773, trivial⟩
theorem fnsD_ok : FnsOkZ Tryz.prog fnsD := ⟨Tryz.func58, trivial⟩
theorem fnsB_ok : FnsOkZ Tryz.prog fnsB := ⟨Tryz.func21, Tryz.func22, Tryz.func40, Tryz.func41, Tryz.func47, Tryz.func48, Tryz.func50, Tryz.func54, Tryz.func68, Tryz.func77, Tryz.func79, Tryz.func82, Tryz.func83, Tryz.func84, Tryz.func85, Tryz.func86, Tryz.func87, Tryz.func88, Tryz.func89, Tryz.func90, Tryz.func132, Tryz.func136, Tryz.func138, Tryz.func139, Tryz.func140, Tryz.func141, Tryz.func142, Tryz.func143, Tryz.func144, Tryz.func145, Tryz.func146, Tryz.func147, Tryz.func148, Tryz.func151, Tryz.func152, Tryz.func155, Tryz.func156, Tryz.func157, Tryz.func158, Tryz.func160, Tryz.func162, Tryz.func178, Tryz.func179, Tryz.func226, Tryz.func228, Tryz.func229, Tryz.func230, Tryz.func231, Tryz.func232, Tryz.func233, Tryz.func234, Tryz.func237, Tryz.func238, Tryz.func239, Tryz.func240, Tryz.func241, Tryz.func242, Tryz.func244, Tryz.func245, Tryz.func246, Tryz.func247, Tryz.func274, Tryz.func275, Tryz.func277, Tryz.func278, Tryz.func317, Tryz.func355, Tryz.func356, Tryz.func357, Tryz.func358, Tryz.func359, Tryz.func360, Tryz.func361, Tryz.func362, Tryz.func363, Tryz.func364, Tryz.func365, Tryz.func367, Tryz.func368, Tryz.func369, Tryz.func370, Tryz.func371, Tryz.func372, Tryz.func422, Tryz.func425, Tryz.func426, Tryz.func427, Tryz.func428, Tryz.func466, Tryz.func519, Tryz.func520, Tryz.func521, Tryz.func522, Tryz.func523, Tryz.func525, Tryz.func526, Tryz.func528, Tryz.func531, Tryz.func533, Tryz.func534, Tryz.func557, Tryz.func559, Tryz.func569, Tryz.func654, Tryz.func655, Tryz.func671, trivial⟩
theorem fnsO_ok : FnsOkZ Tryz.prog fnsO := ⟨Tryz.func6, Tryz.func8, Tryz.func10, Tryz.func12, Tryz.func15, Tryz.func16, Tryz.func20, Tryz.func21, Tryz.func22, Tryz.func23, Tryz.func27, Tryz.func28, Tryz.func29, Tryz.func31, Tryz.func32, Tryz.func33, Tryz.func37, Tryz.func38, Tryz.func39, Tryz.func40, Tryz.func41, Tryz.func47, Tryz.func48, Tryz.func50, Tryz.func55, Tryz.func56, Tryz.func57, Tryz.func59, Tryz.func60, Tryz.func61, Tryz.func62, Tryz.func63, Tryz.func64, Tryz.func65, Tryz.func66, Tryz.func67, Tryz.func68, Tryz.func69, Tryz.func71, Tryz.func72, Tryz.func75, Tryz.func77, Tryz.func79, Tryz.func91, Tryz.func92, Tryz.func93, Tryz.func94, Tryz.func95, Tryz.func96, Tryz.func97, Tryz.func98, Tryz.func99, Tryz.func100, Tryz.func102, Tryz.func103, Tryz.func106, Tryz.func107, Tryz.func108, Tryz.func110, Tryz.func111, Tryz.func113, Tryz.func115, Tryz.func120, Tryz.func121, Tryz.func122, Tryz.func125, Tryz.func132, Tryz.func136, Tryz.func144, Tryz.func145, Tryz.func147, Tryz.func158, Tryz.func162, Tryz.func164, Tryz.func166, Tryz.func170, Tryz.func172, Tryz.func173, Tryz.func174, Tryz.func175, Tryz.func176, Tryz.func177, Tryz.func178, Tryz.func179, Tryz.func182, Tryz.func183, Tryz.func184, Tryz.func185, Tryz.func190, Tryz.func191, Tryz.func194, Tryz.func195, Tryz.func196, Tryz.func199, Tryz.func200, Tryz.func204, Tryz.func206, Tryz.func207, Tryz.func208, Tryz.func209, Tryz.func215, Tryz.func216, Tryz.func239, Tryz.func240, Tryz.func241, Tryz.func242, Tryz.func244, Tryz.func245, Tryz.func246, Tryz.func247, Tryz.func249, Tryz.func253, Tryz.func254, Tryz.func260, Tryz.func262, Tryz.func263, Tryz.func267, Tryz.func268, Tryz.func269, Tryz.func270, Tryz.func271, Tryz.func272, Tryz.func273, Tryz.func274, Tryz.func275, Tryz.func277, Tryz.func278, Tryz.func280, Tryz.func281, Tryz.func282, Tryz.func283, Tryz.func284, Tryz.func285, Tryz.func286, Tryz.func287, Tryz.func288, Tryz.func289, Tryz.func291, Tryz.func292, Tryz.func293, Tryz.func294, Tryz.func295, Tryz.func297, Tryz.func298, Tryz.func299, Tryz.func300, Tryz.func301, Tryz.func302, Tryz.func307, Tryz.func308, Tryz.func312, Tryz.func314, Tryz.func317, Tryz.func319, Tryz.func327, Tryz.func328, Tryz.func341, Tryz.func344, Tryz.func351, Tryz.func352, Tryz.func356, Tryz.func361, Tryz.func362, Tryz.func363, Tryz.func364, Tryz.func365, Tryz.func367, Tryz.func368, Tryz.func369, Tryz.func370, Tryz.func371, Tryz.func372, Tryz.func376, Tryz.func383, Tryz.func384, Tryz.func385, Tryz.func386, Tryz.func387, Tryz.func389, Tryz.func412, Tryz.func415, Tryz.func416, Tryz.func417, Tryz.func420, Tryz.func422, Tryz.func424, Tryz.func425, Tryz.func426, Tryz.func427, Tryz.func428, Tryz.func429, Tryz.func430, Tryz.func431, Tryz.func433, Tryz.func434, Tryz.func435, Tryz.func436, Tryz.func440, Tryz.func441, Tryz.func442, Tryz.func443, Tryz.func445, Tryz.func446, Tryz.func447, Tryz.func448, Tryz.func451, Tryz.func455, Tryz.func460, Tryz.func461, Tryz.func466, Tryz.func467, Tryz.func490, Tryz.func491, Tryz.func519, Tryz.func521, Tryz.func525, Tryz.func526, Tryz.func528, Tryz.func531, Tryz.func533, Tryz.func534, Tryz.func535, Tryz.func542, Tryz.func543, Tryz.func544, Tryz.func552, Tryz.func557, Tryz.func559, Tryz.func560, Tryz.func561, Tryz.func562, Tryz.func563, Tryz.func565, Tryz.func566, Tryz.func567, Tryz.func568, Tryz.func569, Tryz.func570, Tryz.func571, Tryz.func572, Tryz.func573, Tryz.func574, Tryz.func575, Tryz.func576, Tryz.func577, Tryz.func578, Tryz.func581, Tryz.func582, Tryz.func586, Tryz.func590, Tryz.func592, Tryz.func593, Tryz.func594, Tryz.func611, Tryz.func620, Tryz.func631, Tryz.func653, Tryz.func654, Tryz.func655, Tryz.func660, Tryz.func668, Tryz.func669, Tryz.func671, Tryz.func672, Tryz.func673, Tryz.func674, Tryz.func675, Tryz.func680, Tryz.func681, Tryz.func683, Tryz.func686, Tryz.func700, Tryz.func701, Tryz.func706, Tryz.func723, Tryz.func726, Tryz.func727, Tryz.func728, Tryz.func730, Tryz.func731, Tryz.func733, Tryz.func734, Tryz.func753, Tryz.func754, Tryz.func757, Tryz.func758, Tryz.func759, Tryz.func762, Tryz.func769, Tryz.func770, Tryz.func772, Tryz.func773, Tryz.func789, trivial⟩
theorem fnsM_ok : FnsOkZ Tryz.prog fnsM := ⟨Tryz.func29, Tryz.func40, Tryz.func41, Tryz.func47, Tryz.func48, Tryz.func50, Tryz.func59, Tryz.func60, Tryz.func61, Tryz.func68, Tryz.func77, Tryz.func79, Tryz.func96, Tryz.func97, Tryz.func98, Tryz.func99, Tryz.func100, Tryz.func132, Tryz.func136, Tryz.func144, Tryz.func145, Tryz.func172, Tryz.func173, Tryz.func174, Tryz.func175, Tryz.func176, Tryz.func177, Tryz.func178, Tryz.func179, Tryz.func239, Tryz.func240, Tryz.func241, Tryz.func242, Tryz.func244, Tryz.func267, Tryz.func268, Tryz.func269, Tryz.func270, Tryz.func271, Tryz.func272, Tryz.func273, Tryz.func274, Tryz.func275, Tryz.func277, Tryz.func278, Tryz.func317, Tryz.func361, Tryz.func362, Tryz.func363, Tryz.func364, Tryz.func365, Tryz.func367, Tryz.func368, Tryz.func369, Tryz.func370, Tryz.func371, Tryz.func372, Tryz.func420, Tryz.func422, Tryz.func424, Tryz.func425, Tryz.func426, Tryz.func427, Tryz.func428, Tryz.func466, Tryz.func519, Tryz.func521, Tryz.func525, Tryz.func526, Tryz.func528, Tryz.func531, Tryz.func533, Tryz.func534, Tryz.func557, Tryz.func559, Tryz.func569, Tryz.func654, Tryz.func655, Tryz.func671, trivial⟩
theorem fnsQ_ok : FnsOkZ Tryz.prog fnsQ := ⟨Tryz.func5, Tryz.func8, Tryz.func10, Tryz.func12, Tryz.func15, Tryz.func16, Tryz.func20, Tryz.func21, Tryz.func22, Tryz.func23, Tryz.func27, Tryz.func28, Tryz.func31, Tryz.func32, Tryz.func33, Tryz.func37, Tryz.func38, Tryz.func39, Tryz.func40, Tryz.func41, Tryz.func48, Tryz.func50, Tryz.func55, Tryz.func56, Tryz.func57, Tryz.func60, Tryz.func61, Tryz.func62, Tryz.func63, Tryz.func64, Tryz.func65, Tryz.func66, Tryz.func67, Tryz.func68, Tryz.func69, Tryz.func70, Tryz.func71, Tryz.func72, Tryz.func75, Tryz.func77, Tryz.func79, Tryz.func91, Tryz.func92, Tryz.func93, Tryz.func94, Tryz.func95, Tryz.func102, Tryz.func103, Tryz.func106, Tryz.func107, Tryz.func108, Tryz.func109, Tryz.func110, Tryz.func111, Tryz.func112, Tryz.func113, Tryz.func114, Tryz.func115, Tryz.func120, Tryz.func121, Tryz.func122, Tryz.func125, Tryz.func132, Tryz.func136, Tryz.func144, Tryz.func145, Tryz.func147, Tryz.func158, Tryz.func162, Tryz.func164, Tryz.func165, Tryz.func166, Tryz.func170, Tryz.func174, Tryz.func178, Tryz.func179, Tryz.func182, Tryz.func183, Tryz.func184, Tryz.func185, Tryz.func186, Tryz.func187, Tryz.func188, Tryz.func190, Tryz.func191, Tryz.func193, Tryz.func194, Tryz.func195, Tryz.func196, Tryz.func199, Tryz.func200, Tryz.func202, Tryz.func208, Tryz.func209, Tryz.func215, Tryz.func216, Tryz.func239, Tryz.func240, Tryz.func241, Tryz.func242, Tryz.func244, Tryz.func245, Tryz.func246, Tryz.func247, Tryz.func249, Tryz.func250, Tryz.func251, Tryz.func252, Tryz.func253, Tryz.func254, Tryz.func259, Tryz.func260, Tryz.func262, Tryz.func263, Tryz.func266, Tryz.func273, Tryz.func274, Tryz.func275, Tryz.func277, Tryz.func278, Tryz.func280, Tryz.func281, Tryz.func282, Tryz.func283, Tryz.func284, Tryz.func285, Tryz.func286, Tryz.func287, Tryz.func288, Tryz.func289, Tryz.func290, Tryz.func291, Tryz.func292, Tryz.func293, Tryz.func294, Tryz.func295, Tryz.func296, Tryz.func297, Tryz.func298, Tryz.func299, Tryz.func300, Tryz.func301, Tryz.func302, Tryz.func307, Tryz.func308, Tryz.func312, Tryz.func314, Tryz.func315, Tryz.func316, Tryz.func317, Tryz.func319, Tryz.func327, Tryz.func328, Tryz.func341, Tryz.func344, Tryz.func351, Tryz.func352, Tryz.func356, Tryz.func361, Tryz.func362, Tryz.func363, Tryz.func364, Tryz.func365, Tryz.func367, Tryz.func368, Tryz.func369, Tryz.func370, Tryz.func371, Tryz.func372, Tryz.func376, Tryz.func379, Tryz.func380, Tryz.func381, Tryz.func382, Tryz.func383, Tryz.func384, Tryz.func385, Tryz.func386, Tryz.func387, Tryz.func389, Tryz.func412, Tryz.func415, Tryz.func416, Tryz.func417, Tryz.func418, Tryz.func419, Tryz.func422, Tryz.func424, Tryz.func425, Tryz.func426, Tryz.func427, Tryz.func428, Tryz.func429, Tryz.func430, Tryz.func431, Tryz.func432, Tryz.func433, Tryz.func434, Tryz.func435, Tryz.func436, Tryz.func437, Tryz.func438, Tryz.func439, Tryz.func440, Tryz.func441, Tryz.func442, Tryz.func443, Tryz.func445, Tryz.func446, Tryz.func447, Tryz.func448, Tryz.func451, Tryz.func455, Tryz.func459, Tryz.func460, Tryz.func461, Tryz.func462, Tryz.func463, Tryz.func465, Tryz.func466, Tryz.func467, Tryz.func490, Tryz.func491, Tryz.func493, Tryz.func518, Tryz.func519, Tryz.func521, Tryz.func525, Tryz.func526, Tryz.func528, Tryz.func531, Tryz.func533, Tryz.func534, Tryz.func535, Tryz.func542, Tryz.func543, Tryz.func544, Tryz.func552, Tryz.func553, Tryz.func554, Tryz.func557, Tryz.func559, Tryz.func560, Tryz.func561, Tryz.func562, Tryz.func563, Tryz.func565, Tryz.func566, Tryz.func567, Tryz.func568, Tryz.func569, Tryz.func570, Tryz.func571, Tryz.func572, Tryz.func573, Tryz.func574, Tryz.func575, Tryz.func576, Tryz.func577, Tryz.func578, Tryz.func581, Tryz.func582, Tryz.func586, Tryz.func590, Tryz.func592, Tryz.func593, Tryz.func594, Tryz.func611, Tryz.func620, Tryz.func631, Tryz.func653, Tryz.func654, Tryz.func655, Tryz.func660, Tryz.func668, Tryz.func669, Tryz.func671, Tryz.func672, Tryz.func673, Tryz.func674, Tryz.func675, Tryz.func680, Tryz.func681, Tryz.func683, Tryz.func686, Tryz.func700, Tryz.func701, Tryz.func706, Tryz.func723, Tryz.func726, Tryz.func727, Tryz.func728, Tryz.func730, Tryz.func731, Tryz.func733, Tryz.func734, Tryz.func753, Tryz.func754, Tryz.func757, Tryz.func758, Tryz.func759, Tryz.func762, Tryz.func769, Tryz.func770, Tryz.func772, Tryz.func773, trivial⟩
theorem fnsS_ok : FnsOkZ Tryz.prog fnsS := ⟨Tryz.func72, trivial⟩
theorem fnsG_ok : FnsOkZ Tryz.prog fnsG := ⟨Tryz.func190, Tryz.func260, Tryz.func292, Tryz.func293, Tryz.func319, Tryz.func467, trivial⟩
theorem fnsT_ok : FnsOkZ Tryz.prog fnsT := ⟨Tryz.func40, Tryz.func41, Tryz.func47, Tryz.func48, Tryz.func50, Tryz.func60, Tryz.func68, Tryz.func69, Tryz.func77, Tryz.func79, Tryz.func132, Tryz.func136, Tryz.func144, Tryz.func145, Tryz.func147, Tryz.func158, Tryz.func162, Tryz.func174, Tryz.func178, Tryz.func179, Tryz.func191, Tryz.func199, Tryz.func200, Tryz.func239, Tryz.func240, Tryz.func241, Tryz.func242, Tryz.func244, Tryz.func245, Tryz.func246, Tryz.func247, Tryz.func253, Tryz.func274, Tryz.func275, Tryz.func277, Tryz.func278, Tryz.func294, Tryz.func295, Tryz.func300, Tryz.func307, Tryz.func308, Tryz.func312, Tryz.func314, Tryz.func317, Tryz.func327, Tryz.func341, Tryz.func344, Tryz.func356, Tryz.func361, Tryz.func362, Tryz.func363, Tryz.func364, Tryz.func365, Tryz.func367, Tryz.func368, Tryz.func369, Tryz.func370, Tryz.func371, Tryz.func372, Tryz.func383, Tryz.func384, Tryz.func385, Tryz.func386, Tryz.func387, Tryz.func422, Tryz.func425, Tryz.func426, Tryz.func427, Tryz.func428, Tryz.func434, Tryz.func435, Tryz.func436, Tryz.func455, Tryz.func466, Tryz.func490, Tryz.func491, Tryz.func519, Tryz.func521, Tryz.func525, Tryz.func526, Tryz.func528, Tryz.func531, Tryz.func533, Tryz.func534, Tryz.func557, Tryz.func559, Tryz.func562, Tryz.func565, Tryz.func566, Tryz.func567, Tryz.func568, Tryz.func569, Tryz.func594, Tryz.func620, Tryz.func654, Tryz.func655, Tryz.func671, Tryz.func686, Tryz.func733, Tryz.func734, Tryz.func762, trivial⟩
theorem fnsC_ok : FnsOkZ Tryz.prog fnsC := ⟨Tryz.func4, Tryz.func7, Tryz.func8, Tryz.func10, Tryz.func11, Tryz.func12, Tryz.func13, Tryz.func14, Tryz.func15, Tryz.func16, Tryz.func17, Tryz.func18, Tryz.func21, Tryz.func22, Tryz.func23, Tryz.func27, Tryz.func28, Tryz.func30, Tryz.func31, Tryz.func32, Tryz.func33, Tryz.func34, Tryz.func35, Tryz.func36, Tryz.func37, Tryz.func38, Tryz.func39, Tryz.func40, Tryz.func41, Tryz.func48, Tryz.func50, Tryz.func55, Tryz.func56, Tryz.func57, Tryz.func60, Tryz.func61, Tryz.func62, Tryz.func63, Tryz.func64, Tryz.func65, Tryz.func66, Tryz.func67, Tryz.func68, Tryz.func69, Tryz.func70, Tryz.func71, Tryz.func75, Tryz.func77, Tryz.func91, Tryz.func92, Tryz.func93, Tryz.func94, Tryz.func95, Tryz.func102, Tryz.func103, Tryz.func106, Tryz.func107, Tryz.func108, Tryz.func109, Tryz.func110, Tryz.func112, Tryz.func113, Tryz.func114, Tryz.func118, Tryz.func120, Tryz.func121, Tryz.func122, Tryz.func125, Tryz.func132, Tryz.func136, Tryz.func144, Tryz.func145, Tryz.func147, Tryz.func158, Tryz.func162, Tryz.func164, Tryz.func165, Tryz.func166, Tryz.func170, Tryz.func174, Tryz.func178, Tryz.func179, Tryz.func182, Tryz.func183, Tryz.func184, Tryz.func185, Tryz.func189, Tryz.func192, Tryz.func199, Tryz.func200, Tryz.func202, Tryz.func203, Tryz.func204, Tryz.func208, Tryz.func209, Tryz.func210, Tryz.func211, Tryz.func215, Tryz.func216, Tryz.func239, Tryz.func240, Tryz.func241, Tryz.func244, Tryz.func245, Tryz.func246, Tryz.func247, Tryz.func249, Tryz.func250, Tryz.func251, Tryz.func252, Tryz.func253, Tryz.func254, Tryz.func260, Tryz.func262, Tryz.func263, Tryz.func264, Tryz.func274, Tryz.func277, Tryz.func278, Tryz.func280, Tryz.func281, Tryz.func282, Tryz.func284, Tryz.func285, Tryz.func286, Tryz.func287, Tryz.func288, Tryz.func289, Tryz.func291, Tryz.func294, Tryz.func300, Tryz.func307, Tryz.func308, Tryz.func312, Tryz.func314, Tryz.func315, Tryz.func316, Tryz.func317, Tryz.func318, Tryz.func319, Tryz.func320, Tryz.func321, Tryz.func326, Tryz.func327, Tryz.func328, Tryz.func331, Tryz.func332, Tryz.func333, Tryz.func335, Tryz.func336, Tryz.func337, Tryz.func338, Tryz.func341, Tryz.func343, Tryz.func344, Tryz.func351, Tryz.func352, Tryz.func356, Tryz.func361, Tryz.func362, Tryz.func363, Tryz.func364, Tryz.func365, Tryz.func367, Tryz.func376, Tryz.func377, Tryz.func378, Tryz.func380, Tryz.func381, Tryz.func383, Tryz.func384, Tryz.func385, Tryz.func386, Tryz.func387, Tryz.func389, Tryz.func412, Tryz.func413, Tryz.func415, Tryz.func416, Tryz.func417, Tryz.func418, Tryz.func419, Tryz.func425, Tryz.func426, Tryz.func427, Tryz.func428, Tryz.func429, Tryz.func430, Tryz.func431, Tryz.func432, Tryz.func433, Tryz.func434, Tryz.func435, Tryz.func455, Tryz.func459, Tryz.func460, Tryz.func461, Tryz.func462, Tryz.func463, Tryz.func465, Tryz.func466, Tryz.func467, Tryz.func470, Tryz.func472, Tryz.func473, Tryz.func476, Tryz.func481, Tryz.func482, Tryz.func485, Tryz.func490, Tryz.func491, Tryz.func493, Tryz.func519, Tryz.func521, Tryz.func525, Tryz.func526, Tryz.func528, Tryz.func535, Tryz.func536, Tryz.func542, Tryz.func543, Tryz.func544, Tryz.func552, Tryz.func553, Tryz.func554, Tryz.func559, Tryz.func560, Tryz.func561, Tryz.func562, Tryz.func563, Tryz.func565, Tryz.func566, Tryz.func567, Tryz.func568, Tryz.func590, Tryz.func592, Tryz.func593, Tryz.func594, Tryz.func614, Tryz.func620, Tryz.func653, Tryz.func654, Tryz.func655, Tryz.func660, Tryz.func668, Tryz.func669, Tryz.func686, Tryz.func733, Tryz.func734, Tryz.func762, trivial⟩
theorem fnsR_ok : FnsOkZ Tryz.prog fnsR := ⟨Tryz.func3, Tryz.func7, Tryz.func8, Tryz.func21, Tryz.func22, Tryz.func23, trivial⟩
theorem noNG : NoNG Tryz.prog := by
  have h : (Tryz.prog.funcs.toList.all fun fn => !(fn.name == "runtime.NumGoroutine")) = true := by kernel_rfl
  intro f fn hf
  rw [List.all_eq_true] at h
  have hm : fn ∈ Tryz.prog.funcs.toList := Array.mem_toList_iff.2 (Array.mem_of_getElem? hf)
  simpa using h fn hm
theorem failD_good {ν : Nu} {f : Nat} : FnGood Tryz.prog ν f failD := by
  intro cf _ args h kr kp hk
  cases hk
end Go.Proofs.YtakohamjgilnpaaGreatDoor
namespace Go.Proofs.YtakohamjgilnpaaGreatDoor
open Go Go.Abs
set_option maxRecDepth 100000
set_option maxHeartbeats 0
open Go.RowKit (Below)
theorem rem_ok (t : TypeId) (w : World) (x c : Int) (hx : 0 ≤ x) (hx2 : x ≤ 255) (hc : 0 < c) (hc2 : c ≤ 255) : (binOp .rem t (.int .u8 x) (.int .u8 c)).run Tryz.prog w = .ok (.int .u8 (x % c)) w := by
  have h1 : ¬ (c = 0) := by omega
  simp [binOp, Op.intDiv, h1, Int.tmod_eq_emod_of_nonneg hx]
theorem quo_ok (t : TypeId) (w : World) (x c : Int) (hx : 0 ≤ x) (hx2 : x ≤ 255) (hc : 0 < c) (hc2 : c ≤ 255) : (binOp .quo t (.int .u8 x) (.int .u8 c)).run Tryz.prog w = .ok (.int .u8 (x / c)) w := by
  have h1 : ¬ (c = 0) := by omega
  have h2 : 0 ≤ x / c := Int.ediv_nonneg hx (by omega)
  have h3 : x / c ≤ x := Int.ediv_le_self c hx
  have h4 : IntKind.u8.wrap (x / c) = x / c := Go.Abs.wrap_small IntKind.u8 _ (by simp [loK]; omega) (by simp [hiK]; omega)
  simp [binOp, Op.intDiv, h1, Int.tdiv_eq_ediv_of_nonneg hx, h4]
theorem sym_nil {ν : Nu} : SymOk Tryz.prog ν [] := fun q hq => by cases hq

/-! ### what the world holds -/
theorem shaped_at {W : World} (h : W.ShapedOpen Tryz.prog) (g : Nat) (t : TypeId) (hg : g < Tryz.prog.globals.size) (h0 : (((begin Tryz.prog (fun _ _ => 0) default).world.heap[g]?).bind Obj.row?).map (·.2) = some t) :
    ∃ cs, W.heap[g]? = some (.cells cs t) := by
  obtain ⟨⟨zero, t'⟩, hz, rfl⟩ := Option.map_eq_some_iff.1 h0
  obtain ⟨cs, hc, _⟩ := h.1 g zero t' hg hz
  exact ⟨cs, hc⟩
theorem obj_of {W : World} {name : String} {g : Nat} {k : IntKind} {zs : List Int} {cs : Array Value} {t : TypeId} {fr : Nat × Nat} (hn : Tryz.prog.globalNamed name = some g) (hh : W.heap[g]? = some (.cells cs t fr)) (hT : Lib.TabIs Tryz.prog W name k zs) :
    cs = (zs.map fun z => Value.int k z).toArray := by
  unfold Lib.TabIs World.var? at hT
  rw [hn] at hT
  simpa [hh] using hT
/-- the blocks that the run reads -/
structure Facts (W : World) : Prop where
  gA : ∃ fr, W.heap[0]? = some (.cells (Lib.asciiSpaceTab.map fun z => Value.int .u8 z).toArray 134 fr)
  gM : ∃ m fr, W.heap[2]? = some (.cells #[.int .i64 m] 3 fr)
  t0 : ∃ fr, W.heap[8]? = some ((⟨8, [36, 43, 45], 716⟩ : Gl).obj fr)
  t1 : ∃ fr, W.heap[9]? = some ((⟨9, [63, 15, 63, 15, 61, 61], 792⟩ : Gl).obj fr)
  gP : ∃ fr, W.heap[3]? = some (.cells (Lib.pow10Tab.map fun z => Value.int .u64 z).toArray 366 fr)
theorem namedP : Tryz.prog.globalNamed "internal/strconv.uint64pow10" = some 3 := by kernel_rfl
theorem named0 : Tryz.prog.globalNamed "strings.asciiSpace" = some 0 := by kernel_rfl
theorem globsW : Tryz.prog.globals.size = 15 := by kernel_rfl
theorem nu_of {W : World} (hF : Facts W) (X : List (Nat × Obj)) (hX : ∀ b o, (b, o) ∈ X → W.heap[b]? = some o) : ∃ G : List (Nat × Obj), (∀ b o, (b, o) ∈ G → W.heap[b]? = some o) ∧ (∀ f V, TabCell Tryz.prog ⟨f, G, V⟩ "strings.asciiSpace" .u8 Lib.asciiSpaceTab) ∧ (∀ f V, IntCell ⟨f, G, V⟩ 2) ∧
    (∀ q ∈ gls, ∃ fr, (q.g, q.obj fr) ∈ G) ∧ ∀ q ∈ X, q ∈ G := by
  obtain ⟨⟨f0, h0⟩, ⟨m, f3, h3⟩, ⟨e0, k0⟩, ⟨e1, k1⟩, _⟩ := hF
  refine ⟨(0, Obj.cells (Lib.asciiSpaceTab.map fun z => Value.int .u8 z).toArray 134 f0) :: (2, Obj.cells #[.int .i64 m] 3 f3) :: (8, (⟨8, [36, 43, 45], 716⟩ : Gl).obj e0) :: (9, (⟨9, [63, 15, 63, 15, 61, 61], 792⟩ : Gl).obj e1) :: X, fun b o hb => ?_, fun f _ => ⟨0, 134, f0, named0, ?_⟩, fun f _ => ⟨m, 3, f3, ?_⟩, fun q hq => ?_, fun q hq => List.mem_cons_of_mem _ (List.mem_cons_of_mem _ (List.mem_cons_of_mem _ (List.mem_cons_of_mem _ hq)))⟩
  rotate_left
  · exact List.mem_cons_self
  · exact List.mem_cons_of_mem _ List.mem_cons_self
  · simp only [gls, List.mem_cons, List.mem_nil_iff, or_false] at hq
    rcases hq with rfl | rfl
    · exact ⟨e0, List.mem_cons_of_mem _ (List.mem_cons_of_mem _ (List.mem_cons_self))⟩
    · exact ⟨e1, List.mem_cons_of_mem _ (List.mem_cons_of_mem _ (List.mem_cons_of_mem _ (List.mem_cons_self)))⟩
  · simp only [List.mem_cons, Prod.mk.injEq] at hb
    rcases hb with ⟨rfl, rfl⟩ | ⟨rfl, rfl⟩ | ⟨rfl, rfl⟩ | ⟨rfl, rfl⟩ | hb
    · exact h0
    · exact h3
    · exact k0
    · exact k1
    · exact hX b o hb
theorem hs_HR {ν : Nu} (hG : ∀ q ∈ gls, ∃ fr, (q.g, q.obj fr) ∈ ν.G) {w : World} (hw : ∀ b o, (b, o) ∈ ν.G → w.heap[b]? = some o) : HR (phiOf gls) ν hs w := by
  refine h0_HR (by decide) ?_ ?_ ?_ ?_ hG hw
  · intro q hq; simp only [gls, List.mem_cons, List.mem_nil_iff, or_false] at hq; rcases hq with rfl | rfl <;> decide
  · intro q hq; simp only [gls, List.mem_cons, List.mem_nil_iff, or_false] at hq; rcases hq with rfl | rfl <;> decide
  · decide +kernel
  · intro g hg
    unfold gver at hg
    cases hb0 : Nat.beq g 8 with
    | true =>
      have e := Nat.eq_of_beq_eq_true hb0
      subst e
      exact ⟨⟨8, [36, 43, 45], 716⟩, by simp [gls], rfl, rfl⟩
    | false =>
      first | rw [hb0, cond_false] at hg | rw [cond_false] at hg
      cases hb1 : Nat.beq g 9 with
      | true =>
        have e := Nat.eq_of_beq_eq_true hb1
        subst e
        exact ⟨⟨9, [63, 15, 63, 15, 61, 61], 792⟩, by simp [gls], rfl, rfl⟩
      | false =>
        first | rw [hb1, cond_false] at hg | rw [cond_false] at hg
        exact absurd hg (Nat.lt_irrefl 0)
theorem phi_lim : ∀ id ver p, phiOf gls id ver = some p → id < hs.ro.lim := by
  intro id ver p h
  obtain ⟨q, hq, h1, _, _⟩ := phiOf_some h
  simp only [gls, List.mem_cons, List.mem_nil_iff, or_false] at hq
  show id < 16
  rw [← h1]
  rcases hq with rfl | rfl <;> decide
theorem phi_in {ν : Nu} (hG : ∀ q ∈ gls, ∃ fr, (q.g, q.obj fr) ∈ ν.G) : ∀ id ver p, phiOf gls id ver = some p → ∃ o, (p.blk, o) ∈ ν.G := by
  intro id ver p h
  obtain ⟨q, hq, h1, h2, rfl⟩ := phiOf_some h
  obtain ⟨fr, hm⟩ := hG q hq
  exact ⟨_, hm⟩

theorem memoAll_mem {t : T4 FnD TD} {f : Nat} {ms : List Memo2} (h : memoAll t f ms = true) : ∀ m ∈ ms, runF t 60 f m.args (m.h0 gls 16) (memoK0 m) (fun _ _ => false) = true := by
  induction ms with
  | nil => intro m hm; cases hm
  | cons a l ih =>
    have h' : andB (runF t 60 f a.args (a.h0 gls 16) (memoK0 a) (fun _ _ => false)) (memoAll t f l) = true := h
    obtain ⟨h1, h2⟩ := andB_true h'
    intro m hm
    rcases List.mem_cons.1 hm with rfl | hm
    · exact h1
    · exact ih h2 m hm

/-! ### the runs, put to use -/
/-- what the kernel ran, but for the cases -/
structure Stages : Prop where
  words : runW = true
  s2_true : run2_true = true
  s3_dat : run3_dat = true
  s4_lay : run4_lay = true
  s5_g0 : run5_g0 = true
  s5_g1 : run5_g1 = true
  s5_g2 : run5_g2 = true
  s5_g3 : run5_g3 = true
  s5_g4 : run5_g4 = true
  s5_g5 : run5_g5 = true
  s5_g6 : run5_g6 = true
  s5_g7 : run5_g7 = true
  s5_g8 : run5_g8 = true
  s5_g9 : run5_g9 = true
  s5_g10 : run5_g10 = true
  s5_g11 : run5_g11 = true
  s5_g12 : run5_g12 = true
  s5_g13 : run5_g13 = true
  s5_g14 : run5_g14 = true
  s5_g15 : run5_g15 = true
  s5_g16 : run5_g16 = true
  s5_g17 : run5_g17 = true
  s5_g18 : run5_g18 = true
  s5_g19 : run5_g19 = true
  s5_g20 : run5_g20 = true
  s5_g21 : run5_g21 = true
  s5_g22 : run5_g22 = true
  s5_g23 : run5_g23 = true
  s5_g24 : run5_g24 = true
  s5_g25 : run5_g25 = true
  s5_g26 : run5_g26 = true
  s5_g27 : run5_g27 = true
  s5_g28 : run5_g28 = true
  s5_g29 : run5_g29 = true
  s6_mac : run6_mac = true
  s7_g0 : run7_g0 = true
  s7_g1 : run7_g1 = true
  s7_g2 : run7_g2 = true
  s7_g3 : run7_g3 = true
  s7_g4 : run7_g4 = true
  s7_g5 : run7_g5 = true
  s7_g6 : run7_g6 = true
  s7_g7 : run7_g7 = true
  s7_g8 : run7_g8 = true
  s7_g9 : run7_g9 = true
  s7_g10 : run7_g10 = true
  s7_g11 : run7_g11 = true
  s7_g12 : run7_g12 = true
  s7_g13 : run7_g13 = true
  s7_g14 : run7_g14 = true
  s7_g15 : run7_g15 = true
  s7_g16 : run7_g16 = true
  s7_g17 : run7_g17 = true
  s7_g18 : run7_g18 = true
  s7_g19 : run7_g19 = true
  s7_g20 : run7_g20 = true
  s7_g21 : run7_g21 = true
  s7_g22 : run7_g22 = true
  s7_g23 : run7_g23 = true
  s7_g24 : run7_g24 = true
  s7_g25 : run7_g25 = true
  s7_g26 : run7_g26 = true
  s7_g27 : run7_g27 = true
  s7_g28 : run7_g28 = true
  s7_g29 : run7_g29 = true
  s8_g0 : run8_g0 = true
  s9_g0 : run9_g0 = true
  s10_g0 : run10_g0 = true
  s11_g0 : run11_g0 = true
  s11_g1 : run11_g1 = true
  s11_g2 : run11_g2 = true
  s11_g3 : run11_g3 = true
  s11_g4 : run11_g4 = true
  s11_g5 : run11_g5 = true
  s11_g6 : run11_g6 = true
  s11_g7 : run11_g7 = true
  s11_g8 : run11_g8 = true
  s11_g9 : run11_g9 = true
  s11_g10 : run11_g10 = true
  s11_g11 : run11_g11 = true
  s11_g12 : run11_g12 = true
  s11_g13 : run11_g13 = true
  s11_g14 : run11_g14 = true
  s11_g15 : run11_g15 = true
  s11_g16 : run11_g16 = true
  s11_g17 : run11_g17 = true
  s11_g18 : run11_g18 = true
  s11_g19 : run11_x19 = true
  s11_g20 : run11_g20 = true
  s11_g21 : run11_g21 = true
  s11_g22 : run11_g22 = true
  s11_g23 : run11_g23 = true
  s11_g24 : run11_x24 = true
  s11_g25 : run11_g25 = true
  s11_g26 : run11_g26 = true
  s11_g27 : run11_g27 = true
  s11_g28 : run11_g28 = true
  s11_g29 : run11_g29 = true
theorem tab1_ok {ν : Nu} (ht : TblOk Tryz.prog ν tab0) (h3 : IntCell ν 2) (hG : ∀ q ∈ gls, ∃ fr, (q.g, q.obj fr) ∈ ν.G) (R : Stages) : TblOk Tryz.prog ν tab1 := by
  obtain ⟨t', ht', h⟩ := mkTblZ_true noNG sym_nil (splitOk h3) fnsW_ok ht R.words
  unfold tab1
  exact ht.set (f := 524) (by omega) (FnGood.closed_map ht' h (fun w hw => hs_HR hG hw) phi_lim)
theorem tab2_ok {ν : Nu} (ht : TblOk Tryz.prog ν tab1) (h3 : IntCell ν 2) (hG : ∀ q ∈ gls, ∃ fr, (q.g, q.obj fr) ∈ ν.G) (R : Stages) : TblOk Tryz.prog ν tab2 := by
  obtain ⟨t', ht', h⟩ := mkTblZ_true noNG sym_nil (splitOk h3) fnsL_ok ht R.s2_true
  unfold tab2
  exact ht.set (f := 9) (by omega) (FnGood.closed_true ht' h (fun w hw => hs_HR hG hw) phi_lim)
theorem tab3_ok {ν : Nu} (ht : TblOk Tryz.prog ν tab2) (h3 : IntCell ν 2) (hG : ∀ q ∈ gls, ∃ fr, (q.g, q.obj fr) ∈ ν.G) (R : Stages) : TblOk Tryz.prog ν tab3 := by
  obtain ⟨u0, hu0, e0⟩ := mkTblZ_true noNG sym_nil (splitOk h3) fnsD_ok ht R.s3_dat
  unfold tab3
  exact ht.set (f := 58) (by omega) (FnGood.memo2 hu0 dat e0 (fun w hw => hs_HR hG hw) (phi_in hG) (by decide +kernel) (by decide +kernel) (by decide +kernel) failD_good)
theorem tab4_ok {ν : Nu} (ht : TblOk Tryz.prog ν tab3) (h3 : IntCell ν 2) (hG : ∀ q ∈ gls, ∃ fr, (q.g, q.obj fr) ∈ ν.G) (R : Stages) : TblOk Tryz.prog ν tab4 := by
  obtain ⟨u0, hu0, e0⟩ := mkTblZ_true noNG sym_nil (splitOk h3) fnsB_ok ht R.s4_lay
  unfold tab4
  exact ht.set (f := 54) (by omega) (FnGood.memo2 hu0 lay e0 (fun w hw => hs_HR hG hw) (phi_in hG) (by decide +kernel) (by decide +kernel) (by decide +kernel) failD_good)
theorem q5 {ν : Nu} (ht : TblOk Tryz.prog ν tab4) (h3 : IntCell ν 2) {m : Memo2} (R : rk0 fnsO tab4 6 m = true) : ∃ t, TblOk Tryz.prog ν t ∧ runF t 60 6 m.args (m.h0 gls 16) (memoK0 m) (fun _ _ => false) = true := mkTblZ_true noNG sym_nil (splitOk h3) fnsO_ok ht R
theorem c5 {ν : Nu} (hG : ∀ q ∈ gls, ∃ fr, (q.g, q.obj fr) ∈ ν.G) {t : T4 FnD TD} {m : Memo2} (hu : TblOk Tryz.prog ν t) (e : runF t 60 6 m.args (m.h0 gls 16) (memoK0 m) (fun _ _ => false) = true) (h : 16 + m.ins.length ≤ 1024) {d : FnD} (hd : FnGood Tryz.prog ν 6 d) : FnGood Tryz.prog ν 6 (memoD0 m 16 d) := FnGood.memo0 hu m e (fun w hw => hs_HR hG hw) (phi_in hG) h hd
theorem tab5_ok {ν : Nu} (ht : TblOk Tryz.prog ν tab4) (h3 : IntCell ν 2) (hG : ∀ q ∈ gls, ∃ fr, (q.g, q.obj fr) ∈ ν.G) (R : Stages) : TblOk Tryz.prog ν tab5 := by
  obtain ⟨u0, hu0, e0⟩ := q5 ht h3 R.s5_g0
  obtain ⟨u1, hu1, e1⟩ := q5 ht h3 R.s5_g1
  obtain ⟨u2, hu2, e2⟩ := q5 ht h3 R.s5_g2
  obtain ⟨u3, hu3, e3⟩ := q5 ht h3 R.s5_g3
  obtain ⟨u4, hu4, e4⟩ := q5 ht h3 R.s5_g4
  obtain ⟨u5, hu5, e5⟩ := q5 ht h3 R.s5_g5
  obtain ⟨u6, hu6, e6⟩ := q5 ht h3 R.s5_g6
  obtain ⟨u7, hu7, e7⟩ := q5 ht h3 R.s5_g7
  obtain ⟨u8, hu8, e8⟩ := q5 ht h3 R.s5_g8
  obtain ⟨u9, hu9, e9⟩ := q5 ht h3 R.s5_g9
  obtain ⟨u10, hu10, e10⟩ := q5 ht h3 R.s5_g10
  obtain ⟨u11, hu11, e11⟩ := q5 ht h3 R.s5_g11
  obtain ⟨u12, hu12, e12⟩ := q5 ht h3 R.s5_g12
  obtain ⟨u13, hu13, e13⟩ := q5 ht h3 R.s5_g13
  obtain ⟨u14, hu14, e14⟩ := q5 ht h3 R.s5_g14
  obtain ⟨u15, hu15, e15⟩ := q5 ht h3 R.s5_g15
  obtain ⟨u16, hu16, e16⟩ := q5 ht h3 R.s5_g16
  obtain ⟨u17, hu17, e17⟩ := q5 ht h3 R.s5_g17
  obtain ⟨u18, hu18, e18⟩ := q5 ht h3 R.s5_g18
  obtain ⟨u19, hu19, e19⟩ := q5 ht h3 R.s5_g19
  obtain ⟨u20, hu20, e20⟩ := q5 ht h3 R.s5_g20
  obtain ⟨u21, hu21, e21⟩ := q5 ht h3 R.s5_g21
  obtain ⟨u22, hu22, e22⟩ := q5 ht h3 R.s5_g22
  obtain ⟨u23, hu23, e23⟩ := q5 ht h3 R.s5_g23
  obtain ⟨u24, hu24, e24⟩ := q5 ht h3 R.s5_g24
  obtain ⟨u25, hu25, e25⟩ := q5 ht h3 R.s5_g25
  obtain ⟨u26, hu26, e26⟩ := q5 ht h3 R.s5_g26
  obtain ⟨u27, hu27, e27⟩ := q5 ht h3 R.s5_g27
  obtain ⟨u28, hu28, e28⟩ := q5 ht h3 R.s5_g28
  obtain ⟨u29, hu29, e29⟩ := q5 ht h3 R.s5_g29
  unfold tab5
  exact ht.set (f := 6) (by omega) (c5 hG hu0 e0 (by decide +kernel) (c5 hG hu1 e1 (by decide +kernel) (c5 hG hu2 e2 (by decide +kernel) (c5 hG hu3 e3 (by decide +kernel) (c5 hG hu4 e4 (by decide +kernel) (c5 hG hu5 e5 (by decide +kernel) (c5 hG hu6 e6 (by decide +kernel) (c5 hG hu7 e7 (by decide +kernel) (c5 hG hu8 e8 (by decide +kernel) (c5 hG hu9 e9 (by decide +kernel) (c5 hG hu10 e10 (by decide +kernel) (c5 hG hu11 e11 (by decide +kernel) (c5 hG hu12 e12 (by decide +kernel) (c5 hG hu13 e13 (by decide +kernel) (c5 hG hu14 e14 (by decide +kernel) (c5 hG hu15 e15 (by decide +kernel) (c5 hG hu16 e16 (by decide +kernel) (c5 hG hu17 e17 (by decide +kernel) (c5 hG hu18 e18 (by decide +kernel) (c5 hG hu19 e19 (by decide +kernel) (c5 hG hu20 e20 (by decide +kernel) (c5 hG hu21 e21 (by decide +kernel) (c5 hG hu22 e22 (by decide +kernel) (c5 hG hu23 e23 (by decide +kernel) (c5 hG hu24 e24 (by decide +kernel) (c5 hG hu25 e25 (by decide +kernel) (c5 hG hu26 e26 (by decide +kernel) (c5 hG hu27 e27 (by decide +kernel) (c5 hG hu28 e28 (by decide +kernel) (c5 hG hu29 e29 (by decide +kernel) failD_good))))))))))))))))))))))))))))))
theorem tab6_ok {ν : Nu} (ht : TblOk Tryz.prog ν tab5) (h3 : IntCell ν 2) (hG : ∀ q ∈ gls, ∃ fr, (q.g, q.obj fr) ∈ ν.G) (R : Stages) : TblOk Tryz.prog ν tab6 := by
  obtain ⟨u0, hu0, e0⟩ := mkTblZ_true noNG sym_nil (splitOk h3) fnsM_ok ht R.s6_mac
  unfold tab6
  exact ht.set (f := 29) (by omega) (FnGood.memo2 hu0 mac e0 (fun w hw => hs_HR hG hw) (phi_in hG) (by decide +kernel) (by decide +kernel) (by decide +kernel) failD_good)
theorem q7 {ν : Nu} (ht : TblOk Tryz.prog ν tab6) (h3 : IntCell ν 2) {m : Memo2} (R : rk0 fnsQ tab6 5 m = true) : ∃ t, TblOk Tryz.prog ν t ∧ runF t 60 5 m.args (m.h0 gls 16) (memoK0 m) (fun _ _ => false) = true := mkTblZ_true noNG sym_nil (splitOk h3) fnsQ_ok ht R
theorem c7 {ν : Nu} (hG : ∀ q ∈ gls, ∃ fr, (q.g, q.obj fr) ∈ ν.G) {t : T4 FnD TD} {m : Memo2} (hu : TblOk Tryz.prog ν t) (e : runF t 60 5 m.args (m.h0 gls 16) (memoK0 m) (fun _ _ => false) = true) (h : 16 + m.ins.length ≤ 1024) {d : FnD} (hd : FnGood Tryz.prog ν 5 d) : FnGood Tryz.prog ν 5 (memoD0 m 16 d) := FnGood.memo0 hu m e (fun w hw => hs_HR hG hw) (phi_in hG) h hd
theorem tab7_ok {ν : Nu} (ht : TblOk Tryz.prog ν tab6) (h3 : IntCell ν 2) (hG : ∀ q ∈ gls, ∃ fr, (q.g, q.obj fr) ∈ ν.G) (R : Stages) : TblOk Tryz.prog ν tab7 := by
  obtain ⟨u0, hu0, e0⟩ := q7 ht h3 R.s7_g0
  obtain ⟨u1, hu1, e1⟩ := q7 ht h3 R.s7_g1
  obtain ⟨u2, hu2, e2⟩ := q7 ht h3 R.s7_g2
  obtain ⟨u3, hu3, e3⟩ := q7 ht h3 R.s7_g3
  obtain ⟨u4, hu4, e4⟩ := q7 ht h3 R.s7_g4
  obtain ⟨u5, hu5, e5⟩ := q7 ht h3 R.s7_g5
  obtain ⟨u6, hu6, e6⟩ := q7 ht h3 R.s7_g6
  obtain ⟨u7, hu7, e7⟩ := q7 ht h3 R.s7_g7
  obtain ⟨u8, hu8, e8⟩ := q7 ht h3 R.s7_g8
  obtain ⟨u9, hu9, e9⟩ := q7 ht h3 R.s7_g9
  obtain ⟨u10, hu10, e10⟩ := q7 ht h3 R.s7_g10
  obtain ⟨u11, hu11, e11⟩ := q7 ht h3 R.s7_g11
  obtain ⟨u12, hu12, e12⟩ := q7 ht h3 R.s7_g12
  obtain ⟨u13, hu13, e13⟩ := q7 ht h3 R.s7_g13
  obtain ⟨u14, hu14, e14⟩ := q7 ht h3 R.s7_g14
  obtain ⟨u15, hu15, e15⟩ := q7 ht h3 R.s7_g15
  obtain ⟨u16, hu16, e16⟩ := q7 ht h3 R.s7_g16
  obtain ⟨u17, hu17, e17⟩ := q7 ht h3 R.s7_g17
  obtain ⟨u18, hu18, e18⟩ := q7 ht h3 R.s7_g18
  obtain ⟨u19, hu19, e19⟩ := q7 ht h3 R.s7_g19
  obtain ⟨u20, hu20, e20⟩ := q7 ht h3 R.s7_g20
  obtain ⟨u21, hu21, e21⟩ := q7 ht h3 R.s7_g21
  obtain ⟨u22, hu22, e22⟩ := q7 ht h3 R.s7_g22
  obtain ⟨u23, hu23, e23⟩ := q7 ht h3 R.s7_g23
  obtain ⟨u24, hu24, e24⟩ := q7 ht h3 R.s7_g24
  obtain ⟨u25, hu25, e25⟩ := q7 ht h3 R.s7_g25
  obtain ⟨u26, hu26, e26⟩ := q7 ht h3 R.s7_g26
  obtain ⟨u27, hu27, e27⟩ := q7 ht h3 R.s7_g27
  obtain ⟨u28, hu28, e28⟩ := q7 ht h3 R.s7_g28
  obtain ⟨u29, hu29, e29⟩ := q7 ht h3 R.s7_g29
  unfold tab7
  exact ht.set (f := 5) (by omega) (c7 hG hu0 e0 (by decide +kernel) (c7 hG hu1 e1 (by decide +kernel) (c7 hG hu2 e2 (by decide +kernel) (c7 hG hu3 e3 (by decide +kernel) (c7 hG hu4 e4 (by decide +kernel) (c7 hG hu5 e5 (by decide +kernel) (c7 hG hu6 e6 (by decide +kernel) (c7 hG hu7 e7 (by decide +kernel) (c7 hG hu8 e8 (by decide +kernel) (c7 hG hu9 e9 (by decide +kernel) (c7 hG hu10 e10 (by decide +kernel) (c7 hG hu11 e11 (by decide +kernel) (c7 hG hu12 e12 (by decide +kernel) (c7 hG hu13 e13 (by decide +kernel) (c7 hG hu14 e14 (by decide +kernel) (c7 hG hu15 e15 (by decide +kernel) (c7 hG hu16 e16 (by decide +kernel) (c7 hG hu17 e17 (by decide +kernel) (c7 hG hu18 e18 (by decide +kernel) (c7 hG hu19 e19 (by decide +kernel) (c7 hG hu20 e20 (by decide +kernel) (c7 hG hu21 e21 (by decide +kernel) (c7 hG hu22 e22 (by decide +kernel) (c7 hG hu23 e23 (by decide +kernel) (c7 hG hu24 e24 (by decide +kernel) (c7 hG hu25 e25 (by decide +kernel) (c7 hG hu26 e26 (by decide +kernel) (c7 hG hu27 e27 (by decide +kernel) (c7 hG hu28 e28 (by decide +kernel) (c7 hG hu29 e29 (by decide +kernel) failD_good))))))))))))))))))))))))))))))
theorem q8 {ν : Nu} (ht : TblOk Tryz.prog ν tab7) (h3 : IntCell ν 2) {m : Memo2} (R : rk0 fnsS tab7 72 m = true) : ∃ t, TblOk Tryz.prog ν t ∧ runF t 60 72 m.args (m.h0 gls 16) (memoK0 m) (fun _ _ => false) = true := mkTblZ_true noNG sym_nil (splitOk h3) fnsS_ok ht R
theorem c8 {ν : Nu} (hG : ∀ q ∈ gls, ∃ fr, (q.g, q.obj fr) ∈ ν.G) {t : T4 FnD TD} {m : Memo2} (hu : TblOk Tryz.prog ν t) (e : runF t 60 72 m.args (m.h0 gls 16) (memoK0 m) (fun _ _ => false) = true) (h : 16 + m.ins.length ≤ 1024) {d : FnD} (hd : FnGood Tryz.prog ν 72 d) : FnGood Tryz.prog ν 72 (memoDF m 16 d) := FnGood.memo0f hu m e (fun w hw => hs_HR hG hw) (phi_in hG) h hd
theorem tab8_ok {ν : Nu} (ht : TblOk Tryz.prog ν tab7) (h3 : IntCell ν 2) (hG : ∀ q ∈ gls, ∃ fr, (q.g, q.obj fr) ∈ ν.G) (R : Stages) : TblOk Tryz.prog ν tab8 := by
  obtain ⟨u0, hu0, e0⟩ := mkTblZ_true noNG sym_nil (splitOk h3) fnsS_ok ht R.s8_g0
  unfold tab8
  exact ht.set (f := 72) (by omega) (c8 hG hu0 (memoAll_mem e0 sum0 (by simp)) (by decide +kernel) (c8 hG hu0 (memoAll_mem e0 sum1 (by simp)) (by decide +kernel) (c8 hG hu0 (memoAll_mem e0 sum2 (by simp)) (by decide +kernel) (c8 hG hu0 (memoAll_mem e0 sum3 (by simp)) (by decide +kernel) (c8 hG hu0 (memoAll_mem e0 sum4 (by simp)) (by decide +kernel) (c8 hG hu0 (memoAll_mem e0 sum5 (by simp)) (by decide +kernel) failD_good))))))
theorem q9 {ν : Nu} (ht : TblOk Tryz.prog ν tab8) (h3 : IntCell ν 2) {m : Memo2} (R : rk0 fnsG tab8 190 m = true) : ∃ t, TblOk Tryz.prog ν t ∧ runF t 60 190 m.args (m.h0 gls 16) (memoK0 m) (fun _ _ => false) = true := mkTblZ_true noNG sym_nil (splitOk h3) fnsG_ok ht R
theorem c9 {ν : Nu} (hG : ∀ q ∈ gls, ∃ fr, (q.g, q.obj fr) ∈ ν.G) {t : T4 FnD TD} {m : Memo2} (hu : TblOk Tryz.prog ν t) (e : runF t 60 190 m.args (m.h0 gls 16) (memoK0 m) (fun _ _ => false) = true) (h : 16 + m.ins.length ≤ 1024) {d : FnD} (hd : FnGood Tryz.prog ν 190 d) : FnGood Tryz.prog ν 190 (memoDF m 16 d) := FnGood.memo0f hu m e (fun w hw => hs_HR hG hw) (phi_in hG) h hd
theorem tab9_ok {ν : Nu} (ht : TblOk Tryz.prog ν tab8) (h3 : IntCell ν 2) (hG : ∀ q ∈ gls, ∃ fr, (q.g, q.obj fr) ∈ ν.G) (R : Stages) : TblOk Tryz.prog ν tab9 := by
  obtain ⟨u0, hu0, e0⟩ := mkTblZ_true noNG sym_nil (splitOk h3) fnsG_ok ht R.s9_g0
  unfold tab9
  exact ht.set (f := 190) (by omega) (c9 hG hu0 (memoAll_mem e0 rng0 (by simp)) (by decide +kernel) (c9 hG hu0 (memoAll_mem e0 rng1 (by simp)) (by decide +kernel) (c9 hG hu0 (memoAll_mem e0 rng2 (by simp)) (by decide +kernel) (c9 hG hu0 (memoAll_mem e0 rng3 (by simp)) (by decide +kernel) (c9 hG hu0 (memoAll_mem e0 rng4 (by simp)) (by decide +kernel) (c9 hG hu0 (memoAll_mem e0 rng5 (by simp)) (by decide +kernel) (c9 hG hu0 (memoAll_mem e0 rng6 (by simp)) (by decide +kernel) (c9 hG hu0 (memoAll_mem e0 rng7 (by simp)) (by decide +kernel) (c9 hG hu0 (memoAll_mem e0 rng8 (by simp)) (by decide +kernel) (c9 hG hu0 (memoAll_mem e0 rng9 (by simp)) (by decide +kernel) (c9 hG hu0 (memoAll_mem e0 rng10 (by simp)) (by decide +kernel) (c9 hG hu0 (memoAll_mem e0 rng11 (by simp)) (by decide +kernel) failD_good))))))))))))
theorem q10 {ν : Nu} (ht : TblOk Tryz.prog ν tab9) (h3 : IntCell ν 2) {m : Memo2} (R : rk0 fnsT tab9 191 m = true) : ∃ t, TblOk Tryz.prog ν t ∧ runF t 60 191 m.args (m.h0 gls 16) (memoK0 m) (fun _ _ => false) = true := mkTblZ_true noNG sym_nil (splitOk h3) fnsT_ok ht R
theorem c10 {ν : Nu} (hG : ∀ q ∈ gls, ∃ fr, (q.g, q.obj fr) ∈ ν.G) {t : T4 FnD TD} {m : Memo2} (hu : TblOk Tryz.prog ν t) (e : runF t 60 191 m.args (m.h0 gls 16) (memoK0 m) (fun _ _ => false) = true) (h : 16 + m.ins.length ≤ 1024) {d : FnD} (hd : FnGood Tryz.prog ν 191 d) : FnGood Tryz.prog ν 191 (memoDF m 16 d) := FnGood.memo0f hu m e (fun w hw => hs_HR hG hw) (phi_in hG) h hd
theorem tab10_ok {ν : Nu} (ht : TblOk Tryz.prog ν tab9) (h3 : IntCell ν 2) (hG : ∀ q ∈ gls, ∃ fr, (q.g, q.obj fr) ∈ ν.G) (R : Stages) : TblOk Tryz.prog ν tab10 := by
  obtain ⟨u0, hu0, e0⟩ := mkTblZ_true noNG sym_nil (splitOk h3) fnsT_ok ht R.s10_g0
  unfold tab10
  exact ht.set (f := 191) (by omega) (c10 hG hu0 (memoAll_mem e0 num0 (by simp)) (by decide +kernel) (c10 hG hu0 (memoAll_mem e0 num1 (by simp)) (by decide +kernel) (c10 hG hu0 (memoAll_mem e0 num2 (by simp)) (by decide +kernel) (c10 hG hu0 (memoAll_mem e0 num3 (by simp)) (by decide +kernel) (c10 hG hu0 (memoAll_mem e0 num4 (by simp)) (by decide +kernel) (c10 hG hu0 (memoAll_mem e0 num5 (by simp)) (by decide +kernel) (c10 hG hu0 (memoAll_mem e0 num6 (by simp)) (by decide +kernel) failD_good)))))))
theorem q11 {ν : Nu} (ht : TblOk Tryz.prog ν tab10) (h3 : IntCell ν 2) {m : Memo2} (R : rk0 fnsC tab10 4 m = true) : ∃ t, TblOk Tryz.prog ν t ∧ runF t 60 4 m.args (m.h0 gls 16) (memoK0 m) (fun _ _ => false) = true := mkTblZ_true noNG sym_nil (splitOk h3) fnsC_ok ht R
theorem fnsX_ok : FnsOkZ Tryz.prog fnsX := ⟨Tryz.func4, Tryz.func7, Tryz.func8, Tryz.func10, Tryz.func11, Tryz.func12, Tryz.func13, Tryz.func14, Tryz.func15, Tryz.func16, Tryz.func17, Tryz.func18, Tryz.func21, Tryz.func22, Tryz.func23, Tryz.func27, Tryz.func28, Tryz.func30, Tryz.func31, Tryz.func32, Tryz.func33, Tryz.func34, Tryz.func35, Tryz.func36, Tryz.func37, Tryz.func38, Tryz.func39, Tryz.func40, Tryz.func41, Tryz.func48, Tryz.func50, Tryz.func55, Tryz.func56, Tryz.func57, Tryz.func60, Tryz.func61, Tryz.func62, Tryz.func63, Tryz.func64, Tryz.func65, Tryz.func66, Tryz.func67, Tryz.func68, Tryz.func69, Tryz.func70, Tryz.func71, Tryz.func75, Tryz.func77, Tryz.func91, Tryz.func92, Tryz.func93, Tryz.func94, Tryz.func95, Tryz.func102, Tryz.func103, Tryz.func106, Tryz.func107, Tryz.func108, Tryz.func109, Tryz.func110, Tryz.func112, Tryz.func113, Tryz.func114, Tryz.func118, Tryz.func119, Tryz.func120, Tryz.func121, Tryz.func122, Tryz.func125, Tryz.func132, Tryz.func136, Tryz.func144, Tryz.func145, Tryz.func147, Tryz.func158, Tryz.func162, Tryz.func164, Tryz.func165, Tryz.func166, Tryz.func170, Tryz.func174, Tryz.func178, Tryz.func179, Tryz.func182, Tryz.func183, Tryz.func184, Tryz.func185, Tryz.func189, Tryz.func192, Tryz.func199, Tryz.func200, Tryz.func202, Tryz.func203, Tryz.func204, Tryz.func208, Tryz.func209, Tryz.func210, Tryz.func211, Tryz.func215, Tryz.func216, Tryz.func239, Tryz.func240, Tryz.func241, Tryz.func244, Tryz.func245, Tryz.func246, Tryz.func247, Tryz.func249, Tryz.func250, Tryz.func251, Tryz.func252, Tryz.func253, Tryz.func254, Tryz.func260, Tryz.func262, Tryz.func263, Tryz.func264, Tryz.func265, Tryz.func274, Tryz.func277, Tryz.func278, Tryz.func280, Tryz.func281, Tryz.func282, Tryz.func284, Tryz.func285, Tryz.func286, Tryz.func287, Tryz.func288, Tryz.func289, Tryz.func291, Tryz.func294, Tryz.func300, Tryz.func307, Tryz.func308, Tryz.func312, Tryz.func314, Tryz.func315, Tryz.func316, Tryz.func317, Tryz.func318, Tryz.func319, Tryz.func320, Tryz.func321, Tryz.func326, Tryz.func327, Tryz.func328, Tryz.func331, Tryz.func332, Tryz.func333, Tryz.func335, Tryz.func336, Tryz.func337, Tryz.func338, Tryz.func341, Tryz.func343, Tryz.func344, Tryz.func351, Tryz.func352, Tryz.func356, Tryz.func361, Tryz.func362, Tryz.func363, Tryz.func364, Tryz.func365, Tryz.func367, Tryz.func376, Tryz.func377, Tryz.func378, Tryz.func380, Tryz.func381, Tryz.func383, Tryz.func384, Tryz.func385, Tryz.func386, Tryz.func387, Tryz.func389, Tryz.func412, Tryz.func413, Tryz.func415, Tryz.func416, Tryz.func417, Tryz.func418, Tryz.func419, Tryz.func425, Tryz.func426, Tryz.func427, Tryz.func428, Tryz.func429, Tryz.func430, Tryz.func431, Tryz.func432, Tryz.func433, Tryz.func434, Tryz.func435, Tryz.func455, Tryz.func459, Tryz.func460, Tryz.func461, Tryz.func462, Tryz.func463, Tryz.func465, Tryz.func466, Tryz.func467, Tryz.func470, Tryz.func472, Tryz.func473, Tryz.func476, Tryz.func481, Tryz.func482, Tryz.func485, Tryz.func490, Tryz.func491, Tryz.func493, Tryz.func519, Tryz.func521, Tryz.func525, Tryz.func526, Tryz.func528, Tryz.func535, Tryz.func536, Tryz.func542, Tryz.func543, Tryz.func544, Tryz.func552, Tryz.func553, Tryz.func554, Tryz.func559, Tryz.func560, Tryz.func561, Tryz.func562, Tryz.func563, Tryz.func565, Tryz.func566, Tryz.func567, Tryz.func568, Tryz.func590, Tryz.func592, Tryz.func593, Tryz.func594, Tryz.func614, Tryz.func620, Tryz.func653, Tryz.func654, Tryz.func655, Tryz.func660, Tryz.func668, Tryz.func669, Tryz.func686, Tryz.func733, Tryz.func734, Tryz.func762, trivial⟩
theorem qX {ν : Nu} (ht : TblOk Tryz.prog ν tab10) (h3 : IntCell ν 2) {m : Memo2} (R : rk0 fnsX tab10 4 m = true) : ∃ t, TblOk Tryz.prog ν t ∧ runF t 60 4 m.args (m.h0 gls 16) (memoK0 m) (fun _ _ => false) = true := mkTblZ_true noNG sym_nil (splitOk h3) fnsX_ok ht R
theorem c11 {ν : Nu} (hG : ∀ q ∈ gls, ∃ fr, (q.g, q.obj fr) ∈ ν.G) {t : T4 FnD TD} {m : Memo2} (hu : TblOk Tryz.prog ν t) (e : runF t 60 4 m.args (m.h0 gls 16) (memoK0 m) (fun _ _ => false) = true) (h : 16 + m.ins.length ≤ 1024) {d : FnD} (hd : FnGood Tryz.prog ν 4 d) : FnGood Tryz.prog ν 4 (memoD0 m 16 d) := FnGood.memo0 hu m e (fun w hw => hs_HR hG hw) (phi_in hG) h hd
theorem tab11_ok {ν : Nu} (ht : TblOk Tryz.prog ν tab10) (h3 : IntCell ν 2) (hG : ∀ q ∈ gls, ∃ fr, (q.g, q.obj fr) ∈ ν.G) (R : Stages) : TblOk Tryz.prog ν tab11 := by
  obtain ⟨u0, hu0, e0⟩ := q11 ht h3 R.s11_g0
  obtain ⟨u1, hu1, e1⟩ := q11 ht h3 R.s11_g1
  obtain ⟨u2, hu2, e2⟩ := q11 ht h3 R.s11_g2
  obtain ⟨u3, hu3, e3⟩ := q11 ht h3 R.s11_g3
  obtain ⟨u4, hu4, e4⟩ := q11 ht h3 R.s11_g4
  obtain ⟨u5, hu5, e5⟩ := q11 ht h3 R.s11_g5
  obtain ⟨u6, hu6, e6⟩ := q11 ht h3 R.s11_g6
  obtain ⟨u7, hu7, e7⟩ := q11 ht h3 R.s11_g7
  obtain ⟨u8, hu8, e8⟩ := q11 ht h3 R.s11_g8
  obtain ⟨u9, hu9, e9⟩ := q11 ht h3 R.s11_g9
  obtain ⟨u10, hu10, e10⟩ := q11 ht h3 R.s11_g10
  obtain ⟨u11, hu11, e11⟩ := q11 ht h3 R.s11_g11
  obtain ⟨u12, hu12, e12⟩ := q11 ht h3 R.s11_g12
  obtain ⟨u13, hu13, e13⟩ := q11 ht h3 R.s11_g13
  obtain ⟨u14, hu14, e14⟩ := q11 ht h3 R.s11_g14
  obtain ⟨u15, hu15, e15⟩ := q11 ht h3 R.s11_g15
  obtain ⟨u16, hu16, e16⟩ := q11 ht h3 R.s11_g16
  obtain ⟨u17, hu17, e17⟩ := q11 ht h3 R.s11_g17
  obtain ⟨u18, hu18, e18⟩ := q11 ht h3 R.s11_g18
  obtain ⟨u19, hu19, e19⟩ := qX ht h3 R.s11_g19
  obtain ⟨u20, hu20, e20⟩ := q11 ht h3 R.s11_g20
  obtain ⟨u21, hu21, e21⟩ := q11 ht h3 R.s11_g21
  obtain ⟨u22, hu22, e22⟩ := q11 ht h3 R.s11_g22
  obtain ⟨u23, hu23, e23⟩ := q11 ht h3 R.s11_g23
  obtain ⟨u24, hu24, e24⟩ := qX ht h3 R.s11_g24
  obtain ⟨u25, hu25, e25⟩ := q11 ht h3 R.s11_g25
  obtain ⟨u26, hu26, e26⟩ := q11 ht h3 R.s11_g26
  obtain ⟨u27, hu27, e27⟩ := q11 ht h3 R.s11_g27
  obtain ⟨u28, hu28, e28⟩ := q11 ht h3 R.s11_g28
  obtain ⟨u29, hu29, e29⟩ := q11 ht h3 R.s11_g29
  unfold tab11
  exact ht.set (f := 4) (by omega) (c11 hG hu0 e0 (by decide +kernel) (c11 hG hu1 e1 (by decide +kernel) (c11 hG hu2 e2 (by decide +kernel) (c11 hG hu3 e3 (by decide +kernel) (c11 hG hu4 e4 (by decide +kernel) (c11 hG hu5 e5 (by decide +kernel) (c11 hG hu6 e6 (by decide +kernel) (c11 hG hu7 e7 (by decide +kernel) (c11 hG hu8 e8 (by decide +kernel) (c11 hG hu9 e9 (by decide +kernel) (c11 hG hu10 e10 (by decide +kernel) (c11 hG hu11 e11 (by decide +kernel) (c11 hG hu12 e12 (by decide +kernel) (c11 hG hu13 e13 (by decide +kernel) (c11 hG hu14 e14 (by decide +kernel) (c11 hG hu15 e15 (by decide +kernel) (c11 hG hu16 e16 (by decide +kernel) (c11 hG hu17 e17 (by decide +kernel) (c11 hG hu18 e18 (by decide +kernel) (c11 hG hu19 e19 (by decide +kernel) (c11 hG hu20 e20 (by decide +kernel) (c11 hG hu21 e21 (by decide +kernel) (c11 hG hu22 e22 (by decide +kernel) (c11 hG hu23 e23 (by decide +kernel) (c11 hG hu24 e24 (by decide +kernel) (c11 hG hu25 e25 (by decide +kernel) (c11 hG hu26 e26 (by decide +kernel) (c11 hG hu27 e27 (by decide +kernel) (c11 hG hu28 e28 (by decide +kernel) (c11 hG hu29 e29 (by decide +kernel) failD_good))))))))))))))))))))))))))))))
theorem tabF_ok {ν : Nu} (h0 : TabCell Tryz.prog ν "strings.asciiSpace" .u8 Lib.asciiSpaceTab) (hP : TabCell Tryz.prog ν "internal/strconv.uint64pow10" .u64 Lib.pow10Tab) (h3 : IntCell ν 2) (hG : ∀ q ∈ gls, ∃ fr, (q.g, q.obj fr) ∈ ν.G) (R : Stages) : TblOk Tryz.prog ν tab11 :=
  (tab11_ok (tab10_ok (tab9_ok (tab8_ok (tab7_ok (tab6_ok (tab5_ok (tab4_ok (tab3_ok (tab2_ok (tab1_ok (tab0_ok h0 h3 hP) h3 hG R) h3 hG R) h3 hG R) h3 hG R) h3 hG R) h3 hG R) h3 hG R) h3 hG R) h3 hG R) h3 hG R) h3 hG R)
/-- a run by a table that is good, put to use -/
theorem run_said {f : Nat → Int} {G : List (Nat × Obj)} {V : Nat → Value} {t : T4 FnD TD} (ht : TblOk Tryz.prog ⟨f, G, V⟩ t) (g4 : ∀ q ∈ gls, ∃ fr, (q.g, q.obj fr) ∈ G) {W : World} (g1 : ∀ b o, (b, o) ∈ G → W.heap[b]? = some o) {avs : List AV} {vs : List Value} (hv : VRs (phiOf gls) ⟨f, G, V⟩ avs vs)
    (h : runF t 60 3 avs hs isTrueK (fun _ _ => false) = true) : Calls Tryz.prog 3 vs.toArray W fun e w' => e = .returned (.bool true) ∧ Below W.heap.size W w' := by
  have hr := hs_HR (ν := ⟨f, G, V⟩) g4 (w := W) g1
  have hco := runF_ok ht 60 3 _ hs isTrueK (fun _ _ => false) h (phiOf gls) W vs hr hv
  have key : ∀ e w', FPost (phiOf gls) ⟨f, G, V⟩ hs.ro W hs.ds isTrueK (fun _ _ => false) e w' → e = .returned (.bool true) ∧ Below W.heap.size W w' := by
    intro e w' hp
    cases e with
    | returned x =>
      obtain ⟨φ', av, h', hvr, hr', hx, _, _, hav⟩ := hp
      obtain ⟨b, e2, hb2⟩ := vBool_true (show vBool av (fun b => b) = true from hav)
      subst e2 hb2
      cases hvr
      exact ⟨rfl, below_of_ext hx phi_lim⟩
    | panicked chain =>
      obtain ⟨φ', av, h', v, _, _, _, _, _, _, hav⟩ := hp
      cases hav
    | outgrown => exact hp.elim
  rcases hco with ⟨_, h2⟩ | ⟨x, w', h2, _⟩
  · exact h2.mono key
  · exfalso
    have hb : hasBody Tryz.prog 3 = true := by kernel_rfl
    rw [hasBody_true hb] at h2
    cases h2
/-- what the kernel ran -/
structure Runs : Prop extends Stages where
  root : runRoot = true
theorem walk (R : Runs) {W : World} (hF : Facts W) : Calls Tryz.prog 3 #[] W fun e w' => e = .returned (.bool true) ∧ Below W.heap.size W w' := by
  have hF' := hF
  obtain ⟨fP, hP⟩ := hF'.gP
  obtain ⟨G, g1, g2, g3, g4, g5⟩ := nu_of hF [(3, Obj.cells (Lib.pow10Tab.map fun z => Value.int .u64 z).toArray 366 fP)] (fun b o h => by
    cases List.mem_singleton.1 h
    exact hP)
  have F : Nat → Int := fun _ => 0
  have V : Nat → Value := fun _ => .nilFunc
  have k3 := g3 F V
  have kP : TabCell Tryz.prog ⟨F, G, V⟩ "internal/strconv.uint64pow10" .u64 Lib.pow10Tab := ⟨3, 366, fP, namedP, g5 _ List.mem_cons_self⟩
  have tF := tabF_ok (g2 F V) kP k3 g4 R.toStages
  obtain ⟨t1, ht1, h⟩ := mkTblZ_true noNG sym_nil (splitOk k3) fnsR_ok tF R.root
  exact run_said ht1 g4 g1 (vs := []) .nil h
end Go.Proofs.YtakohamjgilnpaaGreatDoor
