/-
  The tables of functions, the kept calls and the start of the evaluator's runs: definitions alone.
-/
import Derived.Test.YtakohamjgilnpaaGreatDoorAbs4
import Derived.Test.YtakohamjgilnpaaGreatDoorProg
import Derived.KernelRfl
set_option linter.unusedVariables false
set_option linter.unusedSimpArgs false
namespace Go.Proofs.YtakohamjgilnpaaGreatDoor
open Go Go.Abs
set_option maxRecDepth 100000
noncomputable section
noncomputable def tru : Bool := true
noncomputable def gls : List Gl := [⟨8, [36, 43, 45], 716⟩, ⟨9, [63, 15, 63, 15, 61, 61], 792⟩]
noncomputable def hs : H := h0Of gls 16
/-- the functions by contract -/
noncomputable def tab0 : T4 FnD TD := T4.set TD 19 (itoaD) (T4.set TD 276 (bothD Lib.trimLeftS) (T4.set TD 25 (bothD Lib.trimS) (T4.set TD 222 (indexByteD .u8 256) (T4.set TD 134 (indexByteD .u8 256) (T4.set TD 350 (repeatD) (T4.set TD 24 (fieldsD 9) (T4.set TD 74 (growD 127 5) (T4.set TD 42 (stringD 127 5) (T4.set TD 73 (copyCheckD 127) (T4.set TD 243 (countD) (T4.set TD 26 (containsD) (T4.set TD 81 (indexD) (T4.set TD 53 (indexD) (T4.e TD))))))))))))))
/-- words.table() besides -/
noncomputable def tab1 : T4 FnD TD := T4.set TD 524 (mapD wordsMs wordsClock) tab0
noncomputable def failD : FnD := fun _ _ _ _ _ => false
noncomputable def fnsW : List FnE := [⟨524, Tryz.f524, false, 0⟩]
noncomputable def fnsL : List FnE := [⟨7, Tryz.f7, false, 0⟩, ⟨8, Tryz.f8, false, 0⟩, ⟨9, Tryz.f9, false, 0⟩, ⟨10, Tryz.f10, false, 0⟩, ⟨12, Tryz.f12, false, 0⟩, ⟨15, Tryz.f15, false, 0⟩, ⟨16, Tryz.f16, false, 0⟩, ⟨20, Tryz.f20, false, 0⟩, ⟨21, Tryz.f21, false, 0⟩, ⟨22, Tryz.f22, false, 0⟩, ⟨23, Tryz.f23, false, 0⟩, ⟨27, Tryz.f27, false, 0⟩, ⟨28, Tryz.f28, false, 0⟩, ⟨29, Tryz.f29, false, 0⟩, ⟨31, Tryz.f31, false, 0⟩, ⟨32, Tryz.f32, false, 0⟩, ⟨33, Tryz.f33, false, 0⟩, ⟨37, Tryz.f37, false, 0⟩, ⟨38, Tryz.f38, false, 0⟩, ⟨39, Tryz.f39, false, 0⟩, ⟨40, Tryz.f40, false, 0⟩, ⟨41, Tryz.f41, false, 0⟩, ⟨43, Tryz.f43, false, 0⟩, ⟨46, Tryz.f46, false, 0⟩, ⟨48, Tryz.f48, false, 0⟩, ⟨49, Tryz.f49, false, 0⟩, ⟨50, Tryz.f50, false, 0⟩, ⟨54, Tryz.f54, false, 0⟩, ⟨55, Tryz.f55, false, 0⟩, ⟨56, Tryz.f56, false, 0⟩, ⟨57, Tryz.f57, false, 0⟩, ⟨58, Tryz.f58, false, 0⟩, ⟨59, Tryz.f59, false, 0⟩, ⟨60, Tryz.f60, false, 0⟩, ⟨61, Tryz.f61, false, 0⟩, ⟨62, Tryz.f62, false, 0⟩, ⟨63, Tryz.f63, false, 1⟩, ⟨64, Tryz.f64, false, 0⟩, ⟨65, Tryz.f65, false, 0⟩, ⟨66, Tryz.f66, false, 0⟩, ⟨67, Tryz.f67, false, 0⟩, ⟨68, Tryz.f68, false, 0⟩, ⟨69, Tryz.f69, false, 0⟩, ⟨70, Tryz.f70, false, 0⟩, ⟨71, Tryz.f71, false, 0⟩, ⟨72, Tryz.f72, false, 0⟩, ⟨75, Tryz.f75, false, 0⟩, ⟨77, Tryz.f77, false, 0⟩, ⟨79, Tryz.f79, false, 0⟩, ⟨82, Tryz.f82, false, 0⟩, ⟨83, Tryz.f83, false, 0⟩, ⟨84, Tryz.f84, false, 0⟩, ⟨85, Tryz.f85, false, 0⟩, ⟨86, Tryz.f86, false, 0⟩, ⟨87, Tryz.f87, false, 0⟩, ⟨88, Tryz.f88, false, 0⟩, ⟨89, Tryz.f89, false, 0⟩, ⟨90, Tryz.f90, false, 0⟩, ⟨91, Tryz.f91, false, 0⟩, ⟨92, Tryz.f92, false, 0⟩, ⟨93, Tryz.f93, false, 0⟩, ⟨94, Tryz.f94, false, 0⟩, ⟨95, Tryz.f95, false, 0⟩, ⟨96, Tryz.f96, false, 0⟩, ⟨97, Tryz.f97, false, 0⟩, ⟨98, Tryz.f98, false, 0⟩, ⟨99, Tryz.f99, false, 0⟩, ⟨100, Tryz.f100, false, 0⟩, ⟨102, Tryz.f102, false, 0⟩, ⟨103, Tryz.f103, false, 0⟩, ⟨106, Tryz.f106, false, 0⟩, ⟨107, Tryz.f107, false, 0⟩, ⟨108, Tryz.f108, false, 0⟩, ⟨109, Tryz.f109, false, 0⟩, ⟨110, Tryz.f110, false, 0⟩, ⟨111, Tryz.f111, false, 0⟩, ⟨112, Tryz.f112, false, 0⟩, ⟨113, Tryz.f113, false, 0⟩, ⟨114, Tryz.f114, false, 0⟩, ⟨115, Tryz.f115, false, 0⟩, ⟨118, Tryz.f118, false, 0⟩, ⟨120, Tryz.f120, false, 0⟩, ⟨121, Tryz.f121, false, 0⟩, ⟨122, Tryz.f122, false, 0⟩, ⟨125, Tryz.f125, false, 0⟩, ⟨132, Tryz.f132, false, 0⟩, ⟨136, Tryz.f136, false, 0⟩, ⟨138, Tryz.f138, false, 0⟩, ⟨139, Tryz.f139, false, 0⟩, ⟨140, Tryz.f140, false, 0⟩, ⟨141, Tryz.f141, false, 0⟩, ⟨142, Tryz.f142, false, 0⟩, ⟨143, Tryz.f143, false, 0⟩, ⟨144, Tryz.f144, false, 0⟩, ⟨145, Tryz.f145, false, 0⟩, ⟨146, Tryz.f146, false, 0⟩, ⟨147, Tryz.f147, false, 0⟩, ⟨148, Tryz.f148, false, 0⟩, ⟨151, Tryz.f151, false, 0⟩, ⟨152, Tryz.f152, false, 0⟩, ⟨155, Tryz.f155, false, 0⟩, ⟨156, Tryz.f156, false, 0⟩, ⟨157, Tryz.f157, false, 0⟩, ⟨158, Tryz.f158, false, 0⟩, ⟨160, Tryz.f160, false, 0⟩, ⟨162, Tryz.f162, false, 0⟩, ⟨164, Tryz.f164, false, 0⟩, ⟨165, Tryz.f165, false, 0⟩, ⟨166, Tryz.f166, false, 0⟩, ⟨170, Tryz.f170, false, 0⟩, ⟨172, Tryz.f172, false, 0⟩, ⟨173, Tryz.f173, false, 0⟩, ⟨174, Tryz.f174, false, 0⟩, ⟨175, Tryz.f175, false, 2⟩, ⟨176, Tryz.f176, false, 0⟩, ⟨177, Tryz.f177, false, 0⟩, ⟨178, Tryz.f178, false, 0⟩, ⟨179, Tryz.f179, false, 0⟩, ⟨182, Tryz.f182, false, 0⟩, ⟨183, Tryz.f183, false, 0⟩, ⟨184, Tryz.f184, false, 0⟩, ⟨185, Tryz.f185, false, 0⟩, ⟨187, Tryz.f187, false, 0⟩, ⟨188, Tryz.f188, false, 0⟩, ⟨189, Tryz.f189, false, 0⟩, ⟨190, Tryz.f190, false, 0⟩, ⟨191, Tryz.f191, false, 0⟩, ⟨192, Tryz.f192, false, 0⟩, ⟨193, Tryz.f193, false, 0⟩, ⟨194, Tryz.f194, false, 0⟩, ⟨195, Tryz.f195, false, 0⟩, ⟨196, Tryz.f196, false, 0⟩, ⟨199, Tryz.f199, false, 0⟩, ⟨200, Tryz.f200, false, 0⟩, ⟨202, Tryz.f202, false, 0⟩, ⟨208, Tryz.f208, false, 0⟩, ⟨209, Tryz.f209, false, 0⟩, ⟨215, Tryz.f215, false, 0⟩, ⟨216, Tryz.f216, false, 0⟩, ⟨226, Tryz.f226, false, 0⟩, ⟨228, Tryz.f228, false, 0⟩, ⟨229, Tryz.f229, false, 0⟩, ⟨230, Tryz.f230, false, 0⟩, ⟨231, Tryz.f231, false, 0⟩, ⟨232, Tryz.f232, false, 0⟩, ⟨233, Tryz.f233, false, 0⟩, ⟨234, Tryz.f234, false, 0⟩, ⟨237, Tryz.f237, false, 0⟩, ⟨238, Tryz.f238, false, 0⟩, ⟨239, Tryz.f239, false, 0⟩, ⟨240, Tryz.f240, false, 0⟩, ⟨241, Tryz.f241, false, 0⟩, ⟨242, Tryz.f242, false, 0⟩, ⟨244, Tryz.f244, false, 0⟩, ⟨245, Tryz.f245, false, 0⟩, ⟨246, Tryz.f246, false, 0⟩, ⟨247, Tryz.f247, false, 0⟩, ⟨249, Tryz.f249, false, 0⟩, ⟨250, Tryz.f250, false, 0⟩, ⟨251, Tryz.f251, false, 0⟩, ⟨252, Tryz.f252, false, 0⟩, ⟨253, Tryz.f253, false, 0⟩, ⟨254, Tryz.f254, false, 0⟩, ⟨259, Tryz.f259, false, 0⟩, ⟨260, Tryz.f260, false, 0⟩, ⟨262, Tryz.f262, false, 0⟩, ⟨263, Tryz.f263, false, 2⟩, ⟨266, Tryz.f266, false, 0⟩, ⟨267, Tryz.f267, false, 0⟩, ⟨268, Tryz.f268, false, 0⟩, ⟨269, Tryz.f269, false, 0⟩, ⟨270, Tryz.f270, false, 0⟩, ⟨271, Tryz.f271, false, 0⟩, ⟨272, Tryz.f272, false, 0⟩, ⟨273, Tryz.f273, false, 0⟩, ⟨274, Tryz.f274, false, 0⟩, ⟨275, Tryz.f275, false, 0⟩, ⟨277, Tryz.f277, false, 0⟩, ⟨278, Tryz.f278, false, 0⟩, ⟨280, Tryz.f280, false, 0⟩, ⟨281, Tryz.f281, false, 0⟩, ⟨282, Tryz.f282, false, 2⟩, ⟨283, Tryz.f283, false, 0⟩, ⟨284, Tryz.f284, false, 0⟩, ⟨285, Tryz.f285, false, 0⟩, ⟨286, Tryz.f286, false, 0⟩, ⟨287, Tryz.f287, false, 0⟩, ⟨288, Tryz.f288, false, 0⟩, ⟨289, Tryz.f289, false, 0⟩, ⟨290, Tryz.f290, false, 0⟩, ⟨291, Tryz.f291, false, 0⟩, ⟨292, Tryz.f292, false, 0⟩, ⟨293, Tryz.f293, false, 0⟩, ⟨294, Tryz.f294, false, 0⟩, ⟨295, Tryz.f295, false, 0⟩, ⟨296, Tryz.f296, false, 0⟩, ⟨297, Tryz.f297, false, 0⟩, ⟨298, Tryz.f298, false, 0⟩, ⟨299, Tryz.f299, false, 0⟩, ⟨300, Tryz.f300, false, 0⟩, ⟨301, Tryz.f301, false, 0⟩, ⟨302, Tryz.f302, false, 0⟩, ⟨307, Tryz.f307, false, 0⟩, ⟨308, Tryz.f308, false, 0⟩, ⟨312, Tryz.f312, false, 0⟩, ⟨314, Tryz.f314, false, 0⟩, ⟨315, Tryz.f315, false, 0⟩, ⟨316, Tryz.f316, false, 0⟩, ⟨317, Tryz.f317, false, 0⟩, ⟨319, Tryz.f319, false, 0⟩, ⟨327, Tryz.f327, false, 0⟩, ⟨328, Tryz.f328, false, 0⟩, ⟨341, Tryz.f341, false, 0⟩, ⟨344, Tryz.f344, false, 0⟩, ⟨351, Tryz.f351, false, 0⟩, ⟨352, Tryz.f352, false, 0⟩, ⟨355, Tryz.f355, false, 0⟩, ⟨356, Tryz.f356, false, 0⟩, ⟨357, Tryz.f357, false, 0⟩, ⟨358, Tryz.f358, false, 0⟩, ⟨359, Tryz.f359, false, 0⟩, ⟨360, Tryz.f360, false, 0⟩, ⟨361, Tryz.f361, false, 0⟩, ⟨362, Tryz.f362, false, 0⟩, ⟨363, Tryz.f363, false, 0⟩, ⟨364, Tryz.f364, false, 0⟩, ⟨365, Tryz.f365, false, 0⟩, ⟨367, Tryz.f367, false, 0⟩, ⟨368, Tryz.f368, false, 0⟩, ⟨369, Tryz.f369, false, 0⟩, ⟨370, Tryz.f370, false, 0⟩, ⟨371, Tryz.f371, false, 0⟩, ⟨372, Tryz.f372, false, 0⟩, ⟨376, Tryz.f376, false, 0⟩, ⟨378, Tryz.f378, false, 0⟩, ⟨379, Tryz.f379, false, 0⟩, ⟨380, Tryz.f380, false, 0⟩, ⟨381, Tryz.f381, false, 0⟩, ⟨382, Tryz.f382, false, 0⟩, ⟨383, Tryz.f383, false, 0⟩, ⟨384, Tryz.f384, false, 0⟩, ⟨385, Tryz.f385, false, 0⟩, ⟨386, Tryz.f386, false, 0⟩, ⟨387, Tryz.f387, false, 0⟩, ⟨389, Tryz.f389, false, 0⟩, ⟨412, Tryz.f412, false, 0⟩, ⟨415, Tryz.f415, false, 0⟩, ⟨416, Tryz.f416, false, 0⟩, ⟨417, Tryz.f417, false, 2⟩, ⟨418, Tryz.f418, false, 0⟩, ⟨419, Tryz.f419, false, 0⟩, ⟨420, Tryz.f420, false, 0⟩, ⟨422, Tryz.f422, false, 0⟩, ⟨424, Tryz.f424, false, 0⟩, ⟨425, Tryz.f425, false, 0⟩, ⟨426, Tryz.f426, false, 0⟩, ⟨427, Tryz.f427, false, 0⟩, ⟨428, Tryz.f428, false, 0⟩, ⟨429, Tryz.f429, false, 0⟩, ⟨430, Tryz.f430, false, 0⟩, ⟨431, Tryz.f431, false, 0⟩, ⟨432, Tryz.f432, false, 0⟩, ⟨433, Tryz.f433, false, 0⟩, ⟨434, Tryz.f434, false, 0⟩, ⟨435, Tryz.f435, false, 0⟩, ⟨436, Tryz.f436, false, 0⟩, ⟨437, Tryz.f437, false, 0⟩, ⟨438, Tryz.f438, false, 0⟩, ⟨439, Tryz.f439, false, 0⟩, ⟨440, Tryz.f440, false, 0⟩, ⟨441, Tryz.f441, false, 0⟩, ⟨442, Tryz.f442, false, 0⟩, ⟨443, Tryz.f443, false, 0⟩, ⟨445, Tryz.f445, false, 0⟩, ⟨446, Tryz.f446, false, 0⟩, ⟨447, Tryz.f447, false, 0⟩, ⟨448, Tryz.f448, false, 0⟩, ⟨451, Tryz.f451, false, 0⟩, ⟨455, Tryz.f455, false, 0⟩, ⟨459, Tryz.f459, false, 0⟩, ⟨460, Tryz.f460, false, 0⟩, ⟨461, Tryz.f461, false, 0⟩, ⟨462, Tryz.f462, false, 0⟩, ⟨463, Tryz.f463, false, 0⟩, ⟨465, Tryz.f465, false, 0⟩, ⟨466, Tryz.f466, false, 0⟩, ⟨467, Tryz.f467, false, 0⟩, ⟨490, Tryz.f490, false, 0⟩, ⟨491, Tryz.f491, false, 0⟩, ⟨493, Tryz.f493, false, 0⟩, ⟨517, Tryz.f517, false, 0⟩, ⟨518, Tryz.f518, false, 0⟩, ⟨519, Tryz.f519, false, 0⟩, ⟨520, Tryz.f520, false, 0⟩, ⟨521, Tryz.f521, false, 0⟩, ⟨522, Tryz.f522, false, 0⟩, ⟨523, Tryz.f523, false, 0⟩, ⟨525, Tryz.f525, false, 0⟩, ⟨526, Tryz.f526, false, 0⟩, ⟨528, Tryz.f528, false, 0⟩, ⟨531, Tryz.f531, false, 0⟩, ⟨533, Tryz.f533, false, 0⟩, ⟨534, Tryz.f534, false, 0⟩, ⟨535, Tryz.f535, false, 0⟩, ⟨542, Tryz.f542, false, 0⟩, ⟨543, Tryz.f543, false, 0⟩, ⟨544, Tryz.f544, false, 0⟩, ⟨552, Tryz.f552, false, 0⟩, ⟨553, Tryz.f553, false, 0⟩, ⟨554, Tryz.f554, false, 0⟩, ⟨557, Tryz.f557, false, 0⟩, ⟨559, Tryz.f559, false, 0⟩, ⟨560, Tryz.f560, false, 0⟩, ⟨561, Tryz.f561, false, 0⟩, ⟨562, Tryz.f562, false, 0⟩, ⟨563, Tryz.f563, false, 0⟩, ⟨565, Tryz.f565, false, 0⟩, ⟨566, Tryz.f566, false, 0⟩, ⟨567, Tryz.f567, false, 0⟩, ⟨568, Tryz.f568, false, 0⟩, ⟨569, Tryz.f569, false, 0⟩, ⟨570, Tryz.f570, false, 0⟩, ⟨571, Tryz.f571, false, 0⟩, ⟨572, Tryz.f572, false, 0⟩, ⟨573, Tryz.f573, false, 0⟩, ⟨574, Tryz.f574, false, 0⟩, ⟨575, Tryz.f575, false, 0⟩, ⟨576, Tryz.f576, false, 0⟩, ⟨577, Tryz.f577, false, 0⟩, ⟨578, Tryz.f578, false, 0⟩, ⟨581, Tryz.f581, false, 0⟩, ⟨582, Tryz.f582, false, 0⟩, ⟨586, Tryz.f586, false, 0⟩, ⟨590, Tryz.f590, false, 0⟩, ⟨592, Tryz.f592, false, 0⟩, ⟨593, Tryz.f593, false, 0⟩, ⟨594, Tryz.f594, false, 0⟩, ⟨611, Tryz.f611, false, 0⟩, ⟨620, Tryz.f620, false, 0⟩, ⟨631, Tryz.f631, false, 0⟩, ⟨653, Tryz.f653, false, 0⟩, ⟨654, Tryz.f654, false, 0⟩, ⟨655, Tryz.f655, false, 0⟩, ⟨660, Tryz.f660, false, 0⟩, ⟨668, Tryz.f668, false, 0⟩, ⟨669, Tryz.f669, false, 0⟩, ⟨671, Tryz.f671, false, 0⟩, ⟨672, Tryz.f672, false, 0⟩, ⟨673, Tryz.f673, false, 0⟩, ⟨674, Tryz.f674, false, 0⟩, ⟨675, Tryz.f675, false, 0⟩, ⟨680, Tryz.f680, false, 0⟩, ⟨681, Tryz.f681, false, 0⟩, ⟨683, Tryz.f683, false, 0⟩, ⟨686, Tryz.f686, false, 0⟩, ⟨700, Tryz.f700, false, 0⟩, ⟨701, Tryz.f701, false, 0⟩, ⟨706, Tryz.f706, false, 0⟩, ⟨723, Tryz.f723, false, 0⟩, ⟨726, Tryz.f726, false, 0⟩, ⟨727, Tryz.f727, false, 0⟩, ⟨728, Tryz.f728, false, 0⟩, ⟨730, Tryz.f730, false, 0⟩, ⟨731, Tryz.f731, false, 0⟩, ⟨733, Tryz.f733, false, 0⟩, ⟨734, Tryz.f734, false, 0⟩, ⟨753, Tryz.f753, false, 0⟩, ⟨754, Tryz.f754, false, 0⟩, ⟨757, Tryz.f757, false, 0⟩, ⟨758, Tryz.f758, false, 0⟩, ⟨759, Tryz.f759, false, 0⟩, ⟨762, Tryz.f762, false, 0⟩, ⟨769, Tryz.f769, false, 0⟩, ⟨770, Tryz.f770, false, 0⟩, ⟨772, Tryz.f772, false, 0⟩, ⟨773, Tryz.f773, false, 0⟩]
noncomputable def fnsD : List FnE := [⟨58, Tryz.f58, false, 0⟩]
noncomputable def fnsB : List FnE := [⟨21, Tryz.f21, false, 0⟩, ⟨22, Tryz.f22, false, 0⟩, ⟨40, Tryz.f40, false, 0⟩, ⟨41, Tryz.f41, false, 0⟩, ⟨47, Tryz.f47, false, 0⟩, ⟨48, Tryz.f48, false, 0⟩, ⟨50, Tryz.f50, false, 0⟩, ⟨54, Tryz.f54, false, 0⟩, ⟨68, Tryz.f68, false, 0⟩, ⟨77, Tryz.f77, false, 0⟩, ⟨79, Tryz.f79, false, 0⟩, ⟨82, Tryz.f82, false, 0⟩, ⟨83, Tryz.f83, false, 0⟩, ⟨84, Tryz.f84, false, 0⟩, ⟨85, Tryz.f85, false, 0⟩, ⟨86, Tryz.f86, false, 0⟩, ⟨87, Tryz.f87, false, 0⟩, ⟨88, Tryz.f88, false, 0⟩, ⟨89, Tryz.f89, false, 0⟩, ⟨90, Tryz.f90, false, 0⟩, ⟨132, Tryz.f132, false, 0⟩, ⟨136, Tryz.f136, false, 0⟩, ⟨138, Tryz.f138, false, 0⟩, ⟨139, Tryz.f139, false, 0⟩, ⟨140, Tryz.f140, false, 0⟩, ⟨141, Tryz.f141, false, 0⟩, ⟨142, Tryz.f142, false, 0⟩, ⟨143, Tryz.f143, false, 0⟩, ⟨144, Tryz.f144, false, 0⟩, ⟨145, Tryz.f145, false, 0⟩, ⟨146, Tryz.f146, false, 0⟩, ⟨147, Tryz.f147, false, 0⟩, ⟨148, Tryz.f148, false, 0⟩, ⟨151, Tryz.f151, false, 0⟩, ⟨152, Tryz.f152, false, 0⟩, ⟨155, Tryz.f155, false, 0⟩, ⟨156, Tryz.f156, false, 0⟩, ⟨157, Tryz.f157, false, 0⟩, ⟨158, Tryz.f158, false, 0⟩, ⟨160, Tryz.f160, false, 0⟩, ⟨162, Tryz.f162, false, 0⟩, ⟨178, Tryz.f178, false, 0⟩, ⟨179, Tryz.f179, false, 0⟩, ⟨226, Tryz.f226, false, 0⟩, ⟨228, Tryz.f228, false, 0⟩, ⟨229, Tryz.f229, false, 0⟩, ⟨230, Tryz.f230, false, 0⟩, ⟨231, Tryz.f231, false, 0⟩, ⟨232, Tryz.f232, false, 0⟩, ⟨233, Tryz.f233, false, 0⟩, ⟨234, Tryz.f234, false, 0⟩, ⟨237, Tryz.f237, false, 0⟩, ⟨238, Tryz.f238, false, 0⟩, ⟨239, Tryz.f239, false, 0⟩, ⟨240, Tryz.f240, false, 0⟩, ⟨241, Tryz.f241, false, 0⟩, ⟨242, Tryz.f242, false, 0⟩, ⟨244, Tryz.f244, false, 0⟩, ⟨245, Tryz.f245, false, 0⟩, ⟨246, Tryz.f246, false, 0⟩, ⟨247, Tryz.f247, false, 0⟩, ⟨274, Tryz.f274, false, 0⟩, ⟨275, Tryz.f275, false, 0⟩, ⟨277, Tryz.f277, false, 0⟩, ⟨278, Tryz.f278, false, 0⟩, ⟨317, Tryz.f317, false, 0⟩, ⟨355, Tryz.f355, false, 0⟩, ⟨356, Tryz.f356, false, 0⟩, ⟨357, Tryz.f357, false, 0⟩, ⟨358, Tryz.f358, false, 0⟩, ⟨359, Tryz.f359, false, 0⟩, ⟨360, Tryz.f360, false, 0⟩, ⟨361, Tryz.f361, false, 0⟩, ⟨362, Tryz.f362, false, 0⟩, ⟨363, Tryz.f363, false, 0⟩, ⟨364, Tryz.f364, false, 0⟩, ⟨365, Tryz.f365, false, 0⟩, ⟨367, Tryz.f367, false, 0⟩, ⟨368, Tryz.f368, false, 0⟩, ⟨369, Tryz.f369, false, 0⟩, ⟨370, Tryz.f370, false, 0⟩, ⟨371, Tryz.f371, false, 0⟩, ⟨372, Tryz.f372, false, 0⟩, ⟨422, Tryz.f422, false, 0⟩, ⟨425, Tryz.f425, false, 0⟩, ⟨426, Tryz.f426, false, 0⟩, ⟨427, Tryz.f427, false, 0⟩, ⟨428, Tryz.f428, false, 0⟩, ⟨466, Tryz.f466, false, 0⟩, ⟨519, Tryz.f519, false, 0⟩, ⟨520, Tryz.f520, false, 0⟩, ⟨521, Tryz.f521, false, 0⟩, ⟨522, Tryz.f522, false, 0⟩, ⟨523, Tryz.f523, false, 0⟩, ⟨525, Tryz.f525, false, 0⟩, ⟨526, Tryz.f526, false, 0⟩, ⟨528, Tryz.f528, false, 0⟩, ⟨531, Tryz.f531, false, 0⟩, ⟨533, Tryz.f533, false, 0⟩, ⟨534, Tryz.f534, false, 0⟩, ⟨557, Tryz.f557, false, 0⟩, ⟨559, Tryz.f559, false, 0⟩, ⟨569, Tryz.f569, false, 0⟩, ⟨654, Tryz.f654, false, 0⟩, ⟨655, Tryz.f655, false, 0⟩, ⟨671, Tryz.f671, false, 0⟩]
noncomputable def fnsO : List FnE := [⟨6, Tryz.f6, false, 0⟩, ⟨8, Tryz.f8, false, 0⟩, ⟨10, Tryz.f10, false, 0⟩, ⟨12, Tryz.f12, false, 0⟩, ⟨15, Tryz.f15, false, 0⟩, ⟨16, Tryz.f16, false, 0⟩, ⟨20, Tryz.f20, false, 0⟩, ⟨21, Tryz.f21, false, 0⟩, ⟨22, Tryz.f22, false, 0⟩, ⟨23, Tryz.f23, false, 0⟩, ⟨27, Tryz.f27, false, 0⟩, ⟨28, Tryz.f28, false, 0⟩, ⟨29, Tryz.f29, false, 0⟩, ⟨31, Tryz.f31, false, 0⟩, ⟨32, Tryz.f32, false, 0⟩, ⟨33, Tryz.f33, false, 0⟩, ⟨37, Tryz.f37, false, 0⟩, ⟨38, Tryz.f38, false, 0⟩, ⟨39, Tryz.f39, false, 0⟩, ⟨40, Tryz.f40, false, 0⟩, ⟨41, Tryz.f41, false, 0⟩, ⟨47, Tryz.f47, false, 0⟩, ⟨48, Tryz.f48, false, 0⟩, ⟨50, Tryz.f50, false, 0⟩, ⟨55, Tryz.f55, false, 0⟩, ⟨56, Tryz.f56, false, 0⟩, ⟨57, Tryz.f57, false, 0⟩, ⟨59, Tryz.f59, false, 0⟩, ⟨60, Tryz.f60, false, 0⟩, ⟨61, Tryz.f61, false, 0⟩, ⟨62, Tryz.f62, false, 0⟩, ⟨63, Tryz.f63, false, 1⟩, ⟨64, Tryz.f64, false, 0⟩, ⟨65, Tryz.f65, false, 0⟩, ⟨66, Tryz.f66, false, 0⟩, ⟨67, Tryz.f67, false, 0⟩, ⟨68, Tryz.f68, false, 0⟩, ⟨69, Tryz.f69, false, 0⟩, ⟨71, Tryz.f71, false, 0⟩, ⟨72, Tryz.f72, false, 0⟩, ⟨75, Tryz.f75, false, 0⟩, ⟨77, Tryz.f77, false, 0⟩, ⟨79, Tryz.f79, false, 0⟩, ⟨91, Tryz.f91, false, 0⟩, ⟨92, Tryz.f92, false, 0⟩, ⟨93, Tryz.f93, false, 0⟩, ⟨94, Tryz.f94, false, 0⟩, ⟨95, Tryz.f95, false, 0⟩, ⟨96, Tryz.f96, false, 0⟩, ⟨97, Tryz.f97, false, 0⟩, ⟨98, Tryz.f98, false, 0⟩, ⟨99, Tryz.f99, false, 0⟩, ⟨100, Tryz.f100, false, 0⟩, ⟨102, Tryz.f102, false, 0⟩, ⟨103, Tryz.f103, false, 0⟩, ⟨106, Tryz.f106, false, 0⟩, ⟨107, Tryz.f107, false, 0⟩, ⟨108, Tryz.f108, false, 0⟩, ⟨110, Tryz.f110, false, 0⟩, ⟨111, Tryz.f111, false, 0⟩, ⟨113, Tryz.f113, false, 0⟩, ⟨115, Tryz.f115, false, 0⟩, ⟨120, Tryz.f120, false, 0⟩, ⟨121, Tryz.f121, false, 0⟩, ⟨122, Tryz.f122, false, 0⟩, ⟨125, Tryz.f125, false, 0⟩, ⟨132, Tryz.f132, false, 0⟩, ⟨136, Tryz.f136, false, 0⟩, ⟨144, Tryz.f144, false, 0⟩, ⟨145, Tryz.f145, false, 0⟩, ⟨147, Tryz.f147, false, 0⟩, ⟨158, Tryz.f158, false, 0⟩, ⟨162, Tryz.f162, false, 0⟩, ⟨164, Tryz.f164, false, 0⟩, ⟨166, Tryz.f166, false, 0⟩, ⟨170, Tryz.f170, false, 0⟩, ⟨172, Tryz.f172, false, 0⟩, ⟨173, Tryz.f173, false, 0⟩, ⟨174, Tryz.f174, false, 0⟩, ⟨175, Tryz.f175, false, 2⟩, ⟨176, Tryz.f176, false, 0⟩, ⟨177, Tryz.f177, false, 0⟩, ⟨178, Tryz.f178, false, 0⟩, ⟨179, Tryz.f179, false, 0⟩, ⟨182, Tryz.f182, false, 0⟩, ⟨183, Tryz.f183, false, 0⟩, ⟨184, Tryz.f184, false, 0⟩, ⟨185, Tryz.f185, false, 0⟩, ⟨190, Tryz.f190, false, 0⟩, ⟨191, Tryz.f191, false, 0⟩, ⟨194, Tryz.f194, false, 0⟩, ⟨195, Tryz.f195, false, 0⟩, ⟨196, Tryz.f196, false, 0⟩, ⟨199, Tryz.f199, false, 0⟩, ⟨200, Tryz.f200, false, 0⟩, ⟨204, Tryz.f204, false, 0⟩, ⟨206, Tryz.f206, false, 0⟩, ⟨207, Tryz.f207, false, 0⟩, ⟨208, Tryz.f208, false, 0⟩, ⟨209, Tryz.f209, false, 0⟩, ⟨215, Tryz.f215, false, 0⟩, ⟨216, Tryz.f216, false, 0⟩, ⟨239, Tryz.f239, false, 0⟩, ⟨240, Tryz.f240, false, 0⟩, ⟨241, Tryz.f241, false, 0⟩, ⟨242, Tryz.f242, false, 0⟩, ⟨244, Tryz.f244, false, 0⟩, ⟨245, Tryz.f245, false, 0⟩, ⟨246, Tryz.f246, false, 0⟩, ⟨247, Tryz.f247, false, 0⟩, ⟨249, Tryz.f249, false, 0⟩, ⟨253, Tryz.f253, false, 0⟩, ⟨254, Tryz.f254, false, 0⟩, ⟨260, Tryz.f260, false, 0⟩, ⟨262, Tryz.f262, false, 0⟩, ⟨263, Tryz.f263, false, 2⟩, ⟨267, Tryz.f267, false, 0⟩, ⟨268, Tryz.f268, false, 0⟩, ⟨269, Tryz.f269, false, 0⟩, ⟨270, Tryz.f270, false, 0⟩, ⟨271, Tryz.f271, false, 0⟩, ⟨272, Tryz.f272, false, 0⟩, ⟨273, Tryz.f273, false, 0⟩, ⟨274, Tryz.f274, false, 0⟩, ⟨275, Tryz.f275, false, 0⟩, ⟨277, Tryz.f277, false, 0⟩, ⟨278, Tryz.f278, false, 0⟩, ⟨280, Tryz.f280, false, 0⟩, ⟨281, Tryz.f281, false, 0⟩, ⟨282, Tryz.f282, false, 2⟩, ⟨283, Tryz.f283, false, 0⟩, ⟨284, Tryz.f284, false, 0⟩, ⟨285, Tryz.f285, false, 0⟩, ⟨286, Tryz.f286, false, 0⟩, ⟨287, Tryz.f287, false, 0⟩, ⟨288, Tryz.f288, false, 0⟩, ⟨289, Tryz.f289, false, 0⟩, ⟨291, Tryz.f291, false, 0⟩, ⟨292, Tryz.f292, false, 0⟩, ⟨293, Tryz.f293, false, 0⟩, ⟨294, Tryz.f294, false, 0⟩, ⟨295, Tryz.f295, false, 0⟩, ⟨297, Tryz.f297, false, 0⟩, ⟨298, Tryz.f298, false, 0⟩, ⟨299, Tryz.f299, false, 0⟩, ⟨300, Tryz.f300, false, 0⟩, ⟨301, Tryz.f301, false, 0⟩, ⟨302, Tryz.f302, false, 0⟩, ⟨307, Tryz.f307, false, 0⟩, ⟨308, Tryz.f308, false, 0⟩, ⟨312, Tryz.f312, false, 0⟩, ⟨314, Tryz.f314, false, 0⟩, ⟨317, Tryz.f317, false, 0⟩, ⟨319, Tryz.f319, false, 0⟩, ⟨327, Tryz.f327, false, 0⟩, ⟨328, Tryz.f328, false, 0⟩, ⟨341, Tryz.f341, false, 0⟩, ⟨344, Tryz.f344, false, 0⟩, ⟨351, Tryz.f351, false, 0⟩, ⟨352, Tryz.f352, false, 0⟩, ⟨356, Tryz.f356, false, 0⟩, ⟨361, Tryz.f361, false, 0⟩, ⟨362, Tryz.f362, false, 0⟩, ⟨363, Tryz.f363, false, 0⟩, ⟨364, Tryz.f364, false, 0⟩, ⟨365, Tryz.f365, false, 0⟩, ⟨367, Tryz.f367, false, 0⟩, ⟨368, Tryz.f368, false, 0⟩, ⟨369, Tryz.f369, false, 0⟩, ⟨370, Tryz.f370, false, 0⟩, ⟨371, Tryz.f371, false, 0⟩, ⟨372, Tryz.f372, false, 0⟩, ⟨376, Tryz.f376, false, 0⟩, ⟨383, Tryz.f383, false, 0⟩, ⟨384, Tryz.f384, false, 0⟩, ⟨385, Tryz.f385, false, 0⟩, ⟨386, Tryz.f386, false, 0⟩, ⟨387, Tryz.f387, false, 0⟩, ⟨389, Tryz.f389, false, 0⟩, ⟨412, Tryz.f412, false, 0⟩, ⟨415, Tryz.f415, false, 0⟩, ⟨416, Tryz.f416, false, 0⟩, ⟨417, Tryz.f417, false, 2⟩, ⟨420, Tryz.f420, false, 0⟩, ⟨422, Tryz.f422, false, 0⟩, ⟨424, Tryz.f424, false, 0⟩, ⟨425, Tryz.f425, false, 0⟩, ⟨426, Tryz.f426, false, 0⟩, ⟨427, Tryz.f427, false, 0⟩, ⟨428, Tryz.f428, false, 0⟩, ⟨429, Tryz.f429, false, 0⟩, ⟨430, Tryz.f430, false, 0⟩, ⟨431, Tryz.f431, false, 0⟩, ⟨433, Tryz.f433, false, 0⟩, ⟨434, Tryz.f434, false, 0⟩, ⟨435, Tryz.f435, false, 0⟩, ⟨436, Tryz.f436, false, 0⟩, ⟨440, Tryz.f440, false, 0⟩, ⟨441, Tryz.f441, false, 0⟩, ⟨442, Tryz.f442, false, 0⟩, ⟨443, Tryz.f443, false, 0⟩, ⟨445, Tryz.f445, false, 0⟩, ⟨446, Tryz.f446, false, 0⟩, ⟨447, Tryz.f447, false, 0⟩, ⟨448, Tryz.f448, false, 0⟩, ⟨451, Tryz.f451, false, 0⟩, ⟨455, Tryz.f455, false, 0⟩, ⟨460, Tryz.f460, false, 0⟩, ⟨461, Tryz.f461, false, 0⟩, ⟨466, Tryz.f466, false, 0⟩, ⟨467, Tryz.f467, false, 0⟩, ⟨490, Tryz.f490, false, 0⟩, ⟨491, Tryz.f491, false, 0⟩, ⟨519, Tryz.f519, false, 0⟩, ⟨521, Tryz.f521, false, 0⟩, ⟨525, Tryz.f525, false, 0⟩, ⟨526, Tryz.f526, false, 0⟩, ⟨528, Tryz.f528, false, 0⟩, ⟨531, Tryz.f531, false, 0⟩, ⟨533, Tryz.f533, false, 0⟩, ⟨534, Tryz.f534, false, 0⟩, ⟨535, Tryz.f535, false, 0⟩, ⟨542, Tryz.f542, false, 0⟩, ⟨543, Tryz.f543, false, 0⟩, ⟨544, Tryz.f544, false, 0⟩, ⟨552, Tryz.f552, false, 0⟩, ⟨557, Tryz.f557, false, 0⟩, ⟨559, Tryz.f559, false, 0⟩, ⟨560, Tryz.f560, false, 0⟩, ⟨561, Tryz.f561, false, 0⟩, ⟨562, Tryz.f562, false, 0⟩, ⟨563, Tryz.f563, false, 0⟩, ⟨565, Tryz.f565, false, 0⟩, ⟨566, Tryz.f566, false, 0⟩, ⟨567, Tryz.f567, false, 0⟩, ⟨568, Tryz.f568, false, 0⟩, ⟨569, Tryz.f569, false, 0⟩, ⟨570, Tryz.f570, false, 0⟩, ⟨571, Tryz.f571, false, 0⟩, ⟨572, Tryz.f572, false, 0⟩, ⟨573, Tryz.f573, false, 0⟩, ⟨574, Tryz.f574, false, 0⟩, ⟨575, Tryz.f575, false, 0⟩, ⟨576, Tryz.f576, false, 0⟩, ⟨577, Tryz.f577, false, 0⟩, ⟨578, Tryz.f578, false, 0⟩, ⟨581, Tryz.f581, false, 0⟩, ⟨582, Tryz.f582, false, 0⟩, ⟨586, Tryz.f586, false, 0⟩, ⟨590, Tryz.f590, false, 0⟩, ⟨592, Tryz.f592, false, 0⟩, ⟨593, Tryz.f593, false, 0⟩, ⟨594, Tryz.f594, false, 0⟩, ⟨611, Tryz.f611, false, 0⟩, ⟨620, Tryz.f620, false, 0⟩, ⟨631, Tryz.f631, false, 0⟩, ⟨653, Tryz.f653, false, 0⟩, ⟨654, Tryz.f654, false, 0⟩, ⟨655, Tryz.f655, false, 0⟩, ⟨660, Tryz.f660, false, 0⟩, ⟨668, Tryz.f668, false, 0⟩, ⟨669, Tryz.f669, false, 0⟩, ⟨671, Tryz.f671, false, 0⟩, ⟨672, Tryz.f672, false, 0⟩, ⟨673, Tryz.f673, false, 0⟩, ⟨674, Tryz.f674, false, 0⟩, ⟨675, Tryz.f675, false, 0⟩, ⟨680, Tryz.f680, false, 0⟩, ⟨681, Tryz.f681, false, 0⟩, ⟨683, Tryz.f683, false, 0⟩, ⟨686, Tryz.f686, false, 0⟩, ⟨700, Tryz.f700, false, 0⟩, ⟨701, Tryz.f701, false, 0⟩, ⟨706, Tryz.f706, false, 0⟩, ⟨723, Tryz.f723, false, 0⟩, ⟨726, Tryz.f726, false, 0⟩, ⟨727, Tryz.f727, false, 0⟩, ⟨728, Tryz.f728, false, 0⟩, ⟨730, Tryz.f730, false, 0⟩, ⟨731, Tryz.f731, false, 0⟩, ⟨733, Tryz.f733, false, 0⟩, ⟨734, Tryz.f734, false, 0⟩, ⟨753, Tryz.f753, false, 0⟩, ⟨754, Tryz.f754, false, 0⟩, ⟨757, Tryz.f757, false, 0⟩, ⟨758, Tryz.f758, false, 0⟩, ⟨759, Tryz.f759, false, 0⟩, ⟨762, Tryz.f762, false, 0⟩, ⟨769, Tryz.f769, false, 0⟩, ⟨770, Tryz.f770, false, 0⟩, ⟨772, Tryz.f772, false, 0⟩, ⟨773, Tryz.f773, false, 0⟩, ⟨789, Tryz.f789, false, 0⟩]
noncomputable def fnsM : List FnE := [⟨29, Tryz.f29, false, 0⟩, ⟨40, Tryz.f40, false, 0⟩, ⟨41, Tryz.f41, false, 0⟩, ⟨47, Tryz.f47, false, 0⟩, ⟨48, Tryz.f48, false, 0⟩, ⟨50, Tryz.f50, false, 0⟩, ⟨59, Tryz.f59, false, 0⟩, ⟨60, Tryz.f60, false, 0⟩, ⟨61, Tryz.f61, false, 0⟩, ⟨68, Tryz.f68, false, 0⟩, ⟨77, Tryz.f77, false, 0⟩, ⟨79, Tryz.f79, false, 0⟩, ⟨96, Tryz.f96, false, 0⟩, ⟨97, Tryz.f97, false, 0⟩, ⟨98, Tryz.f98, false, 0⟩, ⟨99, Tryz.f99, false, 0⟩, ⟨100, Tryz.f100, false, 0⟩, ⟨132, Tryz.f132, false, 0⟩, ⟨136, Tryz.f136, false, 0⟩, ⟨144, Tryz.f144, false, 0⟩, ⟨145, Tryz.f145, false, 0⟩, ⟨172, Tryz.f172, false, 0⟩, ⟨173, Tryz.f173, false, 0⟩, ⟨174, Tryz.f174, false, 0⟩, ⟨175, Tryz.f175, false, 2⟩, ⟨176, Tryz.f176, false, 0⟩, ⟨177, Tryz.f177, false, 0⟩, ⟨178, Tryz.f178, false, 0⟩, ⟨179, Tryz.f179, false, 0⟩, ⟨239, Tryz.f239, false, 0⟩, ⟨240, Tryz.f240, false, 0⟩, ⟨241, Tryz.f241, false, 0⟩, ⟨242, Tryz.f242, false, 0⟩, ⟨244, Tryz.f244, false, 0⟩, ⟨267, Tryz.f267, false, 0⟩, ⟨268, Tryz.f268, false, 0⟩, ⟨269, Tryz.f269, false, 0⟩, ⟨270, Tryz.f270, false, 0⟩, ⟨271, Tryz.f271, false, 0⟩, ⟨272, Tryz.f272, false, 0⟩, ⟨273, Tryz.f273, false, 0⟩, ⟨274, Tryz.f274, false, 0⟩, ⟨275, Tryz.f275, false, 0⟩, ⟨277, Tryz.f277, false, 0⟩, ⟨278, Tryz.f278, false, 0⟩, ⟨317, Tryz.f317, false, 0⟩, ⟨361, Tryz.f361, false, 0⟩, ⟨362, Tryz.f362, false, 0⟩, ⟨363, Tryz.f363, false, 0⟩, ⟨364, Tryz.f364, false, 0⟩, ⟨365, Tryz.f365, false, 0⟩, ⟨367, Tryz.f367, false, 0⟩, ⟨368, Tryz.f368, false, 0⟩, ⟨369, Tryz.f369, false, 0⟩, ⟨370, Tryz.f370, false, 0⟩, ⟨371, Tryz.f371, false, 0⟩, ⟨372, Tryz.f372, false, 0⟩, ⟨420, Tryz.f420, false, 0⟩, ⟨422, Tryz.f422, false, 0⟩, ⟨424, Tryz.f424, false, 0⟩, ⟨425, Tryz.f425, false, 0⟩, ⟨426, Tryz.f426, false, 0⟩, ⟨427, Tryz.f427, false, 0⟩, ⟨428, Tryz.f428, false, 0⟩, ⟨466, Tryz.f466, false, 0⟩, ⟨519, Tryz.f519, false, 0⟩, ⟨521, Tryz.f521, false, 0⟩, ⟨525, Tryz.f525, false, 0⟩, ⟨526, Tryz.f526, false, 0⟩, ⟨528, Tryz.f528, false, 0⟩, ⟨531, Tryz.f531, false, 0⟩, ⟨533, Tryz.f533, false, 0⟩, ⟨534, Tryz.f534, false, 0⟩, ⟨557, Tryz.f557, false, 0⟩, ⟨559, Tryz.f559, false, 0⟩, ⟨569, Tryz.f569, false, 0⟩, ⟨654, Tryz.f654, false, 0⟩, ⟨655, Tryz.f655, false, 0⟩, ⟨671, Tryz.f671, false, 0⟩]
noncomputable def fnsQ : List FnE := [⟨5, Tryz.f5, false, 0⟩, ⟨8, Tryz.f8, false, 0⟩, ⟨10, Tryz.f10, false, 0⟩, ⟨12, Tryz.f12, false, 0⟩, ⟨15, Tryz.f15, false, 0⟩, ⟨16, Tryz.f16, false, 0⟩, ⟨20, Tryz.f20, false, 0⟩, ⟨21, Tryz.f21, false, 0⟩, ⟨22, Tryz.f22, false, 0⟩, ⟨23, Tryz.f23, false, 0⟩, ⟨27, Tryz.f27, false, 0⟩, ⟨28, Tryz.f28, false, 0⟩, ⟨31, Tryz.f31, false, 0⟩, ⟨32, Tryz.f32, false, 0⟩, ⟨33, Tryz.f33, false, 0⟩, ⟨37, Tryz.f37, false, 0⟩, ⟨38, Tryz.f38, false, 0⟩, ⟨39, Tryz.f39, false, 0⟩, ⟨40, Tryz.f40, false, 0⟩, ⟨41, Tryz.f41, false, 0⟩, ⟨48, Tryz.f48, false, 0⟩, ⟨50, Tryz.f50, false, 0⟩, ⟨55, Tryz.f55, false, 0⟩, ⟨56, Tryz.f56, false, 0⟩, ⟨57, Tryz.f57, false, 0⟩, ⟨60, Tryz.f60, false, 0⟩, ⟨61, Tryz.f61, false, 0⟩, ⟨62, Tryz.f62, false, 0⟩, ⟨63, Tryz.f63, false, 1⟩, ⟨64, Tryz.f64, false, 0⟩, ⟨65, Tryz.f65, false, 0⟩, ⟨66, Tryz.f66, false, 0⟩, ⟨67, Tryz.f67, false, 0⟩, ⟨68, Tryz.f68, false, 0⟩, ⟨69, Tryz.f69, false, 0⟩, ⟨70, Tryz.f70, false, 0⟩, ⟨71, Tryz.f71, false, 0⟩, ⟨72, Tryz.f72, false, 0⟩, ⟨75, Tryz.f75, false, 0⟩, ⟨77, Tryz.f77, false, 0⟩, ⟨79, Tryz.f79, false, 0⟩, ⟨91, Tryz.f91, false, 0⟩, ⟨92, Tryz.f92, false, 0⟩, ⟨93, Tryz.f93, false, 0⟩, ⟨94, Tryz.f94, false, 0⟩, ⟨95, Tryz.f95, false, 0⟩, ⟨102, Tryz.f102, false, 0⟩, ⟨103, Tryz.f103, false, 0⟩, ⟨106, Tryz.f106, false, 0⟩, ⟨107, Tryz.f107, false, 0⟩, ⟨108, Tryz.f108, false, 0⟩, ⟨109, Tryz.f109, false, 0⟩, ⟨110, Tryz.f110, false, 0⟩, ⟨111, Tryz.f111, false, 0⟩, ⟨112, Tryz.f112, false, 0⟩, ⟨113, Tryz.f113, false, 0⟩, ⟨114, Tryz.f114, false, 0⟩, ⟨115, Tryz.f115, false, 0⟩, ⟨120, Tryz.f120, false, 0⟩, ⟨121, Tryz.f121, false, 0⟩, ⟨122, Tryz.f122, false, 0⟩, ⟨125, Tryz.f125, false, 0⟩, ⟨132, Tryz.f132, false, 0⟩, ⟨136, Tryz.f136, false, 0⟩, ⟨144, Tryz.f144, false, 0⟩, ⟨145, Tryz.f145, false, 0⟩, ⟨147, Tryz.f147, false, 0⟩, ⟨158, Tryz.f158, false, 0⟩, ⟨162, Tryz.f162, false, 0⟩, ⟨164, Tryz.f164, false, 0⟩, ⟨165, Tryz.f165, false, 0⟩, ⟨166, Tryz.f166, false, 0⟩, ⟨170, Tryz.f170, false, 0⟩, ⟨174, Tryz.f174, false, 0⟩, ⟨178, Tryz.f178, false, 0⟩, ⟨179, Tryz.f179, false, 0⟩, ⟨182, Tryz.f182, false, 0⟩, ⟨183, Tryz.f183, false, 0⟩, ⟨184, Tryz.f184, false, 0⟩, ⟨185, Tryz.f185, false, 0⟩, ⟨186, Tryz.f186, false, 0⟩, ⟨187, Tryz.f187, false, 0⟩, ⟨188, Tryz.f188, false, 0⟩, ⟨190, Tryz.f190, false, 0⟩, ⟨191, Tryz.f191, false, 0⟩, ⟨193, Tryz.f193, false, 0⟩, ⟨194, Tryz.f194, false, 0⟩, ⟨195, Tryz.f195, false, 0⟩, ⟨196, Tryz.f196, false, 0⟩, ⟨199, Tryz.f199, false, 0⟩, ⟨200, Tryz.f200, false, 0⟩, ⟨202, Tryz.f202, false, 0⟩, ⟨208, Tryz.f208, false, 0⟩, ⟨209, Tryz.f209, false, 0⟩, ⟨215, Tryz.f215, false, 0⟩, ⟨216, Tryz.f216, false, 0⟩, ⟨239, Tryz.f239, false, 0⟩, ⟨240, Tryz.f240, false, 0⟩, ⟨241, Tryz.f241, false, 0⟩, ⟨242, Tryz.f242, false, 0⟩, ⟨244, Tryz.f244, false, 0⟩, ⟨245, Tryz.f245, false, 0⟩, ⟨246, Tryz.f246, false, 0⟩, ⟨247, Tryz.f247, false, 0⟩, ⟨249, Tryz.f249, false, 0⟩, ⟨250, Tryz.f250, false, 0⟩, ⟨251, Tryz.f251, false, 0⟩, ⟨252, Tryz.f252, false, 0⟩, ⟨253, Tryz.f253, false, 0⟩, ⟨254, Tryz.f254, false, 0⟩, ⟨259, Tryz.f259, false, 0⟩, ⟨260, Tryz.f260, false, 0⟩, ⟨262, Tryz.f262, false, 0⟩, ⟨263, Tryz.f263, false, 2⟩, ⟨266, Tryz.f266, false, 0⟩, ⟨273, Tryz.f273, false, 0⟩, ⟨274, Tryz.f274, false, 0⟩, ⟨275, Tryz.f275, false, 0⟩, ⟨277, Tryz.f277, false, 0⟩, ⟨278, Tryz.f278, false, 0⟩, ⟨280, Tryz.f280, false, 0⟩, ⟨281, Tryz.f281, false, 0⟩, ⟨282, Tryz.f282, false, 2⟩, ⟨283, Tryz.f283, false, 0⟩, ⟨284, Tryz.f284, false, 0⟩, ⟨285, Tryz.f285, false, 0⟩, ⟨286, Tryz.f286, false, 0⟩, ⟨287, Tryz.f287, false, 0⟩, ⟨288, Tryz.f288, false, 0⟩, ⟨289, Tryz.f289, false, 0⟩, ⟨290, Tryz.f290, false, 0⟩, ⟨291, Tryz.f291, false, 0⟩, ⟨292, Tryz.f292, false, 0⟩, ⟨293, Tryz.f293, false, 0⟩, ⟨294, Tryz.f294, false, 0⟩, ⟨295, Tryz.f295, false, 0⟩, ⟨296, Tryz.f296, false, 0⟩, ⟨297, Tryz.f297, false, 0⟩, ⟨298, Tryz.f298, false, 0⟩, ⟨299, Tryz.f299, false, 0⟩, ⟨300, Tryz.f300, false, 0⟩, ⟨301, Tryz.f301, false, 0⟩, ⟨302, Tryz.f302, false, 0⟩, ⟨307, Tryz.f307, false, 0⟩, ⟨308, Tryz.f308, false, 0⟩, ⟨312, Tryz.f312, false, 0⟩, ⟨314, Tryz.f314, false, 0⟩, ⟨315, Tryz.f315, false, 0⟩, ⟨316, Tryz.f316, false, 0⟩, ⟨317, Tryz.f317, false, 0⟩, ⟨319, Tryz.f319, false, 0⟩, ⟨327, Tryz.f327, false, 0⟩, ⟨328, Tryz.f328, false, 0⟩, ⟨341, Tryz.f341, false, 0⟩, ⟨344, Tryz.f344, false, 0⟩, ⟨351, Tryz.f351, false, 0⟩, ⟨352, Tryz.f352, false, 0⟩, ⟨356, Tryz.f356, false, 0⟩, ⟨361, Tryz.f361, false, 0⟩, ⟨362, Tryz.f362, false, 0⟩, ⟨363, Tryz.f363, false, 0⟩, ⟨364, Tryz.f364, false, 0⟩, ⟨365, Tryz.f365, false, 0⟩, ⟨367, Tryz.f367, false, 0⟩, ⟨368, Tryz.f368, false, 0⟩, ⟨369, Tryz.f369, false, 0⟩, ⟨370, Tryz.f370, false, 0⟩, ⟨371, Tryz.f371, false, 0⟩, ⟨372, Tryz.f372, false, 0⟩, ⟨376, Tryz.f376, false, 0⟩, ⟨379, Tryz.f379, false, 0⟩, ⟨380, Tryz.f380, false, 0⟩, ⟨381, Tryz.f381, false, 0⟩, ⟨382, Tryz.f382, false, 0⟩, ⟨383, Tryz.f383, false, 0⟩, ⟨384, Tryz.f384, false, 0⟩, ⟨385, Tryz.f385, false, 0⟩, ⟨386, Tryz.f386, false, 0⟩, ⟨387, Tryz.f387, false, 0⟩, ⟨389, Tryz.f389, false, 0⟩, ⟨412, Tryz.f412, false, 0⟩, ⟨415, Tryz.f415, false, 0⟩, ⟨416, Tryz.f416, false, 0⟩, ⟨417, Tryz.f417, false, 2⟩, ⟨418, Tryz.f418, false, 0⟩, ⟨419, Tryz.f419, false, 0⟩, ⟨422, Tryz.f422, false, 0⟩, ⟨424, Tryz.f424, false, 0⟩, ⟨425, Tryz.f425, false, 0⟩, ⟨426, Tryz.f426, false, 0⟩, ⟨427, Tryz.f427, false, 0⟩, ⟨428, Tryz.f428, false, 0⟩, ⟨429, Tryz.f429, false, 0⟩, ⟨430, Tryz.f430, false, 0⟩, ⟨431, Tryz.f431, false, 0⟩, ⟨432, Tryz.f432, false, 0⟩, ⟨433, Tryz.f433, false, 0⟩, ⟨434, Tryz.f434, false, 0⟩, ⟨435, Tryz.f435, false, 0⟩, ⟨436, Tryz.f436, false, 0⟩, ⟨437, Tryz.f437, false, 0⟩, ⟨438, Tryz.f438, false, 0⟩, ⟨439, Tryz.f439, false, 0⟩, ⟨440, Tryz.f440, false, 0⟩, ⟨441, Tryz.f441, false, 0⟩, ⟨442, Tryz.f442, false, 0⟩, ⟨443, Tryz.f443, false, 0⟩, ⟨445, Tryz.f445, false, 0⟩, ⟨446, Tryz.f446, false, 0⟩, ⟨447, Tryz.f447, false, 0⟩, ⟨448, Tryz.f448, false, 0⟩, ⟨451, Tryz.f451, false, 0⟩, ⟨455, Tryz.f455, false, 0⟩, ⟨459, Tryz.f459, false, 0⟩, ⟨460, Tryz.f460, false, 0⟩, ⟨461, Tryz.f461, false, 0⟩, ⟨462, Tryz.f462, false, 0⟩, ⟨463, Tryz.f463, false, 0⟩, ⟨465, Tryz.f465, false, 0⟩, ⟨466, Tryz.f466, false, 0⟩, ⟨467, Tryz.f467, false, 0⟩, ⟨490, Tryz.f490, false, 0⟩, ⟨491, Tryz.f491, false, 0⟩, ⟨493, Tryz.f493, false, 0⟩, ⟨518, Tryz.f518, false, 0⟩, ⟨519, Tryz.f519, false, 0⟩, ⟨521, Tryz.f521, false, 0⟩, ⟨525, Tryz.f525, false, 0⟩, ⟨526, Tryz.f526, false, 0⟩, ⟨528, Tryz.f528, false, 0⟩, ⟨531, Tryz.f531, false, 0⟩, ⟨533, Tryz.f533, false, 0⟩, ⟨534, Tryz.f534, false, 0⟩, ⟨535, Tryz.f535, false, 0⟩, ⟨542, Tryz.f542, false, 0⟩, ⟨543, Tryz.f543, false, 0⟩, ⟨544, Tryz.f544, false, 0⟩, ⟨552, Tryz.f552, false, 0⟩, ⟨553, Tryz.f553, false, 0⟩, ⟨554, Tryz.f554, false, 0⟩, ⟨557, Tryz.f557, false, 0⟩, ⟨559, Tryz.f559, false, 0⟩, ⟨560, Tryz.f560, false, 0⟩, ⟨561, Tryz.f561, false, 0⟩, ⟨562, Tryz.f562, false, 0⟩, ⟨563, Tryz.f563, false, 0⟩, ⟨565, Tryz.f565, false, 0⟩, ⟨566, Tryz.f566, false, 0⟩, ⟨567, Tryz.f567, false, 0⟩, ⟨568, Tryz.f568, false, 0⟩, ⟨569, Tryz.f569, false, 0⟩, ⟨570, Tryz.f570, false, 0⟩, ⟨571, Tryz.f571, false, 0⟩, ⟨572, Tryz.f572, false, 0⟩, ⟨573, Tryz.f573, false, 0⟩, ⟨574, Tryz.f574, false, 0⟩, ⟨575, Tryz.f575, false, 0⟩, ⟨576, Tryz.f576, false, 0⟩, ⟨577, Tryz.f577, false, 0⟩, ⟨578, Tryz.f578, false, 0⟩, ⟨581, Tryz.f581, false, 0⟩, ⟨582, Tryz.f582, false, 0⟩, ⟨586, Tryz.f586, false, 0⟩, ⟨590, Tryz.f590, false, 0⟩, ⟨592, Tryz.f592, false, 0⟩, ⟨593, Tryz.f593, false, 0⟩, ⟨594, Tryz.f594, false, 0⟩, ⟨611, Tryz.f611, false, 0⟩, ⟨620, Tryz.f620, false, 0⟩, ⟨631, Tryz.f631, false, 0⟩, ⟨653, Tryz.f653, false, 0⟩, ⟨654, Tryz.f654, false, 0⟩, ⟨655, Tryz.f655, false, 0⟩, ⟨660, Tryz.f660, false, 0⟩, ⟨668, Tryz.f668, false, 0⟩, ⟨669, Tryz.f669, false, 0⟩, ⟨671, Tryz.f671, false, 0⟩, ⟨672, Tryz.f672, false, 0⟩, ⟨673, Tryz.f673, false, 0⟩, ⟨674, Tryz.f674, false, 0⟩, ⟨675, Tryz.f675, false, 0⟩, ⟨680, Tryz.f680, false, 0⟩, ⟨681, Tryz.f681, false, 0⟩, ⟨683, Tryz.f683, false, 0⟩, ⟨686, Tryz.f686, false, 0⟩, ⟨700, Tryz.f700, false, 0⟩, ⟨701, Tryz.f701, false, 0⟩, ⟨706, Tryz.f706, false, 0⟩, ⟨723, Tryz.f723, false, 0⟩, ⟨726, Tryz.f726, false, 0⟩, ⟨727, Tryz.f727, false, 0⟩, ⟨728, Tryz.f728, false, 0⟩, ⟨730, Tryz.f730, false, 0⟩, ⟨731, Tryz.f731, false, 0⟩, ⟨733, Tryz.f733, false, 0⟩, ⟨734, Tryz.f734, false, 0⟩, ⟨753, Tryz.f753, false, 0⟩, ⟨754, Tryz.f754, false, 0⟩, ⟨757, Tryz.f757, false, 0⟩, ⟨758, Tryz.f758, false, 0⟩, ⟨759, Tryz.f759, false, 0⟩, ⟨762, Tryz.f762, false, 0⟩, ⟨769, Tryz.f769, false, 0⟩, ⟨770, Tryz.f770, false, 0⟩, ⟨772, Tryz.f772, false, 0⟩, ⟨773, Tryz.f773, false, 0⟩]
noncomputable def fnsS : List FnE := [⟨72, Tryz.f72, false, 0⟩]
noncomputable def fnsG : List FnE := [⟨190, Tryz.f190, false, 0⟩, ⟨260, Tryz.f260, false, 0⟩, ⟨292, Tryz.f292, false, 0⟩, ⟨293, Tryz.f293, false, 0⟩, ⟨319, Tryz.f319, false, 0⟩, ⟨467, Tryz.f467, false, 0⟩]
noncomputable def fnsT : List FnE := [⟨40, Tryz.f40, false, 0⟩, ⟨41, Tryz.f41, false, 0⟩, ⟨47, Tryz.f47, false, 0⟩, ⟨48, Tryz.f48, false, 0⟩, ⟨50, Tryz.f50, false, 0⟩, ⟨60, Tryz.f60, false, 0⟩, ⟨68, Tryz.f68, false, 0⟩, ⟨69, Tryz.f69, false, 0⟩, ⟨77, Tryz.f77, false, 0⟩, ⟨79, Tryz.f79, false, 0⟩, ⟨132, Tryz.f132, false, 0⟩, ⟨136, Tryz.f136, false, 0⟩, ⟨144, Tryz.f144, false, 0⟩, ⟨145, Tryz.f145, false, 0⟩, ⟨147, Tryz.f147, false, 0⟩, ⟨158, Tryz.f158, false, 0⟩, ⟨162, Tryz.f162, false, 0⟩, ⟨174, Tryz.f174, false, 0⟩, ⟨178, Tryz.f178, false, 0⟩, ⟨179, Tryz.f179, false, 0⟩, ⟨191, Tryz.f191, false, 0⟩, ⟨199, Tryz.f199, false, 0⟩, ⟨200, Tryz.f200, false, 0⟩, ⟨239, Tryz.f239, false, 0⟩, ⟨240, Tryz.f240, false, 0⟩, ⟨241, Tryz.f241, false, 0⟩, ⟨242, Tryz.f242, false, 0⟩, ⟨244, Tryz.f244, false, 0⟩, ⟨245, Tryz.f245, false, 0⟩, ⟨246, Tryz.f246, false, 0⟩, ⟨247, Tryz.f247, false, 0⟩, ⟨253, Tryz.f253, false, 0⟩, ⟨274, Tryz.f274, false, 0⟩, ⟨275, Tryz.f275, false, 0⟩, ⟨277, Tryz.f277, false, 0⟩, ⟨278, Tryz.f278, false, 0⟩, ⟨294, Tryz.f294, false, 0⟩, ⟨295, Tryz.f295, false, 0⟩, ⟨300, Tryz.f300, false, 0⟩, ⟨307, Tryz.f307, false, 0⟩, ⟨308, Tryz.f308, false, 0⟩, ⟨312, Tryz.f312, false, 0⟩, ⟨314, Tryz.f314, false, 0⟩, ⟨317, Tryz.f317, false, 0⟩, ⟨327, Tryz.f327, false, 0⟩, ⟨341, Tryz.f341, false, 0⟩, ⟨344, Tryz.f344, false, 0⟩, ⟨356, Tryz.f356, false, 0⟩, ⟨361, Tryz.f361, false, 0⟩, ⟨362, Tryz.f362, false, 0⟩, ⟨363, Tryz.f363, false, 0⟩, ⟨364, Tryz.f364, false, 0⟩, ⟨365, Tryz.f365, false, 0⟩, ⟨367, Tryz.f367, false, 0⟩, ⟨368, Tryz.f368, false, 0⟩, ⟨369, Tryz.f369, false, 0⟩, ⟨370, Tryz.f370, false, 0⟩, ⟨371, Tryz.f371, false, 0⟩, ⟨372, Tryz.f372, false, 0⟩, ⟨383, Tryz.f383, false, 0⟩, ⟨384, Tryz.f384, false, 0⟩, ⟨385, Tryz.f385, false, 0⟩, ⟨386, Tryz.f386, false, 0⟩, ⟨387, Tryz.f387, false, 0⟩, ⟨422, Tryz.f422, false, 0⟩, ⟨425, Tryz.f425, false, 0⟩, ⟨426, Tryz.f426, false, 0⟩, ⟨427, Tryz.f427, false, 0⟩, ⟨428, Tryz.f428, false, 0⟩, ⟨434, Tryz.f434, false, 0⟩, ⟨435, Tryz.f435, false, 0⟩, ⟨436, Tryz.f436, false, 0⟩, ⟨455, Tryz.f455, false, 0⟩, ⟨466, Tryz.f466, false, 0⟩, ⟨490, Tryz.f490, false, 0⟩, ⟨491, Tryz.f491, false, 0⟩, ⟨519, Tryz.f519, false, 0⟩, ⟨521, Tryz.f521, false, 0⟩, ⟨525, Tryz.f525, false, 0⟩, ⟨526, Tryz.f526, false, 0⟩, ⟨528, Tryz.f528, false, 0⟩, ⟨531, Tryz.f531, false, 0⟩, ⟨533, Tryz.f533, false, 0⟩, ⟨534, Tryz.f534, false, 0⟩, ⟨557, Tryz.f557, false, 0⟩, ⟨559, Tryz.f559, false, 0⟩, ⟨562, Tryz.f562, false, 0⟩, ⟨565, Tryz.f565, false, 0⟩, ⟨566, Tryz.f566, false, 0⟩, ⟨567, Tryz.f567, false, 0⟩, ⟨568, Tryz.f568, false, 0⟩, ⟨569, Tryz.f569, false, 0⟩, ⟨594, Tryz.f594, false, 0⟩, ⟨620, Tryz.f620, false, 0⟩, ⟨654, Tryz.f654, false, 0⟩, ⟨655, Tryz.f655, false, 0⟩, ⟨671, Tryz.f671, false, 0⟩, ⟨686, Tryz.f686, false, 0⟩, ⟨733, Tryz.f733, false, 0⟩, ⟨734, Tryz.f734, false, 0⟩, ⟨762, Tryz.f762, false, 0⟩]
noncomputable def fnsC : List FnE := [⟨4, Tryz.f4, false, 0⟩, ⟨7, Tryz.f7, false, 0⟩, ⟨8, Tryz.f8, false, 0⟩, ⟨10, Tryz.f10, false, 0⟩, ⟨11, Tryz.f11, false, 0⟩, ⟨12, Tryz.f12, false, 0⟩, ⟨13, Tryz.f13, false, 0⟩, ⟨14, Tryz.f14, false, 0⟩, ⟨15, Tryz.f15, false, 0⟩, ⟨16, Tryz.f16, false, 0⟩, ⟨17, Tryz.f17, false, 0⟩, ⟨18, Tryz.f18, false, 0⟩, ⟨21, Tryz.f21, false, 0⟩, ⟨22, Tryz.f22, false, 0⟩, ⟨23, Tryz.f23, false, 0⟩, ⟨27, Tryz.f27, false, 0⟩, ⟨28, Tryz.f28, false, 0⟩, ⟨30, Tryz.f30, false, 0⟩, ⟨31, Tryz.f31, false, 0⟩, ⟨32, Tryz.f32, false, 0⟩, ⟨33, Tryz.f33, false, 0⟩, ⟨34, Tryz.f34, false, 0⟩, ⟨35, Tryz.f35, false, 0⟩, ⟨36, Tryz.f36, false, 0⟩, ⟨37, Tryz.f37, false, 0⟩, ⟨38, Tryz.f38, false, 0⟩, ⟨39, Tryz.f39, false, 0⟩, ⟨40, Tryz.f40, false, 0⟩, ⟨41, Tryz.f41, false, 0⟩, ⟨48, Tryz.f48, false, 0⟩, ⟨50, Tryz.f50, false, 0⟩, ⟨55, Tryz.f55, false, 0⟩, ⟨56, Tryz.f56, false, 0⟩, ⟨57, Tryz.f57, false, 0⟩, ⟨60, Tryz.f60, false, 0⟩, ⟨61, Tryz.f61, false, 0⟩, ⟨62, Tryz.f62, false, 0⟩, ⟨63, Tryz.f63, false, 1⟩, ⟨64, Tryz.f64, false, 0⟩, ⟨65, Tryz.f65, false, 0⟩, ⟨66, Tryz.f66, false, 0⟩, ⟨67, Tryz.f67, false, 0⟩, ⟨68, Tryz.f68, false, 0⟩, ⟨69, Tryz.f69, false, 0⟩, ⟨70, Tryz.f70, false, 0⟩, ⟨71, Tryz.f71, false, 0⟩, ⟨75, Tryz.f75, false, 0⟩, ⟨77, Tryz.f77, false, 0⟩, ⟨91, Tryz.f91, false, 0⟩, ⟨92, Tryz.f92, false, 0⟩, ⟨93, Tryz.f93, false, 0⟩, ⟨94, Tryz.f94, false, 0⟩, ⟨95, Tryz.f95, false, 0⟩, ⟨102, Tryz.f102, false, 0⟩, ⟨103, Tryz.f103, false, 0⟩, ⟨106, Tryz.f106, false, 0⟩, ⟨107, Tryz.f107, false, 0⟩, ⟨108, Tryz.f108, false, 0⟩, ⟨109, Tryz.f109, false, 0⟩, ⟨110, Tryz.f110, false, 0⟩, ⟨112, Tryz.f112, false, 0⟩, ⟨113, Tryz.f113, false, 0⟩, ⟨114, Tryz.f114, false, 0⟩, ⟨118, Tryz.f118, false, 0⟩, ⟨120, Tryz.f120, false, 0⟩, ⟨121, Tryz.f121, false, 0⟩, ⟨122, Tryz.f122, false, 0⟩, ⟨125, Tryz.f125, false, 0⟩, ⟨132, Tryz.f132, false, 0⟩, ⟨136, Tryz.f136, false, 0⟩, ⟨144, Tryz.f144, false, 0⟩, ⟨145, Tryz.f145, false, 0⟩, ⟨147, Tryz.f147, false, 0⟩, ⟨158, Tryz.f158, false, 0⟩, ⟨162, Tryz.f162, false, 0⟩, ⟨164, Tryz.f164, false, 0⟩, ⟨165, Tryz.f165, false, 0⟩, ⟨166, Tryz.f166, false, 0⟩, ⟨170, Tryz.f170, false, 0⟩, ⟨174, Tryz.f174, false, 0⟩, ⟨178, Tryz.f178, false, 0⟩, ⟨179, Tryz.f179, false, 0⟩, ⟨182, Tryz.f182, false, 0⟩, ⟨183, Tryz.f183, false, 0⟩, ⟨184, Tryz.f184, false, 0⟩, ⟨185, Tryz.f185, false, 0⟩, ⟨189, Tryz.f189, false, 0⟩, ⟨192, Tryz.f192, false, 0⟩, ⟨199, Tryz.f199, false, 0⟩, ⟨200, Tryz.f200, false, 0⟩, ⟨202, Tryz.f202, false, 0⟩, ⟨203, Tryz.f203, false, 0⟩, ⟨204, Tryz.f204, false, 0⟩, ⟨208, Tryz.f208, false, 0⟩, ⟨209, Tryz.f209, false, 0⟩, ⟨210, Tryz.f210, false, 0⟩, ⟨211, Tryz.f211, false, 0⟩, ⟨215, Tryz.f215, false, 0⟩, ⟨216, Tryz.f216, false, 0⟩, ⟨239, Tryz.f239, false, 0⟩, ⟨240, Tryz.f240, false, 0⟩, ⟨241, Tryz.f241, false, 0⟩, ⟨244, Tryz.f244, false, 0⟩, ⟨245, Tryz.f245, false, 0⟩, ⟨246, Tryz.f246, false, 0⟩, ⟨247, Tryz.f247, false, 0⟩, ⟨249, Tryz.f249, false, 0⟩, ⟨250, Tryz.f250, false, 0⟩, ⟨251, Tryz.f251, false, 0⟩, ⟨252, Tryz.f252, false, 0⟩, ⟨253, Tryz.f253, false, 0⟩, ⟨254, Tryz.f254, false, 0⟩, ⟨260, Tryz.f260, false, 0⟩, ⟨262, Tryz.f262, false, 0⟩, ⟨263, Tryz.f263, false, 2⟩, ⟨264, Tryz.f264, false, 0⟩, ⟨274, Tryz.f274, false, 0⟩, ⟨277, Tryz.f277, false, 0⟩, ⟨278, Tryz.f278, false, 0⟩, ⟨280, Tryz.f280, false, 0⟩, ⟨281, Tryz.f281, false, 0⟩, ⟨282, Tryz.f282, false, 2⟩, ⟨284, Tryz.f284, false, 0⟩, ⟨285, Tryz.f285, false, 0⟩, ⟨286, Tryz.f286, false, 0⟩, ⟨287, Tryz.f287, false, 0⟩, ⟨288, Tryz.f288, false, 0⟩, ⟨289, Tryz.f289, false, 0⟩, ⟨291, Tryz.f291, false, 0⟩, ⟨294, Tryz.f294, false, 0⟩, ⟨300, Tryz.f300, false, 0⟩, ⟨307, Tryz.f307, false, 0⟩, ⟨308, Tryz.f308, false, 0⟩, ⟨312, Tryz.f312, false, 0⟩, ⟨314, Tryz.f314, false, 0⟩, ⟨315, Tryz.f315, false, 0⟩, ⟨316, Tryz.f316, false, 0⟩, ⟨317, Tryz.f317, false, 0⟩, ⟨318, Tryz.f318, false, 0⟩, ⟨319, Tryz.f319, false, 0⟩, ⟨320, Tryz.f320, false, 0⟩, ⟨321, Tryz.f321, false, 0⟩, ⟨326, Tryz.f326, false, 0⟩, ⟨327, Tryz.f327, false, 0⟩, ⟨328, Tryz.f328, false, 0⟩, ⟨331, Tryz.f331, false, 0⟩, ⟨332, Tryz.f332, false, 0⟩, ⟨333, Tryz.f333, false, 0⟩, ⟨335, Tryz.f335, false, 0⟩, ⟨336, Tryz.f336, false, 0⟩, ⟨337, Tryz.f337, false, 0⟩, ⟨338, Tryz.f338, false, 0⟩, ⟨341, Tryz.f341, false, 0⟩, ⟨343, Tryz.f343, false, 0⟩, ⟨344, Tryz.f344, false, 0⟩, ⟨351, Tryz.f351, false, 0⟩, ⟨352, Tryz.f352, false, 0⟩, ⟨356, Tryz.f356, false, 0⟩, ⟨361, Tryz.f361, false, 0⟩, ⟨362, Tryz.f362, false, 0⟩, ⟨363, Tryz.f363, false, 0⟩, ⟨364, Tryz.f364, false, 0⟩, ⟨365, Tryz.f365, false, 0⟩, ⟨367, Tryz.f367, false, 0⟩, ⟨376, Tryz.f376, false, 0⟩, ⟨377, Tryz.f377, false, 0⟩, ⟨378, Tryz.f378, false, 0⟩, ⟨380, Tryz.f380, false, 0⟩, ⟨381, Tryz.f381, false, 0⟩, ⟨383, Tryz.f383, false, 0⟩, ⟨384, Tryz.f384, false, 0⟩, ⟨385, Tryz.f385, false, 0⟩, ⟨386, Tryz.f386, false, 0⟩, ⟨387, Tryz.f387, false, 0⟩, ⟨389, Tryz.f389, false, 0⟩, ⟨412, Tryz.f412, false, 0⟩, ⟨413, Tryz.f413, false, 0⟩, ⟨415, Tryz.f415, false, 0⟩, ⟨416, Tryz.f416, false, 0⟩, ⟨417, Tryz.f417, false, 2⟩, ⟨418, Tryz.f418, false, 0⟩, ⟨419, Tryz.f419, false, 0⟩, ⟨425, Tryz.f425, false, 0⟩, ⟨426, Tryz.f426, false, 0⟩, ⟨427, Tryz.f427, false, 0⟩, ⟨428, Tryz.f428, false, 0⟩, ⟨429, Tryz.f429, false, 0⟩, ⟨430, Tryz.f430, false, 0⟩, ⟨431, Tryz.f431, false, 0⟩, ⟨432, Tryz.f432, false, 0⟩, ⟨433, Tryz.f433, false, 0⟩, ⟨434, Tryz.f434, false, 0⟩, ⟨435, Tryz.f435, false, 0⟩, ⟨455, Tryz.f455, false, 0⟩, ⟨459, Tryz.f459, false, 0⟩, ⟨460, Tryz.f460, false, 0⟩, ⟨461, Tryz.f461, false, 0⟩, ⟨462, Tryz.f462, false, 0⟩, ⟨463, Tryz.f463, false, 0⟩, ⟨465, Tryz.f465, false, 0⟩, ⟨466, Tryz.f466, false, 0⟩, ⟨467, Tryz.f467, false, 0⟩, ⟨470, Tryz.f470, false, 0⟩, ⟨472, Tryz.f472, false, 0⟩, ⟨473, Tryz.f473, false, 0⟩, ⟨476, Tryz.f476, false, 0⟩, ⟨481, Tryz.f481, false, 0⟩, ⟨482, Tryz.f482, false, 0⟩, ⟨485, Tryz.f485, false, 0⟩, ⟨490, Tryz.f490, false, 0⟩, ⟨491, Tryz.f491, false, 0⟩, ⟨493, Tryz.f493, false, 0⟩, ⟨519, Tryz.f519, false, 0⟩, ⟨521, Tryz.f521, false, 0⟩, ⟨525, Tryz.f525, false, 0⟩, ⟨526, Tryz.f526, false, 0⟩, ⟨528, Tryz.f528, false, 0⟩, ⟨535, Tryz.f535, false, 0⟩, ⟨536, Tryz.f536, false, 0⟩, ⟨542, Tryz.f542, false, 0⟩, ⟨543, Tryz.f543, false, 0⟩, ⟨544, Tryz.f544, false, 0⟩, ⟨552, Tryz.f552, false, 0⟩, ⟨553, Tryz.f553, false, 0⟩, ⟨554, Tryz.f554, false, 0⟩, ⟨559, Tryz.f559, false, 0⟩, ⟨560, Tryz.f560, false, 0⟩, ⟨561, Tryz.f561, false, 0⟩, ⟨562, Tryz.f562, false, 0⟩, ⟨563, Tryz.f563, false, 0⟩, ⟨565, Tryz.f565, false, 0⟩, ⟨566, Tryz.f566, false, 0⟩, ⟨567, Tryz.f567, false, 0⟩, ⟨568, Tryz.f568, false, 0⟩, ⟨590, Tryz.f590, false, 0⟩, ⟨592, Tryz.f592, false, 0⟩, ⟨593, Tryz.f593, false, 0⟩, ⟨594, Tryz.f594, false, 0⟩, ⟨614, Tryz.f614, false, 0⟩, ⟨620, Tryz.f620, false, 0⟩, ⟨653, Tryz.f653, false, 0⟩, ⟨654, Tryz.f654, false, 0⟩, ⟨655, Tryz.f655, false, 0⟩, ⟨660, Tryz.f660, false, 0⟩, ⟨668, Tryz.f668, false, 0⟩, ⟨669, Tryz.f669, false, 0⟩, ⟨686, Tryz.f686, false, 0⟩, ⟨733, Tryz.f733, false, 0⟩, ⟨734, Tryz.f734, false, 0⟩, ⟨762, Tryz.f762, false, 0⟩]
noncomputable def fnsR : List FnE := [⟨3, Tryz.f3, false, 0⟩, ⟨7, Tryz.f7, false, 0⟩, ⟨8, Tryz.f8, false, 0⟩, ⟨21, Tryz.f21, false, 0⟩, ⟨22, Tryz.f22, false, 0⟩, ⟨23, Tryz.f23, false, 0⟩]
noncomputable def runW : Bool := mkTblZ Tryz.prog [] (660, 420) 104 fnsW tab0 (fun t => runF t 50 524 [] hs (isMapK wordsMs wordsClock) (fun _ _ => false))
noncomputable def mI (n : Nat) : AV := .int .i64 (.ofNat n)
noncomputable def mU (n : Nat) : AV := .int .u8 (.ofNat n)
noncomputable def mS0 : AV := .str 0 0
noncomputable def mN {α : Type} {d : Nat} (a b c e : T4 α d) : T4 α (d + 1) := (⟨a, b, c, e⟩ : Q (T4 α d))
noncomputable def mL {α : Type} (x : α) : T4 α 0 := (some x : Option α)
noncomputable def mR (l : List AV) : RT (List AV) RD := ⟨some l, T4.e RD⟩
noncomputable def mM : AV := .int .i64 (.negSucc 0)
noncomputable def m4 {α : Type} (x : T4 α 4) : T4 α 6 := mN (mN x (T4.e 4) (T4.e 4) (T4.e 4)) (T4.e 5) (T4.e 5) (T4.e 5)
noncomputable def m3 {α : Type} (x : T4 α 3) : T4 α 6 := m4 (mN x (T4.e 3) (T4.e 3) (T4.e 3))
noncomputable def m2 {α : Type} (x : T4 α 2) : T4 α 6 := m3 (mN x (T4.e 2) (T4.e 2) (T4.e 2))
noncomputable def m1 {α : Type} (x : T4 α 1) : T4 α 6 := m2 (mN x (T4.e 1) (T4.e 1) (T4.e 1))
/-- the items, but for what their values are -/
noncomputable def itemsB : AB := (.cells 22 440 440 0 true 208 ⟨some [.str 1 65, mI 77, mM, mU 4, mU 0, .str 5 245773187411, mI 4, mI 0, .bool true, .bool false, .bool false, .bool false, .bool false, mI 4, mI 0, mI 1, mI 1, mM, mM, mM, mM, .nils], (m3 (mN (mN (mN (T4.e 0) (mL [.str 1 66, .unk, .unk, .unk, .unk, .unk, .unk, .unk, .unk, .unk, .unk, .unk, .unk, mI 3, mI 4, mI 1, mI 1, mM]) (mL [.str 1 67, .unk, .unk, .unk, .unk, .unk, .unk, .unk, .unk, .unk, .unk, .unk, .unk, mI 5, mI 7, mI 1, mI 1, mM]) (mL [.str 1 68, .unk, .unk, .unk, .unk, .unk, .unk, .unk, .unk, .unk, .unk, .unk, .unk, mI 4, mI 12, mI 1, mI 1, mM])) (mN (mL [.str 1 69, .unk, .unk, .unk, .unk, .unk, .unk, .unk, .unk, .unk, .unk, .unk, .unk, mI 6, mI 16, mI 1, mI 1, mM]) (mL [.str 1 84, .unk, .unk, .unk, .unk, .unk, .unk, .unk, .unk, .unk, .unk, .unk, .unk, mI 8, mI 22, mI 1, mI 1, mM]) (mL [.str 1 85, .unk, .unk, .unk, .unk, .unk, .unk, .unk, .unk, .unk, .unk, .unk, .unk, mI 3, mI 30, mI 1, mI 1, mM]) (mL [.str 1 71, .unk, .unk, .unk, .unk, .unk, .unk, .unk, .unk, .unk, .unk, .unk, .unk, mI 5, mI 33, mI 1, mI 1, mM])) (mN (mL [.str 2 16711, .unk, .unk, .unk, .unk, .unk, .unk, .unk, .unk, .unk, .unk, .unk, .unk, mI 2, mI 33, mI 1, mI 1, mM]) (mL [.str 2 16967, .unk, .unk, .unk, .unk, .unk, .unk, .unk, .unk, .unk, .unk, .unk, .unk, mI 3, mI 35, mI 1, mI 1, mM]) (mL [.str 1 72, .unk, .unk, .unk, .unk, .unk, .unk, .unk, .unk, .unk, .unk, .unk, .unk, mI 5, mI 38, mI 1, mI 1, mM]) (mL [.str 2 16711, .unk, .unk, .unk, .unk, .unk, .unk, .unk, .unk, .unk, .unk, .unk, .unk, mI 3, mI 38, mI 1, mI 1, mM])) (mN (mL [.str 2 16967, .unk, .unk, .unk, .unk, .unk, .unk, .unk, .unk, .unk, .unk, .unk, .unk, mI 2, mI 41, mI 1, mI 1, mM]) (mL [.str 3 4342100, .unk, .unk, .unk, .unk, .unk, .unk, .unk, .unk, .unk, .unk, .unk, .unk, mI 8, mI 43, mI 1, mI 1, mM]) (mL [.str 1 78, .unk, .unk, .unk, .unk, .unk, .unk, .unk, .unk, .unk, .unk, .unk, .unk, mI 2, mI 43, mI 4, mI 4, mM]) (mL [.str 1 73, .unk, .unk, .unk, .unk, .unk, .unk, .unk, .unk, .unk, .unk, .unk, .unk, mI 3, mI 51, mI 1, mI 1, mM]))) (mN (mN (mL [.str 1 75, .unk, .unk, .unk, .unk, .unk, .unk, .unk, .unk, .unk, .unk, .unk, .unk, mI 1, mI 54, mI 1, mI 1, mM]) (mL [.str 4 1146048327, .unk, .unk, .unk, .unk, .unk, .unk, .unk, .unk, .unk, .unk, .unk, .unk, mI 1, mI 54, mI 1, mI 1, mM]) (mL [.str 5 383532548421, .unk, .unk, .unk, .unk, .unk, .unk, .unk, .unk, .unk, .unk, .unk, .unk, mI 1, mI 54, mI 1, mI 1, mM]) (mL [.str 1 90, mI 77, mM, mU 4, mU 0, .str 2 14649, mI 2, mI 0, .bool false, .bool false, .bool false, .bool false, .bool false, mI 2, mI 55, mI 1, mI 1, mM, mM, mM, mM, .nils])) (T4.e 1) (T4.e 1) (T4.e 1)) (T4.e 2) (T4.e 2)))⟩)
noncomputable def rk0 (l : List FnE) (t : T4 FnD TD) (f : Nat) (m : Memo2) : Bool := mkTblZ Tryz.prog [] (660, 420) 104 l t (fun t => runF t 60 f m.args (m.h0 gls 16) (memoK0 m) (fun _ _ => false))
/-- several kept calls without blocks, one after the other -/
noncomputable def memoAll (t : T4 FnD TD) (f : Nat) (ms : List Memo2) : Bool := List.rec (motive := fun _ => Bool) true (fun m _ ih => andB (runF t 60 f m.args (m.h0 gls 16) (memoK0 m) (fun _ _ => false)) ih) ms
noncomputable def run2_true : Bool := mkTblZ Tryz.prog [] (660, 420) 104 fnsL tab1 (fun t => runF t 60 9 [] hs isTrueK (fun _ _ => false))
noncomputable def tab2 : T4 FnD TD := T4.set TD 9 (trueD) tab1
noncomputable def dat : Memo2 where
  args := []
  ins := []
  src := []
  c := 2
  n := 3
  tot := 64
  res := .sl 2048 380 0 20 20 false
  out := (mN (mN (mN (mN (mN (mL 4) (mL 62) (mL 63) (T4.e 0)) (T4.e 1) (T4.e 1) (T4.e 1)) (T4.e 2) (T4.e 2) (T4.e 2)) (T4.e 3) (T4.e 3) (T4.e 3)) (T4.e 4) (T4.e 4) (T4.e 4))
  sub := (mN (mN (mN (mN (mN (mL (.cells 19 380 380 0 true 202 ⟨some [mI 77, .str 1 65, mS0, .str 5 176968710483, mU 0, .bool false, mI 0, mI 0, .nils, .bool false, .bool false, .bool false, .bool false, .bool false, .nils, .nils, .nils, mI 0, mI 0], (m3 (mN (mN (mN (T4.e 0) (mL [mI 77, .str 1 66, mS0, .str 5 176968710483, mU 1, .bool true, mI 0, mI 0, .nils, .bool false, .bool false, .bool false, .bool false, .bool false, .nils, .nils, .nils, mI 0, mI 0]) (mL [mI 77, .str 1 67, mS0, .str 7 16107115893696569, mU 0, .bool false, mI 0, mI 0, .nils, .bool false, .bool false, .bool false, .bool false, .bool false, .nils, .nils, .nils, mI 0, mI 0]) (mL [mI 77, .str 1 68, mS0, .str 5 177002264915, mU 2, .bool true, mI 0, mI 0, .nils, .bool false, .bool false, .bool false, .bool false, .bool false, .nils, .nils, .nils, mI 0, mI 0])) (mN (mL [mI 77, .str 1 69, mS0, .str 6 62917751429722, mU 0, .bool false, mI 0, mI 0, .nils, .bool false, .bool false, .bool false, .bool false, .bool false, .nils, .nils, .nils, mI 0, mI 0]) (mL [mI 77, .str 1 84, mS0, .str 4 691546200, mU 0, .bool false, mI 0, mI 0, .nils, .bool false, .bool false, .bool false, .bool false, .bool false, .nils, .nils, .nils, mI 0, mI 0]) (mL [mI 77, .str 1 85, mS0, .str 4 691218520, mU 0, .bool false, mI 0, mI 0, .nils, .bool false, .bool false, .bool false, .bool true, .bool false, .nils, .nils, .nils, mI 0, mI 0]) (mL [mI 1, .str 1 71, mS0, mS0, mU 0, .bool false, mI 0, mI 0, .nils, .bool false, .bool false, .bool false, .bool false, .bool false, .nils, .nils, .nils, mI 0, mI 0])) (mN (mL [mI 2, .str 2 16711, mS0, .str 4 691152953, mU 0, .bool false, mI 0, mI 0, .nils, .bool false, .bool false, .bool false, .bool false, .bool false, .nils, .nils, .nils, mI 0, mI 0]) (mL [mI 2, .str 2 16967, mS0, .str 4 691218520, mU 0, .bool false, mI 0, mI 0, .nils, .bool false, .bool false, .bool false, .bool false, .bool false, .nils, .nils, .nils, mI 0, mI 0]) (mL [mI 1, .str 1 72, mS0, mS0, mU 0, .bool false, mI 0, mI 0, .nils, .bool false, .bool false, .bool false, .bool false, .bool false, .nils, .nils, .nils, mI 0, mI 0]) (mL [mI 2, .str 2 16711, mS0, .str 5 176951933267, mU 0, .bool false, mI 0, mI 0, .nils, .bool false, .bool false, .bool false, .bool false, .bool false, .nils, .nils, .nils, mI 0, mI 0])) (mN (mL [mI 2, .str 2 16967, mS0, .str 4 691152984, mU 0, .bool false, mI 0, mI 0, .nils, .bool false, .bool false, .bool false, .bool false, .bool false, .nils, .nils, .nils, mI 0, mI 0]) (mL [mI 1, .str 3 4342100, mS0, mS0, mU 0, .bool false, mI 0, mI 0, .nils, .bool false, .bool false, .bool false, .bool false, .bool false, .nils, .nils, .nils, mI 0, mI 0]) (mL [mI 2, .str 1 78, mS0, .str 4 691152953, mU 0, .bool false, mI 4, mI 0, .nils, .bool false, .bool false, .bool false, .bool false, .bool false, .nils, .nils, .nils, mI 0, mI 0]) (mL [mI 77, .str 1 73, mS0, .str 4 691218489, mU 0, .bool false, mI 0, mI 0, .nils, .bool false, .bool false, .bool false, .bool false, .bool false, .nils, .nils, .nils, mI 0, mI 0]))) (mN (mN (mL [mI 77, .str 1 75, mS0, .str 1 88, mU 0, .bool false, mI 0, mI 0, .nils, .bool false, .bool false, .bool false, .bool false, .bool false, .nils, .nils, .nils, mI 0, mI 0]) (mL [mI 88, .str 4 1146048327, mS0, mS0, mU 0, .bool false, mI 0, mI 0, .nils, .bool false, .bool false, .bool false, .bool false, .bool false, .sl 2049 5 0 1 1 true, .nils, .nils, mI 0, mI 0]) (mL [mI 88, .str 5 383532548421, mS0, mS0, mU 0, .bool false, mI 0, mI 0, .nils, .bool false, .bool false, .bool false, .bool false, .bool false, .sl 2050 15 0 3 3 true, .nils, .nils, mI 0, mI 0]) (mL [mI 77, .str 1 90, mS0, .str 4 691152953, mU 0, .bool false, mI 0, mI 0, .nils, .bool false, .bool false, .bool false, .bool false, .bool false, .nils, .nils, .nils, mI 0, mI 0])) (T4.e 1) (T4.e 1) (T4.e 1)) (T4.e 2) (T4.e 2)))⟩)) (mL (.cells 5 5 0 0 false 41 (mR [mU 3, .str 1 89, mI 0, mI 0, .bool false]))) (mL (.cells 5 15 0 0 false 41 ⟨some [mU 3, .str 1 65, mI 0, mI 0, .bool false], (m1 (mN (T4.e 0) (mL [mU 1, .str 4 1431455828, mI 0, mI 0, .bool false]) (mL [mU 3, .str 1 70, mI 0, mI 0, .bool false]) (T4.e 0)))⟩)) (T4.e 0)) (T4.e 1) (T4.e 1) (T4.e 1)) (T4.e 2) (T4.e 2) (T4.e 2)) (T4.e 3) (T4.e 3) (T4.e 3)) (T4.e 4) (T4.e 4) (T4.e 4))
  refs := []
noncomputable def run3_dat : Bool := mkTblZ Tryz.prog [] (660, 420) 104 fnsD tab2 (fun t => runF t 60 58 dat.args (dat.h0 gls 16) (memoK2 dat 16) (fun _ _ => false))
noncomputable def tab3 : T4 FnD TD := T4.set TD 58 (memoD2 dat 16 (failD)) tab2
noncomputable def lay : Memo2 where
  args := [.sl 16 380 0 20 20 true]
  ins := [some (.cells 19 380 380 0 true 202 ⟨some [mI 77, .str 1 65, mS0, .str 5 176968710483, mU 0, .bool false, mI 0, mI 0, .nils, .bool false, .bool false, .bool false, .bool false, .bool false, .nils, .nils, .nils, mI 0, mI 0], (m3 (mN (mN (mN (T4.e 0) (mL [mI 77, .str 1 66, mS0, .str 5 176968710483, mU 1, .bool true, mI 0, mI 0, .nils, .bool false, .bool false, .bool false, .bool false, .bool false, .nils, .nils, .nils, mI 0, mI 0]) (mL [mI 77, .str 1 67, mS0, .str 7 16107115893696569, mU 0, .bool false, mI 0, mI 0, .nils, .bool false, .bool false, .bool false, .bool false, .bool false, .nils, .nils, .nils, mI 0, mI 0]) (mL [mI 77, .str 1 68, mS0, .str 5 177002264915, mU 2, .bool true, mI 0, mI 0, .nils, .bool false, .bool false, .bool false, .bool false, .bool false, .nils, .nils, .nils, mI 0, mI 0])) (mN (mL [mI 77, .str 1 69, mS0, .str 6 62917751429722, mU 0, .bool false, mI 0, mI 0, .nils, .bool false, .bool false, .bool false, .bool false, .bool false, .nils, .nils, .nils, mI 0, mI 0]) (mL [mI 77, .str 1 84, mS0, .str 4 691546200, mU 0, .bool false, mI 0, mI 0, .nils, .bool false, .bool false, .bool false, .bool false, .bool false, .nils, .nils, .nils, mI 0, mI 0]) (mL [mI 77, .str 1 85, mS0, .str 4 691218520, mU 0, .bool false, mI 0, mI 0, .nils, .bool false, .bool false, .bool false, .bool true, .bool false, .nils, .nils, .nils, mI 0, mI 0]) (mL [mI 1, .str 1 71, mS0, mS0, mU 0, .bool false, mI 0, mI 0, .nils, .bool false, .bool false, .bool false, .bool false, .bool false, .nils, .nils, .nils, mI 0, mI 0])) (mN (mL [mI 2, .str 2 16711, mS0, .str 4 691152953, mU 0, .bool false, mI 0, mI 0, .nils, .bool false, .bool false, .bool false, .bool false, .bool false, .nils, .nils, .nils, mI 0, mI 0]) (mL [mI 2, .str 2 16967, mS0, .str 4 691218520, mU 0, .bool false, mI 0, mI 0, .nils, .bool false, .bool false, .bool false, .bool false, .bool false, .nils, .nils, .nils, mI 0, mI 0]) (mL [mI 1, .str 1 72, mS0, mS0, mU 0, .bool false, mI 0, mI 0, .nils, .bool false, .bool false, .bool false, .bool false, .bool false, .nils, .nils, .nils, mI 0, mI 0]) (mL [mI 2, .str 2 16711, mS0, .str 5 176951933267, mU 0, .bool false, mI 0, mI 0, .nils, .bool false, .bool false, .bool false, .bool false, .bool false, .nils, .nils, .nils, mI 0, mI 0])) (mN (mL [mI 2, .str 2 16967, mS0, .str 4 691152984, mU 0, .bool false, mI 0, mI 0, .nils, .bool false, .bool false, .bool false, .bool false, .bool false, .nils, .nils, .nils, mI 0, mI 0]) (mL [mI 1, .str 3 4342100, mS0, mS0, mU 0, .bool false, mI 0, mI 0, .nils, .bool false, .bool false, .bool false, .bool false, .bool false, .nils, .nils, .nils, mI 0, mI 0]) (mL [mI 2, .str 1 78, mS0, .str 4 691152953, mU 0, .bool false, mI 4, mI 0, .nils, .bool false, .bool false, .bool false, .bool false, .bool false, .nils, .nils, .nils, mI 0, mI 0]) (mL [mI 77, .str 1 73, mS0, .str 4 691218489, mU 0, .bool false, mI 0, mI 0, .nils, .bool false, .bool false, .bool false, .bool false, .bool false, .nils, .nils, .nils, mI 0, mI 0]))) (mN (mN (mL [mI 77, .str 1 75, mS0, .str 1 88, mU 0, .bool false, mI 0, mI 0, .nils, .bool false, .bool false, .bool false, .bool false, .bool false, .nils, .nils, .nils, mI 0, mI 0]) (mL [mI 88, .str 4 1146048327, mS0, mS0, mU 0, .bool false, mI 0, mI 0, .nils, .bool false, .bool false, .bool false, .bool false, .bool false, .sl 17 5 0 1 1 true, .nils, .nils, mI 0, mI 0]) (mL [mI 88, .str 5 383532548421, mS0, mS0, mU 0, .bool false, mI 0, mI 0, .nils, .bool false, .bool false, .bool false, .bool false, .bool false, .sl 18 15 0 3 3 true, .nils, .nils, mI 0, mI 0]) (mL [mI 77, .str 1 90, mS0, .str 4 691152953, mU 0, .bool false, mI 0, mI 0, .nils, .bool false, .bool false, .bool false, .bool false, .bool false, .nils, .nils, .nils, mI 0, mI 0])) (T4.e 1) (T4.e 1) (T4.e 1)) (T4.e 2) (T4.e 2)))⟩), some (.cells 5 5 0 0 false 41 (mR [mU 3, .str 1 89, mI 0, mI 0, .bool false])), some (.cells 5 15 0 0 false 41 ⟨some [mU 3, .str 1 65, mI 0, mI 0, .bool false], (m1 (mN (T4.e 0) (mL [mU 1, .str 4 1431455828, mI 0, mI 0, .bool false]) (mL [mU 3, .str 1 70, mI 0, mI 0, .bool false]) (T4.e 0)))⟩)]
  src := [(0, 0), (1, 337), (1, 356)]
  c := 10
  n := 3
  tot := 936
  res := .tup [.agg [.sl 10240 440 0 20 20 true, mI 57], .agg [mI 0, mI 0, mI 0]]
  out := (mN (mN (mN (mN (mN (mL 447) (mL 500) (mL 505) (T4.e 0)) (T4.e 1) (T4.e 1) (T4.e 1)) (T4.e 2) (T4.e 2) (T4.e 2)) (T4.e 3) (T4.e 3) (T4.e 3)) (T4.e 4) (T4.e 4) (T4.e 4))
  sub := (mN (mN (mN (mN (mN (mL (.cells 22 440 440 0 true 208 ⟨some [.str 1 65, mI 77, mM, mU 4, mU 0, .str 5 245773187411, mI 4, mI 0, .bool true, .bool false, .bool false, .bool false, .bool false, mI 4, mI 0, mI 1, mI 1, mM, mM, mM, mM, .nils], (m3 (mN (mN (mN (T4.e 0) (mL [.str 1 66, mI 77, mM, mU 4, mU 1, .str 5 245773187411, mI 4, mI 0, .bool true, .bool false, .bool false, .bool false, .bool false, mI 3, mI 4, mI 1, mI 1, mM, mM, mM, mM, .nils]) (mL [.str 1 67, mI 77, mM, mU 4, mU 0, .str 6 62918422509881, mI 5, mI 2, .bool false, .bool false, .bool false, .bool false, .bool false, mI 5, mI 7, mI 1, mI 1, mM, mM, mM, mM, .nils]) (mL [.str 1 68, mI 77, mM, mU 4, mU 2, .str 7 16106991608478035, mI 6, mI 0, .bool true, .bool false, .bool false, .bool false, .bool false, mI 4, mI 12, mI 1, mI 1, mM, mM, mM, mM, .nils])) (mN (mL [.str 1 69, mI 77, mM, mU 5, mU 0, .str 6 62917751429722, mI 5, mI 2, .bool false, .bool false, .bool false, .bool false, .bool false, mI 6, mI 16, mI 1, mI 1, mM, mM, mM, mM, .nils]) (mL [.str 1 84, mI 77, mM, mU 2, mU 0, .str 8 6365935209750747224, mI 0, mI 0, .bool false, .bool false, .bool false, .bool false, .bool false, mI 8, mI 22, mI 1, mI 1, mM, mM, mM, mM, .nils]) (mL [.str 1 85, mI 77, mM, mU 2, mU 0, .str 3 5789784, mI 0, mI 0, .bool false, .bool false, .bool false, .bool true, .bool false, mI 3, mI 30, mI 1, mI 1, mM, mM, mM, mM, .nils]) (mL [.str 1 71, mI 1, mM, mU 0, mU 0, mS0, mI 0, mI 0, .bool false, .bool false, .bool false, .bool false, .bool false, mI 5, mI 33, mI 1, mI 1, mM, mM, mM, mM, .nils])) (mN (mL [.str 2 16711, mI 2, mI 7, mU 4, mU 0, .str 2 14649, mI 2, mI 0, .bool false, .bool false, .bool false, .bool false, .bool false, mI 2, mI 33, mI 1, mI 1, mM, mM, mM, mM, .nils]) (mL [.str 2 16967, mI 2, mI 7, mU 2, mU 0, .str 3 5789784, mI 0, mI 0, .bool false, .bool false, .bool false, .bool false, .bool false, mI 3, mI 35, mI 1, mI 1, mM, mM, mM, mM, .nils]) (mL [.str 1 72, mI 1, mM, mU 0, mU 0, mS0, mI 0, mI 0, .bool false, .bool false, .bool false, .bool false, .bool false, mI 5, mI 38, mI 1, mI 1, mM, mM, mM, mM, .nils]) (mL [.str 2 16711, mI 2, mI 10, mU 4, mU 0, .str 4 960051539, mI 3, mI 0, .bool true, .bool false, .bool false, .bool false, .bool false, mI 3, mI 38, mI 1, mI 1, mM, mM, mM, mM, .nils])) (mN (mL [.str 2 16967, mI 2, mI 10, mU 2, mU 0, .str 2 22616, mI 0, mI 0, .bool false, .bool false, .bool false, .bool false, .bool false, mI 2, mI 41, mI 1, mI 1, mM, mM, mM, mM, .nils]) (mL [.str 3 4342100, mI 1, mM, mU 0, mU 0, mS0, mI 0, mI 0, .bool false, .bool false, .bool false, .bool false, .bool false, mI 8, mI 43, mI 1, mI 1, mM, mM, mM, mM, .nils]) (mL [.str 1 78, mI 2, mI 13, mU 4, mU 0, .str 2 14649, mI 2, mI 0, .bool false, .bool false, .bool false, .bool false, .bool false, mI 2, mI 43, mI 4, mI 4, mM, mM, mM, mM, .nils]) (mL [.str 1 73, mI 77, mM, mU 4, mU 0, .str 3 3750201, mI 3, mI 0, .bool false, .bool false, .bool false, .bool false, .bool false, mI 3, mI 51, mI 1, mI 1, mM, mM, mM, mM, .nils]))) (mN (mN (mL [.str 1 75, mI 77, mM, mU 2, mU 0, .str 1 88, mI 0, mI 0, .bool false, .bool false, .bool false, .bool false, .bool false, mI 1, mI 54, mI 1, mI 1, mM, mM, mM, mM, .nils]) (mL [.str 4 1146048327, mI 88, mI 16, mU 2, mU 0, .str 1 88, mI 0, mI 0, .bool false, .bool false, .bool false, .bool false, .bool false, mI 1, mI 54, mI 1, mI 1, mM, mM, mM, mM, .sl 10241 5 0 1 1 true]) (mL [.str 5 383532548421, mI 88, mI 16, mU 2, mU 0, .str 1 88, mI 0, mI 0, .bool false, .bool false, .bool false, .bool false, .bool false, mI 1, mI 54, mI 1, mI 1, mM, mM, mM, mM, .sl 10242 15 0 3 3 true]) (mL [.str 1 90, mI 77, mM, mU 4, mU 0, .str 2 14649, mI 2, mI 0, .bool false, .bool false, .bool false, .bool false, .bool false, mI 2, mI 55, mI 1, mI 1, mM, mM, mM, mM, .nils])) (T4.e 1) (T4.e 1) (T4.e 1)) (T4.e 2) (T4.e 2)))⟩)) (mL (.cells 5 5 0 0 true 41 (mR [mU 3, .str 1 89, mI 0, mI 0, .bool false]))) (mL (.cells 5 15 0 0 true 41 ⟨some [mU 3, .str 1 65, mI 0, mI 0, .bool false], (m1 (mN (T4.e 0) (mL [mU 1, .str 4 1431455828, mI 0, mI 0, .bool false]) (mL [mU 3, .str 1 70, mI 0, mI 0, .bool false]) (T4.e 0)))⟩)) (T4.e 0)) (T4.e 1) (T4.e 1) (T4.e 1)) (T4.e 2) (T4.e 2) (T4.e 2)) (T4.e 3) (T4.e 3) (T4.e 3)) (T4.e 4) (T4.e 4) (T4.e 4))
  refs := []
noncomputable def run4_lay : Bool := mkTblZ Tryz.prog [] (660, 420) 104 fnsB tab3 (fun t => runF t 60 54 lay.args (lay.h0 gls 16) (memoK2 lay 16) (fun _ _ => false))
noncomputable def tab4 : T4 FnD TD := T4.set TD 54 (memoD2 lay 16 (failD)) tab3
noncomputable def ou0 : Memo2 where
  args := [mU 0, .agg [mU 17, mU 91], mU 0]
  ins := []
  src := []
  c := 0
  n := 0
  tot := 0
  res := .bool true
  out := (T4.e 5)
  sub := (T4.e 5)
  refs := []
noncomputable def ou1 : Memo2 where
  args := [mU 1, .agg [mU 154, mU 222], mU 0]
  ins := []
  src := []
  c := 0
  n := 0
  tot := 0
  res := .bool true
  out := (T4.e 5)
  sub := (T4.e 5)
  refs := []
noncomputable def ou2 : Memo2 where
  args := [mU 2, .agg [mU 50, mU 187], mU 0]
  ins := []
  src := []
  c := 0
  n := 0
  tot := 0
  res := .bool true
  out := (T4.e 5)
  sub := (T4.e 5)
  refs := []
noncomputable def ou3 : Memo2 where
  args := [mU 3, .agg [mU 151, mU 221], mU 0]
  ins := []
  src := []
  c := 0
  n := 0
  tot := 0
  res := .bool true
  out := (T4.e 5)
  sub := (T4.e 5)
  refs := []
noncomputable def ou4 : Memo2 where
  args := [mU 4, .agg [mU 118, mU 124], mU 1]
  ins := []
  src := []
  c := 0
  n := 0
  tot := 0
  res := .bool true
  out := (T4.e 5)
  sub := (T4.e 5)
  refs := []
noncomputable def ou5 : Memo2 where
  args := [mU 5, .agg [mU 66, mU 107], mU 1]
  ins := []
  src := []
  c := 0
  n := 0
  tot := 0
  res := .bool true
  out := (T4.e 5)
  sub := (T4.e 5)
  refs := []
noncomputable def ou6 : Memo2 where
  args := [mU 6, .agg [mU 163, mU 139], mU 1]
  ins := []
  src := []
  c := 0
  n := 0
  tot := 0
  res := .bool true
  out := (T4.e 5)
  sub := (T4.e 5)
  refs := []
noncomputable def ou7 : Memo2 where
  args := [mU 7, .agg [mU 93, mU 31], mU 1]
  ins := []
  src := []
  c := 0
  n := 0
  tot := 0
  res := .bool true
  out := (T4.e 5)
  sub := (T4.e 5)
  refs := []
noncomputable def ou8 : Memo2 where
  args := [mU 8, .agg [mU 42, mU 184], mU 2]
  ins := []
  src := []
  c := 0
  n := 0
  tot := 0
  res := .bool true
  out := (T4.e 5)
  sub := (T4.e 5)
  refs := []
noncomputable def ou9 : Memo2 where
  args := [mU 9, .agg [mU 181, mU 145], mU 2]
  ins := []
  src := []
  c := 0
  n := 0
  tot := 0
  res := .bool true
  out := (T4.e 5)
  sub := (T4.e 5)
  refs := []
noncomputable def ou10 : Memo2 where
  args := [mU 10, .agg [mU 50, mU 187], mU 2]
  ins := []
  src := []
  c := 0
  n := 0
  tot := 0
  res := .bool true
  out := (T4.e 5)
  sub := (T4.e 5)
  refs := []
noncomputable def ou11 : Memo2 where
  args := [mU 11, .agg [mU 71, mU 194], mU 2]
  ins := []
  src := []
  c := 0
  n := 0
  tot := 0
  res := .bool true
  out := (T4.e 5)
  sub := (T4.e 5)
  refs := []
noncomputable def ou12 : Memo2 where
  args := [mU 12, .agg [mU 65, mU 192], mU 3]
  ins := []
  src := []
  c := 0
  n := 0
  tot := 0
  res := .bool true
  out := (T4.e 5)
  sub := (T4.e 5)
  refs := []
noncomputable def ou13 : Memo2 where
  args := [mU 13, .agg [mU 117, mU 39], mU 3]
  ins := []
  src := []
  c := 0
  n := 0
  tot := 0
  res := .bool true
  out := (T4.e 5)
  sub := (T4.e 5)
  refs := []
noncomputable def ou14 : Memo2 where
  args := [mU 14, .agg [mU 49, mU 16], mU 3]
  ins := []
  src := []
  c := 0
  n := 0
  tot := 0
  res := .bool true
  out := (T4.e 5)
  sub := (T4.e 5)
  refs := []
noncomputable def ou15 : Memo2 where
  args := [mU 15, .agg [mU 81, mU 197], mU 3]
  ins := []
  src := []
  c := 0
  n := 0
  tot := 0
  res := .bool true
  out := (T4.e 5)
  sub := (T4.e 5)
  refs := []
noncomputable def ou16 : Memo2 where
  args := [mU 16, .agg [mU 105, mU 120], mU 4]
  ins := []
  src := []
  c := 0
  n := 0
  tot := 0
  res := .bool true
  out := (T4.e 5)
  sub := (T4.e 5)
  refs := []
noncomputable def ou17 : Memo2 where
  args := [mU 17, .agg [mU 221, mU 159], mU 4]
  ins := []
  src := []
  c := 0
  n := 0
  tot := 0
  res := .bool true
  out := (T4.e 5)
  sub := (T4.e 5)
  refs := []
noncomputable def ou18 : Memo2 where
  args := [mU 18, .agg [mU 45, mU 185], mU 4]
  ins := []
  src := []
  c := 0
  n := 0
  tot := 0
  res := .bool true
  out := (T4.e 5)
  sub := (T4.e 5)
  refs := []
noncomputable def ou19 : Memo2 where
  args := [mU 19, .agg [mU 26, mU 94], mU 4]
  ins := []
  src := []
  c := 0
  n := 0
  tot := 0
  res := .bool true
  out := (T4.e 5)
  sub := (T4.e 5)
  refs := []
noncomputable def ou20 : Memo2 where
  args := [mU 20, .agg [mU 181, mU 60], mU 5]
  ins := []
  src := []
  c := 0
  n := 0
  tot := 0
  res := .bool true
  out := (T4.e 5)
  sub := (T4.e 5)
  refs := []
noncomputable def ou21 : Memo2 where
  args := [mU 21, .agg [mU 193, mU 64], mU 5]
  ins := []
  src := []
  c := 0
  n := 0
  tot := 0
  res := .bool true
  out := (T4.e 5)
  sub := (T4.e 5)
  refs := []
noncomputable def ou22 : Memo2 where
  args := [mU 22, .agg [mU 13, mU 175], mU 5]
  ins := []
  src := []
  c := 0
  n := 0
  tot := 0
  res := .bool true
  out := (T4.e 5)
  sub := (T4.e 5)
  refs := []
noncomputable def ou23 : Memo2 where
  args := [mU 23, .agg [mU 117, mU 39], mU 5]
  ins := []
  src := []
  c := 0
  n := 0
  tot := 0
  res := .bool true
  out := (T4.e 5)
  sub := (T4.e 5)
  refs := []
noncomputable def ou24 : Memo2 where
  args := [mU 24, .agg [mU 177, mU 229], mU 6]
  ins := []
  src := []
  c := 0
  n := 0
  tot := 0
  res := .bool true
  out := (T4.e 5)
  sub := (T4.e 5)
  refs := []
noncomputable def ou25 : Memo2 where
  args := [mU 25, .agg [mU 1, mU 85], mU 6]
  ins := []
  src := []
  c := 0
  n := 0
  tot := 0
  res := .bool true
  out := (T4.e 5)
  sub := (T4.e 5)
  refs := []
noncomputable def ou26 : Memo2 where
  args := [mU 26, .agg [mU 66, mU 22], mU 6]
  ins := []
  src := []
  c := 0
  n := 0
  tot := 0
  res := .bool true
  out := (T4.e 5)
  sub := (T4.e 5)
  refs := []
noncomputable def ou27 : Memo2 where
  args := [mU 27, .agg [mU 166, mU 55], mU 6]
  ins := []
  src := []
  c := 0
  n := 0
  tot := 0
  res := .bool true
  out := (T4.e 5)
  sub := (T4.e 5)
  refs := []
noncomputable def ou28 : Memo2 where
  args := [mU 28, .agg [mU 241, mU 251], mU 7]
  ins := []
  src := []
  c := 0
  n := 0
  tot := 0
  res := .bool true
  out := (T4.e 5)
  sub := (T4.e 5)
  refs := []
noncomputable def ou29 : Memo2 where
  args := [mU 29, .agg [mU 234, mU 78], mU 7]
  ins := []
  src := []
  c := 0
  n := 0
  tot := 0
  res := .bool true
  out := (T4.e 5)
  sub := (T4.e 5)
  refs := []
noncomputable def run5_g0 : Bool := rk0 fnsO tab4 6 ou0
noncomputable def run5_g1 : Bool := rk0 fnsO tab4 6 ou1
noncomputable def run5_g2 : Bool := rk0 fnsO tab4 6 ou2
noncomputable def run5_g3 : Bool := rk0 fnsO tab4 6 ou3
noncomputable def run5_g4 : Bool := rk0 fnsO tab4 6 ou4
noncomputable def run5_g5 : Bool := rk0 fnsO tab4 6 ou5
noncomputable def run5_g6 : Bool := rk0 fnsO tab4 6 ou6
noncomputable def run5_g7 : Bool := rk0 fnsO tab4 6 ou7
noncomputable def run5_g8 : Bool := rk0 fnsO tab4 6 ou8
noncomputable def run5_g9 : Bool := rk0 fnsO tab4 6 ou9
noncomputable def run5_g10 : Bool := rk0 fnsO tab4 6 ou10
noncomputable def run5_g11 : Bool := rk0 fnsO tab4 6 ou11
noncomputable def run5_g12 : Bool := rk0 fnsO tab4 6 ou12
noncomputable def run5_g13 : Bool := rk0 fnsO tab4 6 ou13
noncomputable def run5_g14 : Bool := rk0 fnsO tab4 6 ou14
noncomputable def run5_g15 : Bool := rk0 fnsO tab4 6 ou15
noncomputable def run5_g16 : Bool := rk0 fnsO tab4 6 ou16
noncomputable def run5_g17 : Bool := rk0 fnsO tab4 6 ou17
noncomputable def run5_g18 : Bool := rk0 fnsO tab4 6 ou18
noncomputable def run5_g19 : Bool := rk0 fnsO tab4 6 ou19
noncomputable def run5_g20 : Bool := rk0 fnsO tab4 6 ou20
noncomputable def run5_g21 : Bool := rk0 fnsO tab4 6 ou21
noncomputable def run5_g22 : Bool := rk0 fnsO tab4 6 ou22
noncomputable def run5_g23 : Bool := rk0 fnsO tab4 6 ou23
noncomputable def run5_g24 : Bool := rk0 fnsO tab4 6 ou24
noncomputable def run5_g25 : Bool := rk0 fnsO tab4 6 ou25
noncomputable def run5_g26 : Bool := rk0 fnsO tab4 6 ou26
noncomputable def run5_g27 : Bool := rk0 fnsO tab4 6 ou27
noncomputable def run5_g28 : Bool := rk0 fnsO tab4 6 ou28
noncomputable def run5_g29 : Bool := rk0 fnsO tab4 6 ou29
noncomputable def tab5 : T4 FnD TD := T4.set TD 6 (memoD0 ou0 16 (memoD0 ou1 16 (memoD0 ou2 16 (memoD0 ou3 16 (memoD0 ou4 16 (memoD0 ou5 16 (memoD0 ou6 16 (memoD0 ou7 16 (memoD0 ou8 16 (memoD0 ou9 16 (memoD0 ou10 16 (memoD0 ou11 16 (memoD0 ou12 16 (memoD0 ou13 16 (memoD0 ou14 16 (memoD0 ou15 16 (memoD0 ou16 16 (memoD0 ou17 16 (memoD0 ou18 16 (memoD0 ou19 16 (memoD0 ou20 16 (memoD0 ou21 16 (memoD0 ou22 16 (memoD0 ou23 16 (memoD0 ou24 16 (memoD0 ou25 16 (memoD0 ou26 16 (memoD0 ou27 16 (memoD0 ou28 16 (memoD0 ou29 16 (failD))))))))))))))))))))))))))))))) tab4
noncomputable def mac : Memo2 where
  args := [.agg [.sl 16 440 0 20 20 true, mI 57], .nils, .nili]
  ins := [some (.cells 22 440 440 0 true 208 ⟨some [.str 1 65, mI 77, mM, mU 4, mU 0, .str 5 245773187411, mI 4, mI 0, .bool true, .bool false, .bool false, .bool false, .bool false, mI 4, mI 0, mI 1, mI 1, mM, mM, mM, mM, .nils], (m3 (mN (mN (mN (T4.e 0) (mL [.str 1 66, mI 77, mM, mU 4, mU 1, .str 5 245773187411, mI 4, mI 0, .bool true, .bool false, .bool false, .bool false, .bool false, mI 3, mI 4, mI 1, mI 1, mM, mM, mM, mM, .nils]) (mL [.str 1 67, mI 77, mM, mU 4, mU 0, .str 6 62918422509881, mI 5, mI 2, .bool false, .bool false, .bool false, .bool false, .bool false, mI 5, mI 7, mI 1, mI 1, mM, mM, mM, mM, .nils]) (mL [.str 1 68, mI 77, mM, mU 4, mU 2, .str 7 16106991608478035, mI 6, mI 0, .bool true, .bool false, .bool false, .bool false, .bool false, mI 4, mI 12, mI 1, mI 1, mM, mM, mM, mM, .nils])) (mN (mL [.str 1 69, mI 77, mM, mU 5, mU 0, .str 6 62917751429722, mI 5, mI 2, .bool false, .bool false, .bool false, .bool false, .bool false, mI 6, mI 16, mI 1, mI 1, mM, mM, mM, mM, .nils]) (mL [.str 1 84, mI 77, mM, mU 2, mU 0, .str 8 6365935209750747224, mI 0, mI 0, .bool false, .bool false, .bool false, .bool false, .bool false, mI 8, mI 22, mI 1, mI 1, mM, mM, mM, mM, .nils]) (mL [.str 1 85, mI 77, mM, mU 2, mU 0, .str 3 5789784, mI 0, mI 0, .bool false, .bool false, .bool false, .bool true, .bool false, mI 3, mI 30, mI 1, mI 1, mM, mM, mM, mM, .nils]) (mL [.str 1 71, mI 1, mM, mU 0, mU 0, mS0, mI 0, mI 0, .bool false, .bool false, .bool false, .bool false, .bool false, mI 5, mI 33, mI 1, mI 1, mM, mM, mM, mM, .nils])) (mN (mL [.str 2 16711, mI 2, mI 7, mU 4, mU 0, .str 2 14649, mI 2, mI 0, .bool false, .bool false, .bool false, .bool false, .bool false, mI 2, mI 33, mI 1, mI 1, mM, mM, mM, mM, .nils]) (mL [.str 2 16967, mI 2, mI 7, mU 2, mU 0, .str 3 5789784, mI 0, mI 0, .bool false, .bool false, .bool false, .bool false, .bool false, mI 3, mI 35, mI 1, mI 1, mM, mM, mM, mM, .nils]) (mL [.str 1 72, mI 1, mM, mU 0, mU 0, mS0, mI 0, mI 0, .bool false, .bool false, .bool false, .bool false, .bool false, mI 5, mI 38, mI 1, mI 1, mM, mM, mM, mM, .nils]) (mL [.str 2 16711, mI 2, mI 10, mU 4, mU 0, .str 4 960051539, mI 3, mI 0, .bool true, .bool false, .bool false, .bool false, .bool false, mI 3, mI 38, mI 1, mI 1, mM, mM, mM, mM, .nils])) (mN (mL [.str 2 16967, mI 2, mI 10, mU 2, mU 0, .str 2 22616, mI 0, mI 0, .bool false, .bool false, .bool false, .bool false, .bool false, mI 2, mI 41, mI 1, mI 1, mM, mM, mM, mM, .nils]) (mL [.str 3 4342100, mI 1, mM, mU 0, mU 0, mS0, mI 0, mI 0, .bool false, .bool false, .bool false, .bool false, .bool false, mI 8, mI 43, mI 1, mI 1, mM, mM, mM, mM, .nils]) (mL [.str 1 78, mI 2, mI 13, mU 4, mU 0, .str 2 14649, mI 2, mI 0, .bool false, .bool false, .bool false, .bool false, .bool false, mI 2, mI 43, mI 4, mI 4, mM, mM, mM, mM, .nils]) (mL [.str 1 73, mI 77, mM, mU 4, mU 0, .str 3 3750201, mI 3, mI 0, .bool false, .bool false, .bool false, .bool false, .bool false, mI 3, mI 51, mI 1, mI 1, mM, mM, mM, mM, .nils]))) (mN (mN (mL [.str 1 75, mI 77, mM, mU 2, mU 0, .str 1 88, mI 0, mI 0, .bool false, .bool false, .bool false, .bool false, .bool false, mI 1, mI 54, mI 1, mI 1, mM, mM, mM, mM, .nils]) (mL [.str 4 1146048327, mI 88, mI 16, mU 2, mU 0, .str 1 88, mI 0, mI 0, .bool false, .bool false, .bool false, .bool false, .bool false, mI 1, mI 54, mI 1, mI 1, mM, mM, mM, mM, .sl 17 5 0 1 1 true]) (mL [.str 5 383532548421, mI 88, mI 16, mU 2, mU 0, .str 1 88, mI 0, mI 0, .bool false, .bool false, .bool false, .bool false, .bool false, mI 1, mI 54, mI 1, mI 1, mM, mM, mM, mM, .sl 18 15 0 3 3 true]) (mL [.str 1 90, mI 77, mM, mU 4, mU 0, .str 2 14649, mI 2, mI 0, .bool false, .bool false, .bool false, .bool false, .bool false, mI 2, mI 55, mI 1, mI 1, mM, mM, mM, mM, .nils])) (T4.e 1) (T4.e 1) (T4.e 1)) (T4.e 2) (T4.e 2)))⟩), some (.cells 5 5 0 0 true 41 (mR [mU 3, .str 1 89, mI 0, mI 0, .bool false])), some (.cells 5 15 0 0 true 41 ⟨some [mU 3, .str 1 65, mI 0, mI 0, .bool false], (m1 (mN (T4.e 0) (mL [mU 1, .str 4 1431455828, mI 0, mI 0, .bool false]) (mL [mU 3, .str 1 70, mI 0, mI 0, .bool false]) (T4.e 0)))⟩)]
  src := [(0, 0), (1, 395), (1, 417)]
  c := 32
  n := 2
  tot := 867
  res := .tup [.ptr 32769 7 0, mI 0]
  out := (mN (mN (mN (mN (mN (mL 458) (mL 866) (T4.e 0) (T4.e 0)) (T4.e 1) (T4.e 1) (T4.e 1)) (T4.e 2) (T4.e 2) (T4.e 2)) (T4.e 3) (T4.e 3) (T4.e 3)) (T4.e 4) (T4.e 4) (T4.e 4))
  sub := (mN (mN (mN (mN (mN (mL (.cells 1 57 57 0 false 5 ⟨some [mU 48], (m3 (mN (mN (mN (T4.e 0) (mL [mU 48]) (mL [mU 48]) (mL [mU 123])) (mN (mL [mU 0]) (mL [mU 0]) (mL [mU 12]) (mL [mU 48])) (mN (mL [mU 48]) (mL [mU 48]) (mL [mU 48]) (mL [mU 48])) (mN (mL [mU 0]) (mL [mU 0]) (mL [mU 0]) (mL [mU 0]))) (mN (mN (mL [mU 32]) (mL [mU 32]) (mL [mU 32]) (mL [mU 32])) (mN (mL [mU 32]) (mL [mU 32]) (mL [mU 32]) (mL [mU 32])) (mN (mL [mU 32]) (mL [mU 32]) (mL [mU 32]) (mL [mU 32])) (mN (mL [mU 32]) (mL [mU 32]) (mL [mU 32]) (mL [mU 32]))) (mN (mN (mL [mU 32]) (mL [mU 48]) (mL [mU 48]) (mL [mU 32])) (mN (mL [mU 32]) (mL [mU 32]) (mL [mU 48]) (mL [mU 48])) (mN (mL [mU 123]) (mL [mU 32]) (mL [mU 32]) (mL [mU 48])) (mN (mL [mU 48]) (mL [mU 48]) (mL [mU 48]) (mL [mU 48]))) (mN (mN (mL [mU 48]) (mL [mU 48]) (mL [mU 48]) (mL [mU 48])) (mN (mL [mU 48]) (mL [mU 48]) (mL [mU 32]) (mL [mU 48])) (mN (mL [mU 48]) (T4.e 0) (T4.e 0) (T4.e 0)) (T4.e 1))))⟩)) (mL (.cells 7 7 0 0 false 158 (mR [.sl 10240 440 0 20 20 true, mI 57, .sl 32768 57 0 57 57 true, .nils, .nils, .nili, .bool false]))) (T4.e 0) (T4.e 0)) (T4.e 1) (T4.e 1) (T4.e 1)) (T4.e 2) (T4.e 2) (T4.e 2)) (T4.e 3) (T4.e 3) (T4.e 3)) (T4.e 4) (T4.e 4) (T4.e 4))
  refs := [(10240, 0)]
noncomputable def run6_mac : Bool := mkTblZ Tryz.prog [] (660, 420) 104 fnsM tab5 (fun t => runF t 60 29 mac.args (mac.h0 gls 16) (memoK2 mac 16) (fun _ _ => false))
noncomputable def tab6 : T4 FnD TD := T4.set TD 29 (memoD2 mac 16 (failD)) tab5
noncomputable def lp0 : Memo2 where
  args := [.agg [mU 17, mU 91, mU 157, mU 75, mU 94, mU 158, .bool true, .bool true, .bool true]]
  ins := []
  src := []
  c := 0
  n := 0
  tot := 0
  res := .bool true
  out := (T4.e 5)
  sub := (T4.e 5)
  refs := []
noncomputable def lp1 : Memo2 where
  args := [.agg [mU 154, mU 222, mU 235, mU 131, mU 107, mU 149, .bool false, .bool false, .bool true]]
  ins := []
  src := []
  c := 0
  n := 0
  tot := 0
  res := .bool true
  out := (T4.e 5)
  sub := (T4.e 5)
  refs := []
noncomputable def lp2 : Memo2 where
  args := [.agg [mU 50, mU 187, mU 214, mU 116, mU 120, mU 181, .bool true, .bool false, .bool false]]
  ins := []
  src := []
  c := 0
  n := 0
  tot := 0
  res := .bool true
  out := (T4.e 5)
  sub := (T4.e 5)
  refs := []
noncomputable def lp3 : Memo2 where
  args := [.agg [mU 151, mU 221, mU 132, mU 241, mU 176, mU 208, .bool false, .bool true, .bool false]]
  ins := []
  src := []
  c := 0
  n := 0
  tot := 0
  res := .bool true
  out := (T4.e 5)
  sub := (T4.e 5)
  refs := []
noncomputable def lp4 : Memo2 where
  args := [.agg [mU 118, mU 124, mU 228, mU 126, mU 34, mU 87, .bool true, .bool false, .bool false]]
  ins := []
  src := []
  c := 0
  n := 0
  tot := 0
  res := .bool true
  out := (T4.e 5)
  sub := (T4.e 5)
  refs := []
noncomputable def lp5 : Memo2 where
  args := [.agg [mU 66, mU 107, mU 166, mU 119, mU 192, mU 202, .bool false, .bool false, .bool true]]
  ins := []
  src := []
  c := 0
  n := 0
  tot := 0
  res := .bool true
  out := (T4.e 5)
  sub := (T4.e 5)
  refs := []
noncomputable def lp6 : Memo2 where
  args := [.agg [mU 163, mU 139, mU 237, mU 206, mU 84, mU 150, .bool true, .bool true, .bool true]]
  ins := []
  src := []
  c := 0
  n := 0
  tot := 0
  res := .bool true
  out := (T4.e 5)
  sub := (T4.e 5)
  refs := []
noncomputable def lp7 : Memo2 where
  args := [.agg [mU 93, mU 31, mU 172, mU 196, mU 8, mU 145, .bool false, .bool false, .bool false]]
  ins := []
  src := []
  c := 0
  n := 0
  tot := 0
  res := .bool true
  out := (T4.e 5)
  sub := (T4.e 5)
  refs := []
noncomputable def lp8 : Memo2 where
  args := [.agg [mU 42, mU 184, mU 162, mU 188, mU 50, mU 62, .bool true, .bool false, .bool false]]
  ins := []
  src := []
  c := 0
  n := 0
  tot := 0
  res := .bool true
  out := (T4.e 5)
  sub := (T4.e 5)
  refs := []
noncomputable def lp9 : Memo2 where
  args := [.agg [mU 181, mU 145, mU 138, mU 25, mU 63, mU 171, .bool false, .bool true, .bool false]]
  ins := []
  src := []
  c := 0
  n := 0
  tot := 0
  res := .bool true
  out := (T4.e 5)
  sub := (T4.e 5)
  refs := []
noncomputable def lp10 : Memo2 where
  args := [.agg [mU 50, mU 187, mU 214, mU 116, mU 237, mU 161, .bool true, .bool false, .bool true]]
  ins := []
  src := []
  c := 0
  n := 0
  tot := 0
  res := .bool true
  out := (T4.e 5)
  sub := (T4.e 5)
  refs := []
noncomputable def lp11 : Memo2 where
  args := [.agg [mU 71, mU 194, mU 65, mU 156, mU 29, mU 5, .bool false, .bool false, .bool true]]
  ins := []
  src := []
  c := 0
  n := 0
  tot := 0
  res := .bool true
  out := (T4.e 5)
  sub := (T4.e 5)
  refs := []
noncomputable def lp12 : Memo2 where
  args := [.agg [mU 65, mU 192, mU 166, mU 228, mU 168, mU 142, .bool true, .bool true, .bool false]]
  ins := []
  src := []
  c := 0
  n := 0
  tot := 0
  res := .bool true
  out := (T4.e 5)
  sub := (T4.e 5)
  refs := []
noncomputable def lp13 : Memo2 where
  args := [.agg [mU 117, mU 39, mU 74, mU 16, mU 150, mU 225, .bool false, .bool false, .bool false]]
  ins := []
  src := []
  c := 0
  n := 0
  tot := 0
  res := .bool true
  out := (T4.e 5)
  sub := (T4.e 5)
  refs := []
noncomputable def lp14 : Memo2 where
  args := [.agg [mU 49, mU 16, mU 163, mU 80, mU 4, mU 62, .bool true, .bool false, .bool false]]
  ins := []
  src := []
  c := 0
  n := 0
  tot := 0
  res := .bool true
  out := (T4.e 5)
  sub := (T4.e 5)
  refs := []
noncomputable def lp15 : Memo2 where
  args := [.agg [mU 81, mU 197, mU 169, mU 48, mU 216, mU 203, .bool false, .bool true, .bool true]]
  ins := []
  src := []
  c := 0
  n := 0
  tot := 0
  res := .bool true
  out := (T4.e 5)
  sub := (T4.e 5)
  refs := []
noncomputable def lp16 : Memo2 where
  args := [.agg [mU 105, mU 120, mU 21, mU 51, mU 79, mU 165, .bool true, .bool false, .bool true]]
  ins := []
  src := []
  c := 0
  n := 0
  tot := 0
  res := .bool true
  out := (T4.e 5)
  sub := (T4.e 5)
  refs := []
noncomputable def lp17 : Memo2 where
  args := [.agg [mU 221, mU 159, mU 249, mU 214, mU 113, mU 194, .bool false, .bool false, .bool false]]
  ins := []
  src := []
  c := 0
  n := 0
  tot := 0
  res := .bool true
  out := (T4.e 5)
  sub := (T4.e 5)
  refs := []
noncomputable def lp18 : Memo2 where
  args := [.agg [mU 45, mU 185, mU 162, mU 6, mU 120, mU 161, .bool true, .bool true, .bool false]]
  ins := []
  src := []
  c := 0
  n := 0
  tot := 0
  res := .bool true
  out := (T4.e 5)
  sub := (T4.e 5)
  refs := []
noncomputable def lp19 : Memo2 where
  args := [.agg [mU 26, mU 94, mU 107, mU 113, mU 95, mU 61, .bool false, .bool false, .bool false]]
  ins := []
  src := []
  c := 0
  n := 0
  tot := 0
  res := .bool true
  out := (T4.e 5)
  sub := (T4.e 5)
  refs := []
noncomputable def lp20 : Memo2 where
  args := [.agg [mU 181, mU 60, mU 87, mU 62, mU 249, mU 13, .bool true, .bool false, .bool true]]
  ins := []
  src := []
  c := 0
  n := 0
  tot := 0
  res := .bool true
  out := (T4.e 5)
  sub := (T4.e 5)
  refs := []
noncomputable def lp21 : Memo2 where
  args := [.agg [mU 193, mU 64, mU 243, mU 100, mU 110, mU 211, .bool false, .bool true, .bool true]]
  ins := []
  src := []
  c := 0
  n := 0
  tot := 0
  res := .bool true
  out := (T4.e 5)
  sub := (T4.e 5)
  refs := []
noncomputable def lp22 : Memo2 where
  args := [.agg [mU 13, mU 175, mU 105, mU 184, mU 233, mU 217, .bool true, .bool false, .bool false]]
  ins := []
  src := []
  c := 0
  n := 0
  tot := 0
  res := .bool true
  out := (T4.e 5)
  sub := (T4.e 5)
  refs := []
noncomputable def lp23 : Memo2 where
  args := [.agg [mU 117, mU 39, mU 228, mU 53, mU 150, mU 186, .bool false, .bool false, .bool false]]
  ins := []
  src := []
  c := 0
  n := 0
  tot := 0
  res := .bool true
  out := (T4.e 5)
  sub := (T4.e 5)
  refs := []
noncomputable def lp24 : Memo2 where
  args := [.agg [mU 177, mU 229, mU 240, mU 25, mU 225, mU 53, .bool true, .bool true, .bool false]]
  ins := []
  src := []
  c := 0
  n := 0
  tot := 0
  res := .bool true
  out := (T4.e 5)
  sub := (T4.e 5)
  refs := []
noncomputable def lp25 : Memo2 where
  args := [.agg [mU 1, mU 85, mU 205, mU 36, mU 116, mU 39, .bool false, .bool false, .bool true]]
  ins := []
  src := []
  c := 0
  n := 0
  tot := 0
  res := .bool true
  out := (T4.e 5)
  sub := (T4.e 5)
  refs := []
noncomputable def lp26 : Memo2 where
  args := [.agg [mU 66, mU 22, mU 115, mU 192, mU 52, mU 24, .bool true, .bool false, .bool true]]
  ins := []
  src := []
  c := 0
  n := 0
  tot := 0
  res := .bool true
  out := (T4.e 5)
  sub := (T4.e 5)
  refs := []
noncomputable def lp27 : Memo2 where
  args := [.agg [mU 166, mU 55, mU 33, mU 133, mU 61, mU 170, .bool false, .bool true, .bool false]]
  ins := []
  src := []
  c := 0
  n := 0
  tot := 0
  res := .bool true
  out := (T4.e 5)
  sub := (T4.e 5)
  refs := []
noncomputable def lp28 : Memo2 where
  args := [.agg [mU 241, mU 251, mU 150, mU 71, mU 115, mU 38, .bool true, .bool false, .bool false]]
  ins := []
  src := []
  c := 0
  n := 0
  tot := 0
  res := .bool true
  out := (T4.e 5)
  sub := (T4.e 5)
  refs := []
noncomputable def lp29 : Memo2 where
  args := [.agg [mU 234, mU 78, mU 46, mU 216, mU 114, mU 234, .bool false, .bool false, .bool false]]
  ins := []
  src := []
  c := 0
  n := 0
  tot := 0
  res := .bool true
  out := (T4.e 5)
  sub := (T4.e 5)
  refs := []
noncomputable def run7_g0 : Bool := rk0 fnsQ tab6 5 lp0
noncomputable def run7_g1 : Bool := rk0 fnsQ tab6 5 lp1
noncomputable def run7_g2 : Bool := rk0 fnsQ tab6 5 lp2
noncomputable def run7_g3 : Bool := rk0 fnsQ tab6 5 lp3
noncomputable def run7_g4 : Bool := rk0 fnsQ tab6 5 lp4
noncomputable def run7_g5 : Bool := rk0 fnsQ tab6 5 lp5
noncomputable def run7_g6 : Bool := rk0 fnsQ tab6 5 lp6
noncomputable def run7_g7 : Bool := rk0 fnsQ tab6 5 lp7
noncomputable def run7_g8 : Bool := rk0 fnsQ tab6 5 lp8
noncomputable def run7_g9 : Bool := rk0 fnsQ tab6 5 lp9
noncomputable def run7_g10 : Bool := rk0 fnsQ tab6 5 lp10
noncomputable def run7_g11 : Bool := rk0 fnsQ tab6 5 lp11
noncomputable def run7_g12 : Bool := rk0 fnsQ tab6 5 lp12
noncomputable def run7_g13 : Bool := rk0 fnsQ tab6 5 lp13
noncomputable def run7_g14 : Bool := rk0 fnsQ tab6 5 lp14
noncomputable def run7_g15 : Bool := rk0 fnsQ tab6 5 lp15
noncomputable def run7_g16 : Bool := rk0 fnsQ tab6 5 lp16
noncomputable def run7_g17 : Bool := rk0 fnsQ tab6 5 lp17
noncomputable def run7_g18 : Bool := rk0 fnsQ tab6 5 lp18
noncomputable def run7_g19 : Bool := rk0 fnsQ tab6 5 lp19
noncomputable def run7_g20 : Bool := rk0 fnsQ tab6 5 lp20
noncomputable def run7_g21 : Bool := rk0 fnsQ tab6 5 lp21
noncomputable def run7_g22 : Bool := rk0 fnsQ tab6 5 lp22
noncomputable def run7_g23 : Bool := rk0 fnsQ tab6 5 lp23
noncomputable def run7_g24 : Bool := rk0 fnsQ tab6 5 lp24
noncomputable def run7_g25 : Bool := rk0 fnsQ tab6 5 lp25
noncomputable def run7_g26 : Bool := rk0 fnsQ tab6 5 lp26
noncomputable def run7_g27 : Bool := rk0 fnsQ tab6 5 lp27
noncomputable def run7_g28 : Bool := rk0 fnsQ tab6 5 lp28
noncomputable def run7_g29 : Bool := rk0 fnsQ tab6 5 lp29
noncomputable def tab7 : T4 FnD TD := T4.set TD 5 (memoD0 lp0 16 (memoD0 lp1 16 (memoD0 lp2 16 (memoD0 lp3 16 (memoD0 lp4 16 (memoD0 lp5 16 (memoD0 lp6 16 (memoD0 lp7 16 (memoD0 lp8 16 (memoD0 lp9 16 (memoD0 lp10 16 (memoD0 lp11 16 (memoD0 lp12 16 (memoD0 lp13 16 (memoD0 lp14 16 (memoD0 lp15 16 (memoD0 lp16 16 (memoD0 lp17 16 (memoD0 lp18 16 (memoD0 lp19 16 (memoD0 lp20 16 (memoD0 lp21 16 (memoD0 lp22 16 (memoD0 lp23 16 (memoD0 lp24 16 (memoD0 lp25 16 (memoD0 lp26 16 (memoD0 lp27 16 (memoD0 lp28 16 (memoD0 lp29 16 (failD))))))))))))))))))))))))))))))) tab6
noncomputable def sum0 : Memo2 where
  args := [.ptr 16 7 0]
  ins := [some (.cells 7 7 7 0 false 158 (mR [.unk, .unk, .sl 17 57 0 57 57 true, .unk, .unk, .unk, .unk])), some (.cells 1 57 57 0 false 5 ⟨some [mU 48], (m3 (mN (mN (mN (T4.e 0) (mL [mU 48]) (mL [mU 48]) (mL [mU 123])) (mN (mL [mU 0]) (mL [mU 0]) (mL [mU 12]) (mL [mU 48])) (mN (mL [mU 48]) (mL [mU 48]) (mL [mU 48]) (mL [mU 48])) (mN (mL [mU 0]) (mL [mU 0]) (mL [mU 0]) (mL [mU 0]))) (mN (mN (mL [mU 32]) (mL [mU 32]) (mL [mU 32]) (mL [mU 32])) (mN (mL [mU 32]) (mL [mU 32]) (mL [mU 32]) (mL [mU 32])) (mN (mL [mU 32]) (mL [mU 32]) (mL [mU 32]) (mL [mU 32])) (mN (mL [mU 32]) (mL [mU 32]) (mL [mU 32]) (mL [mU 32]))) (mN (mN (mL [mU 32]) (mL [mU 48]) (mL [mU 48]) (mL [mU 32])) (mN (mL [mU 32]) (mL [mU 32]) (mL [mU 48]) (mL [mU 48])) (mN (mL [mU 123]) (mL [mU 32]) (mL [mU 32]) (mL [mU 48])) (mN (mL [mU 48]) (mL [mU 48]) (mL [mU 48]) (mL [mU 48]))) (mN (mN (mL [mU 48]) (mL [mU 48]) (mL [mU 48]) (mL [mU 48])) (mN (mL [mU 48]) (mL [mU 48]) (mL [mU 32]) (mL [mU 48])) (mN (mL [mU 48]) (T4.e 0) (T4.e 0) (T4.e 0)) (T4.e 1))))⟩)]
  src := [(0, 0), (1, 2)]
  c := 0
  n := 0
  tot := 0
  res := .int .u64 (.ofNat 15808027175135238841)
  out := (T4.e 5)
  sub := (T4.e 5)
  refs := []
noncomputable def sum1 : Memo2 where
  args := [.ptr 16 7 0]
  ins := [some (.cells 7 7 7 0 false 158 (mR [.unk, .unk, .sl 17 57 0 57 57 true, .unk, .unk, .unk, .unk])), some (.cells 1 57 57 0 false 5 ⟨some [mU 48], (m3 (mN (mN (mN (T4.e 0) (mL [mU 48]) (mL [mU 48]) (mL [mU 123])) (mN (mL [mU 0]) (mL [mU 0]) (mL [mU 12]) (mL [mU 48])) (mN (mL [mU 48]) (mL [mU 48]) (mL [mU 48]) (mL [mU 48])) (mN (mL [mU 0]) (mL [mU 0]) (mL [mU 0]) (mL [mU 0]))) (mN (mN (mL [mU 32]) (mL [mU 32]) (mL [mU 32]) (mL [mU 32])) (mN (mL [mU 32]) (mL [mU 32]) (mL [mU 32]) (mL [mU 32])) (mN (mL [mU 32]) (mL [mU 32]) (mL [mU 32]) (mL [mU 32])) (mN (mL [mU 32]) (mL [mU 32]) (mL [mU 32]) (mL [mU 32]))) (mN (mN (mL [mU 32]) (mL [mU 48]) (mL [mU 48]) (mL [mU 32])) (mN (mL [mU 32]) (mL [mU 32]) (mL [mU 48]) (mL [mU 48])) (mN (mL [mU 123]) (mL [mU 32]) (mL [mU 32]) (mL [mU 48])) (mN (mL [mU 48]) (mL [mU 48]) (mL [mU 48]) (mL [mU 48]))) (mN (mN (mL [mU 48]) (mL [mU 48]) (mL [mU 48]) (mL [mU 48])) (mN (mL [mU 48]) (mL [mU 48]) (mL [mU 32]) (mL [mU 48])) (mN (mL [mU 49]) (T4.e 0) (T4.e 0) (T4.e 0)) (T4.e 1))))⟩)]
  src := [(0, 0), (1, 2)]
  c := 0
  n := 0
  tot := 0
  res := .int .u64 (.ofNat 15808026075623610630)
  out := (T4.e 5)
  sub := (T4.e 5)
  refs := []
noncomputable def sum2 : Memo2 where
  args := [.ptr 16 7 0]
  ins := [some (.cells 7 7 7 0 false 158 (mR [.unk, .unk, .sl 17 57 0 57 57 true, .unk, .unk, .unk, .unk])), some (.cells 1 57 57 0 false 5 ⟨some [mU 48], (m3 (mN (mN (mN (T4.e 0) (mL [mU 48]) (mL [mU 48]) (mL [mU 123])) (mN (mL [mU 0]) (mL [mU 0]) (mL [mU 12]) (mL [mU 48])) (mN (mL [mU 48]) (mL [mU 48]) (mL [mU 48]) (mL [mU 48])) (mN (mL [mU 0]) (mL [mU 0]) (mL [mU 0]) (mL [mU 0]))) (mN (mN (mL [mU 32]) (mL [mU 32]) (mL [mU 32]) (mL [mU 32])) (mN (mL [mU 32]) (mL [mU 32]) (mL [mU 32]) (mL [mU 32])) (mN (mL [mU 32]) (mL [mU 32]) (mL [mU 32]) (mL [mU 32])) (mN (mL [mU 32]) (mL [mU 32]) (mL [mU 32]) (mL [mU 32]))) (mN (mN (mL [mU 32]) (mL [mU 48]) (mL [mU 48]) (mL [mU 32])) (mN (mL [mU 32]) (mL [mU 32]) (mL [mU 48]) (mL [mU 48])) (mN (mL [mU 123]) (mL [mU 32]) (mL [mU 32]) (mL [mU 48])) (mN (mL [mU 48]) (mL [mU 48]) (mL [mU 48]) (mL [mU 48]))) (mN (mN (mL [mU 48]) (mL [mU 48]) (mL [mU 48]) (mL [mU 48])) (mN (mL [mU 48]) (mL [mU 48]) (mL [mU 32]) (mL [mU 48])) (mN (mL [mU 50]) (T4.e 0) (T4.e 0) (T4.e 0)) (T4.e 1))))⟩)]
  src := [(0, 0), (1, 2)]
  c := 0
  n := 0
  tot := 0
  res := .int .u64 (.ofNat 15808024976111982419)
  out := (T4.e 5)
  sub := (T4.e 5)
  refs := []
noncomputable def sum3 : Memo2 where
  args := [.ptr 16 7 0]
  ins := [some (.cells 7 7 7 0 false 158 (mR [.unk, .unk, .sl 17 57 0 57 57 true, .unk, .unk, .unk, .unk])), some (.cells 1 57 57 0 false 5 ⟨some [mU 48], (m3 (mN (mN (mN (T4.e 0) (mL [mU 48]) (mL [mU 48]) (mL [mU 123])) (mN (mL [mU 0]) (mL [mU 0]) (mL [mU 12]) (mL [mU 48])) (mN (mL [mU 48]) (mL [mU 48]) (mL [mU 48]) (mL [mU 48])) (mN (mL [mU 0]) (mL [mU 0]) (mL [mU 0]) (mL [mU 0]))) (mN (mN (mL [mU 32]) (mL [mU 32]) (mL [mU 32]) (mL [mU 32])) (mN (mL [mU 32]) (mL [mU 32]) (mL [mU 32]) (mL [mU 32])) (mN (mL [mU 32]) (mL [mU 32]) (mL [mU 32]) (mL [mU 32])) (mN (mL [mU 32]) (mL [mU 32]) (mL [mU 32]) (mL [mU 32]))) (mN (mN (mL [mU 32]) (mL [mU 48]) (mL [mU 48]) (mL [mU 32])) (mN (mL [mU 32]) (mL [mU 32]) (mL [mU 48]) (mL [mU 48])) (mN (mL [mU 123]) (mL [mU 32]) (mL [mU 32]) (mL [mU 48])) (mN (mL [mU 48]) (mL [mU 48]) (mL [mU 48]) (mL [mU 48]))) (mN (mN (mL [mU 48]) (mL [mU 48]) (mL [mU 48]) (mL [mU 48])) (mN (mL [mU 48]) (mL [mU 48]) (mL [mU 32]) (mL [mU 48])) (mN (mL [mU 51]) (T4.e 0) (T4.e 0) (T4.e 0)) (T4.e 1))))⟩)]
  src := [(0, 0), (1, 2)]
  c := 0
  n := 0
  tot := 0
  res := .int .u64 (.ofNat 15808023876600354208)
  out := (T4.e 5)
  sub := (T4.e 5)
  refs := []
noncomputable def sum4 : Memo2 where
  args := [.ptr 16 7 0]
  ins := [some (.cells 7 7 7 0 false 158 (mR [.unk, .unk, .sl 17 57 0 57 57 true, .unk, .unk, .unk, .unk])), some (.cells 1 57 57 0 false 5 ⟨some [mU 48], (m3 (mN (mN (mN (T4.e 0) (mL [mU 48]) (mL [mU 48]) (mL [mU 123])) (mN (mL [mU 0]) (mL [mU 0]) (mL [mU 12]) (mL [mU 48])) (mN (mL [mU 48]) (mL [mU 48]) (mL [mU 48]) (mL [mU 48])) (mN (mL [mU 0]) (mL [mU 0]) (mL [mU 0]) (mL [mU 0]))) (mN (mN (mL [mU 32]) (mL [mU 32]) (mL [mU 32]) (mL [mU 32])) (mN (mL [mU 32]) (mL [mU 32]) (mL [mU 32]) (mL [mU 32])) (mN (mL [mU 32]) (mL [mU 32]) (mL [mU 32]) (mL [mU 32])) (mN (mL [mU 32]) (mL [mU 32]) (mL [mU 32]) (mL [mU 32]))) (mN (mN (mL [mU 32]) (mL [mU 48]) (mL [mU 48]) (mL [mU 32])) (mN (mL [mU 32]) (mL [mU 32]) (mL [mU 48]) (mL [mU 48])) (mN (mL [mU 123]) (mL [mU 32]) (mL [mU 32]) (mL [mU 48])) (mN (mL [mU 48]) (mL [mU 48]) (mL [mU 48]) (mL [mU 48]))) (mN (mN (mL [mU 48]) (mL [mU 48]) (mL [mU 48]) (mL [mU 48])) (mN (mL [mU 48]) (mL [mU 48]) (mL [mU 32]) (mL [mU 48])) (mN (mL [mU 52]) (T4.e 0) (T4.e 0) (T4.e 0)) (T4.e 1))))⟩)]
  src := [(0, 0), (1, 2)]
  c := 0
  n := 0
  tot := 0
  res := .int .u64 (.ofNat 15808031573181751685)
  out := (T4.e 5)
  sub := (T4.e 5)
  refs := []
noncomputable def sum5 : Memo2 where
  args := [.ptr 16 7 0]
  ins := [some (.cells 7 7 7 0 false 158 (mR [.unk, .unk, .sl 17 57 0 57 57 true, .unk, .unk, .unk, .unk])), some (.cells 1 57 57 0 false 5 ⟨some [mU 48], (m3 (mN (mN (mN (T4.e 0) (mL [mU 48]) (mL [mU 48]) (mL [mU 123])) (mN (mL [mU 0]) (mL [mU 0]) (mL [mU 12]) (mL [mU 48])) (mN (mL [mU 48]) (mL [mU 48]) (mL [mU 48]) (mL [mU 48])) (mN (mL [mU 0]) (mL [mU 0]) (mL [mU 0]) (mL [mU 0]))) (mN (mN (mL [mU 32]) (mL [mU 32]) (mL [mU 32]) (mL [mU 32])) (mN (mL [mU 32]) (mL [mU 32]) (mL [mU 32]) (mL [mU 32])) (mN (mL [mU 32]) (mL [mU 32]) (mL [mU 32]) (mL [mU 32])) (mN (mL [mU 32]) (mL [mU 32]) (mL [mU 32]) (mL [mU 32]))) (mN (mN (mL [mU 32]) (mL [mU 48]) (mL [mU 48]) (mL [mU 32])) (mN (mL [mU 32]) (mL [mU 32]) (mL [mU 48]) (mL [mU 48])) (mN (mL [mU 123]) (mL [mU 32]) (mL [mU 32]) (mL [mU 48])) (mN (mL [mU 48]) (mL [mU 48]) (mL [mU 48]) (mL [mU 48]))) (mN (mN (mL [mU 48]) (mL [mU 48]) (mL [mU 48]) (mL [mU 48])) (mN (mL [mU 48]) (mL [mU 48]) (mL [mU 32]) (mL [mU 48])) (mN (mL [mU 53]) (T4.e 0) (T4.e 0) (T4.e 0)) (T4.e 1))))⟩)]
  src := [(0, 0), (1, 2)]
  c := 0
  n := 0
  tot := 0
  res := .int .u64 (.ofNat 15808030473670123474)
  out := (T4.e 5)
  sub := (T4.e 5)
  refs := []
noncomputable def run8_g0 : Bool := mkTblZ Tryz.prog [] (660, 420) 104 fnsS tab7 (fun t => memoAll t 72 [sum0, sum1, sum2, sum3, sum4, sum5])
noncomputable def tab8 : T4 FnD TD := T4.set TD 72 (memoDF sum0 16 (memoDF sum1 16 (memoDF sum2 16 (memoDF sum3 16 (memoDF sum4 16 (memoDF sum5 16 (failD))))))) tab7
noncomputable def rng0 : Memo2 where
  args := [.agg [.unk, .unk, .unk, .unk, .unk, .unk, .unk, .unk, .unk, .unk, .unk, .sl 16 20 0 4 4 true], .sl 17 5 0 1 1 true]
  ins := [some (.cells 5 20 0 0 true 113 ⟨some [mS0, .str 2 12368, .unk, .unk, .unk], (m1 (mN (T4.e 0) (mL [mS0, .str 2 12624, .unk, .unk, .unk]) (mL [mS0, .str 2 12880, .unk, .unk, .unk]) (mL [mS0, .str 2 13136, .unk, .unk, .unk])))⟩), some (.cells 5 5 0 0 true 41 (mR [mU 1, .str 2 12368, .unk, .unk, .unk]))]
  src := [(0, 11), (0, 12)]
  c := 0
  n := 0
  tot := 0
  res := .tup [mI 0, mI 0, mI 0]
  out := (T4.e 5)
  sub := (T4.e 5)
  refs := []
noncomputable def rng1 : Memo2 where
  args := [.agg [.unk, .unk, .unk, .unk, .unk, .unk, .unk, .unk, .unk, .unk, .unk, .sl 16 20 0 4 4 true], .sl 17 5 0 1 1 true]
  ins := [some (.cells 5 20 0 0 true 113 ⟨some [mS0, .str 2 12368, .unk, .unk, .unk], (m1 (mN (T4.e 0) (mL [mS0, .str 2 12624, .unk, .unk, .unk]) (mL [mS0, .str 2 12880, .unk, .unk, .unk]) (mL [mS0, .str 2 13136, .unk, .unk, .unk])))⟩), some (.cells 5 5 0 0 true 41 (mR [mU 1, .str 2 12624, .unk, .unk, .unk]))]
  src := [(0, 11), (0, 12)]
  c := 0
  n := 0
  tot := 0
  res := .tup [mI 1, mI 1, mI 0]
  out := (T4.e 5)
  sub := (T4.e 5)
  refs := []
noncomputable def rng2 : Memo2 where
  args := [.agg [.unk, .unk, .unk, .unk, .unk, .unk, .unk, .unk, .unk, .unk, .unk, .sl 16 20 0 4 4 true], .sl 17 5 0 1 1 true]
  ins := [some (.cells 5 20 0 0 true 113 ⟨some [mS0, .str 2 12368, .unk, .unk, .unk], (m1 (mN (T4.e 0) (mL [mS0, .str 2 12624, .unk, .unk, .unk]) (mL [mS0, .str 2 12880, .unk, .unk, .unk]) (mL [mS0, .str 2 13136, .unk, .unk, .unk])))⟩), some (.cells 5 5 0 0 true 41 (mR [mU 1, .str 2 12880, .unk, .unk, .unk]))]
  src := [(0, 11), (0, 12)]
  c := 0
  n := 0
  tot := 0
  res := .tup [mI 2, mI 2, mI 0]
  out := (T4.e 5)
  sub := (T4.e 5)
  refs := []
noncomputable def rng3 : Memo2 where
  args := [.agg [.unk, .unk, .unk, .unk, .unk, .unk, .unk, .unk, .unk, .unk, .unk, .sl 16 20 0 4 4 true], .sl 17 5 0 1 1 true]
  ins := [some (.cells 5 20 0 0 true 113 ⟨some [mS0, .str 2 12368, .unk, .unk, .unk], (m1 (mN (T4.e 0) (mL [mS0, .str 2 12624, .unk, .unk, .unk]) (mL [mS0, .str 2 12880, .unk, .unk, .unk]) (mL [mS0, .str 2 13136, .unk, .unk, .unk])))⟩), some (.cells 5 5 0 0 true 41 (mR [mU 1, .str 2 13136, .unk, .unk, .unk]))]
  src := [(0, 11), (0, 12)]
  c := 0
  n := 0
  tot := 0
  res := .tup [mI 3, mI 3, mI 0]
  out := (T4.e 5)
  sub := (T4.e 5)
  refs := []
noncomputable def rng4 : Memo2 where
  args := [.agg [.unk, .unk, .unk, .unk, .unk, .unk, .unk, .unk, .unk, .unk, .unk, .sl 16 20 0 4 4 true], .sl 17 10 0 1 2 true]
  ins := [some (.cells 5 20 0 0 true 113 ⟨some [mS0, .str 2 12368, .unk, .unk, .unk], (m1 (mN (T4.e 0) (mL [mS0, .str 2 12624, .unk, .unk, .unk]) (mL [mS0, .str 2 12880, .unk, .unk, .unk]) (mL [mS0, .str 2 13136, .unk, .unk, .unk])))⟩), some (.cells 5 10 0 0 true 41 ⟨some [mU 1, .str 2 12368, .unk, .unk, .unk], (m1 (mN (T4.e 0) (mL [.unk, .unk, .unk, .unk, .unk]) (T4.e 0) (T4.e 0)))⟩)]
  src := [(0, 11), (0, 12)]
  c := 0
  n := 0
  tot := 0
  res := .tup [mI 0, mI 0, mI 0]
  out := (T4.e 5)
  sub := (T4.e 5)
  refs := []
noncomputable def rng5 : Memo2 where
  args := [.agg [.unk, .unk, .unk, .unk, .unk, .unk, .unk, .unk, .unk, .unk, .unk, .sl 16 20 0 4 4 true], .sl 17 10 0 1 2 true]
  ins := [some (.cells 5 20 0 0 true 113 ⟨some [mS0, .str 2 12368, .unk, .unk, .unk], (m1 (mN (T4.e 0) (mL [mS0, .str 2 12624, .unk, .unk, .unk]) (mL [mS0, .str 2 12880, .unk, .unk, .unk]) (mL [mS0, .str 2 13136, .unk, .unk, .unk])))⟩), some (.cells 5 10 0 0 true 41 ⟨some [mU 1, .str 2 12624, .unk, .unk, .unk], (m1 (mN (T4.e 0) (mL [.unk, .unk, .unk, .unk, .unk]) (T4.e 0) (T4.e 0)))⟩)]
  src := [(0, 11), (0, 12)]
  c := 0
  n := 0
  tot := 0
  res := .tup [mI 1, mI 1, mI 0]
  out := (T4.e 5)
  sub := (T4.e 5)
  refs := []
noncomputable def rng6 : Memo2 where
  args := [.agg [.unk, .unk, .unk, .unk, .unk, .unk, .unk, .unk, .unk, .unk, .unk, .sl 16 20 0 4 4 true], .sl 17 10 0 1 2 true]
  ins := [some (.cells 5 20 0 0 true 113 ⟨some [mS0, .str 2 12368, .unk, .unk, .unk], (m1 (mN (T4.e 0) (mL [mS0, .str 2 12624, .unk, .unk, .unk]) (mL [mS0, .str 2 12880, .unk, .unk, .unk]) (mL [mS0, .str 2 13136, .unk, .unk, .unk])))⟩), some (.cells 5 10 0 0 true 41 ⟨some [mU 1, .str 2 12880, .unk, .unk, .unk], (m1 (mN (T4.e 0) (mL [.unk, .unk, .unk, .unk, .unk]) (T4.e 0) (T4.e 0)))⟩)]
  src := [(0, 11), (0, 12)]
  c := 0
  n := 0
  tot := 0
  res := .tup [mI 2, mI 2, mI 0]
  out := (T4.e 5)
  sub := (T4.e 5)
  refs := []
noncomputable def rng7 : Memo2 where
  args := [.agg [.unk, .unk, .unk, .unk, .unk, .unk, .unk, .unk, .unk, .unk, .unk, .sl 16 20 0 4 4 true], .sl 17 10 0 1 2 true]
  ins := [some (.cells 5 20 0 0 true 113 ⟨some [mS0, .str 2 12368, .unk, .unk, .unk], (m1 (mN (T4.e 0) (mL [mS0, .str 2 12624, .unk, .unk, .unk]) (mL [mS0, .str 2 12880, .unk, .unk, .unk]) (mL [mS0, .str 2 13136, .unk, .unk, .unk])))⟩), some (.cells 5 10 0 0 true 41 ⟨some [mU 1, .str 2 13136, .unk, .unk, .unk], (m1 (mN (T4.e 0) (mL [.unk, .unk, .unk, .unk, .unk]) (T4.e 0) (T4.e 0)))⟩)]
  src := [(0, 11), (0, 12)]
  c := 0
  n := 0
  tot := 0
  res := .tup [mI 3, mI 3, mI 0]
  out := (T4.e 5)
  sub := (T4.e 5)
  refs := []
noncomputable def rng8 : Memo2 where
  args := [.agg [.unk, .unk, .unk, .unk, .unk, .unk, .unk, .unk, .unk, .unk, .unk, .sl 16 20 0 4 4 true], .sl 17 10 5 1 1 true]
  ins := [some (.cells 5 20 0 0 true 113 ⟨some [mS0, .str 2 12368, .unk, .unk, .unk], (m1 (mN (T4.e 0) (mL [mS0, .str 2 12624, .unk, .unk, .unk]) (mL [mS0, .str 2 12880, .unk, .unk, .unk]) (mL [mS0, .str 2 13136, .unk, .unk, .unk])))⟩), some (.cells 5 10 0 0 true 41 ⟨some [.unk, .unk, .unk, .unk, .unk], (m1 (mN (T4.e 0) (mL [mU 1, .str 2 12368, .unk, .unk, .unk]) (T4.e 0) (T4.e 0)))⟩)]
  src := [(0, 11), (0, 12)]
  c := 0
  n := 0
  tot := 0
  res := .tup [mI 0, mI 0, mI 0]
  out := (T4.e 5)
  sub := (T4.e 5)
  refs := []
noncomputable def rng9 : Memo2 where
  args := [.agg [.unk, .unk, .unk, .unk, .unk, .unk, .unk, .unk, .unk, .unk, .unk, .sl 16 20 0 4 4 true], .sl 17 10 5 1 1 true]
  ins := [some (.cells 5 20 0 0 true 113 ⟨some [mS0, .str 2 12368, .unk, .unk, .unk], (m1 (mN (T4.e 0) (mL [mS0, .str 2 12624, .unk, .unk, .unk]) (mL [mS0, .str 2 12880, .unk, .unk, .unk]) (mL [mS0, .str 2 13136, .unk, .unk, .unk])))⟩), some (.cells 5 10 0 0 true 41 ⟨some [.unk, .unk, .unk, .unk, .unk], (m1 (mN (T4.e 0) (mL [mU 1, .str 2 12624, .unk, .unk, .unk]) (T4.e 0) (T4.e 0)))⟩)]
  src := [(0, 11), (0, 12)]
  c := 0
  n := 0
  tot := 0
  res := .tup [mI 1, mI 1, mI 0]
  out := (T4.e 5)
  sub := (T4.e 5)
  refs := []
noncomputable def rng10 : Memo2 where
  args := [.agg [.unk, .unk, .unk, .unk, .unk, .unk, .unk, .unk, .unk, .unk, .unk, .sl 16 20 0 4 4 true], .sl 17 10 5 1 1 true]
  ins := [some (.cells 5 20 0 0 true 113 ⟨some [mS0, .str 2 12368, .unk, .unk, .unk], (m1 (mN (T4.e 0) (mL [mS0, .str 2 12624, .unk, .unk, .unk]) (mL [mS0, .str 2 12880, .unk, .unk, .unk]) (mL [mS0, .str 2 13136, .unk, .unk, .unk])))⟩), some (.cells 5 10 0 0 true 41 ⟨some [.unk, .unk, .unk, .unk, .unk], (m1 (mN (T4.e 0) (mL [mU 1, .str 2 12880, .unk, .unk, .unk]) (T4.e 0) (T4.e 0)))⟩)]
  src := [(0, 11), (0, 12)]
  c := 0
  n := 0
  tot := 0
  res := .tup [mI 2, mI 2, mI 0]
  out := (T4.e 5)
  sub := (T4.e 5)
  refs := []
noncomputable def rng11 : Memo2 where
  args := [.agg [.unk, .unk, .unk, .unk, .unk, .unk, .unk, .unk, .unk, .unk, .unk, .sl 16 20 0 4 4 true], .sl 17 10 5 1 1 true]
  ins := [some (.cells 5 20 0 0 true 113 ⟨some [mS0, .str 2 12368, .unk, .unk, .unk], (m1 (mN (T4.e 0) (mL [mS0, .str 2 12624, .unk, .unk, .unk]) (mL [mS0, .str 2 12880, .unk, .unk, .unk]) (mL [mS0, .str 2 13136, .unk, .unk, .unk])))⟩), some (.cells 5 10 0 0 true 41 ⟨some [.unk, .unk, .unk, .unk, .unk], (m1 (mN (T4.e 0) (mL [mU 1, .str 2 13136, .unk, .unk, .unk]) (T4.e 0) (T4.e 0)))⟩)]
  src := [(0, 11), (0, 12)]
  c := 0
  n := 0
  tot := 0
  res := .tup [mI 3, mI 3, mI 0]
  out := (T4.e 5)
  sub := (T4.e 5)
  refs := []
noncomputable def run9_g0 : Bool := mkTblZ Tryz.prog [] (660, 420) 104 fnsG tab8 (fun t => memoAll t 190 [rng0, rng1, rng2, rng3, rng4, rng5, rng6, rng7, rng8, rng9, rng10, rng11])
noncomputable def tab9 : T4 FnD TD := T4.set TD 190 (memoDF rng0 16 (memoDF rng1 16 (memoDF rng2 16 (memoDF rng3 16 (memoDF rng4 16 (memoDF rng5 16 (memoDF rng6 16 (memoDF rng7 16 (memoDF rng8 16 (memoDF rng9 16 (memoDF rng10 16 (memoDF rng11 16 (failD))))))))))))) tab8
noncomputable def num0 : Memo2 where
  args := [.ptr 16 7 0, .sl 17 5 0 1 1 true]
  ins := [some (.cells 7 7 7 0 false 158 (mR [.unk, .unk, .unk, .unk, .unk, .unk, .unk])), some (.cells 5 5 0 0 true 41 (mR [mU 2, .str 1 48, .unk, .unk, .unk]))]
  src := [(0, 0), (0, 1)]
  c := 0
  n := 0
  tot := 0
  res := .tup [mI 0, mI 0]
  out := (T4.e 5)
  sub := (T4.e 5)
  refs := []
noncomputable def num1 : Memo2 where
  args := [.ptr 16 7 0, .sl 17 5 0 1 1 true]
  ins := [some (.cells 7 7 7 0 false 158 (mR [.unk, .unk, .unk, .unk, .unk, .unk, .unk])), some (.cells 5 5 0 0 true 41 (mR [mU 2, .str 1 49, .unk, .unk, .unk]))]
  src := [(0, 0), (0, 1)]
  c := 0
  n := 0
  tot := 0
  res := .tup [mI 1, mI 0]
  out := (T4.e 5)
  sub := (T4.e 5)
  refs := []
noncomputable def num2 : Memo2 where
  args := [.ptr 16 7 0, .sl 17 5 0 1 1 true]
  ins := [some (.cells 7 7 7 0 false 158 (mR [.unk, .unk, .unk, .unk, .unk, .unk, .unk])), some (.cells 5 5 0 0 true 41 (mR [mU 2, .str 1 50, .unk, .unk, .unk]))]
  src := [(0, 0), (0, 1)]
  c := 0
  n := 0
  tot := 0
  res := .tup [mI 2, mI 0]
  out := (T4.e 5)
  sub := (T4.e 5)
  refs := []
noncomputable def num3 : Memo2 where
  args := [.ptr 16 7 0, .sl 17 5 0 1 1 true]
  ins := [some (.cells 7 7 7 0 false 158 (mR [.unk, .unk, .unk, .unk, .unk, .unk, .unk])), some (.cells 5 5 0 0 true 41 (mR [mU 2, .str 1 51, .unk, .unk, .unk]))]
  src := [(0, 0), (0, 1)]
  c := 0
  n := 0
  tot := 0
  res := .tup [mI 3, mI 0]
  out := (T4.e 5)
  sub := (T4.e 5)
  refs := []
noncomputable def num4 : Memo2 where
  args := [.ptr 16 7 0, .sl 17 5 0 1 1 true]
  ins := [some (.cells 7 7 7 0 false 158 (mR [.sl 19 440 0 20 20 true, mI 57, .sl 18 57 0 57 57 true, .unk, .unk, .unk, .unk])), some (.cells 5 5 0 0 true 41 (mR [mU 1, .str 1 90, .unk, .unk, .unk])), some (.cells 1 57 57 0 false 5 ⟨some [.unk], (m3 (mN (T4.e 2) (T4.e 2) (T4.e 2) (mN (T4.e 1) (mN (T4.e 0) (T4.e 0) (T4.e 0) (mL [mU 48])) (mN (mL [mU 48]) (T4.e 0) (T4.e 0) (T4.e 0)) (T4.e 1))))⟩), some itemsB]
  src := [(0, 0), (0, 1), (1, 2), (1, 0)]
  c := 0
  n := 0
  tot := 0
  res := .tup [mI 0, mI 0]
  out := (T4.e 5)
  sub := (T4.e 5)
  refs := []
noncomputable def num5 : Memo2 where
  args := [.ptr 16 7 0, .sl 17 5 0 1 1 true]
  ins := [some (.cells 7 7 7 0 false 158 (mR [.sl 19 440 0 20 20 true, mI 57, .sl 18 57 0 57 57 true, .unk, .unk, .unk, .unk])), some (.cells 5 5 0 0 true 41 (mR [mU 1, .str 1 90, .unk, .unk, .unk])), some (.cells 1 57 57 0 false 5 ⟨some [.unk], (m3 (mN (T4.e 2) (T4.e 2) (T4.e 2) (mN (T4.e 1) (mN (T4.e 0) (T4.e 0) (T4.e 0) (mL [mU 48])) (mN (mL [mU 49]) (T4.e 0) (T4.e 0) (T4.e 0)) (T4.e 1))))⟩), some itemsB]
  src := [(0, 0), (0, 1), (1, 2), (1, 0)]
  c := 0
  n := 0
  tot := 0
  res := .tup [mI 1, mI 0]
  out := (T4.e 5)
  sub := (T4.e 5)
  refs := []
noncomputable def num6 : Memo2 where
  args := [.ptr 16 7 0, .sl 17 5 0 1 1 true]
  ins := [some (.cells 7 7 7 0 false 158 (mR [.sl 19 440 0 20 20 true, mI 57, .sl 18 57 0 57 57 true, .unk, .unk, .unk, .unk])), some (.cells 5 5 0 0 true 41 (mR [mU 1, .str 1 90, .unk, .unk, .unk])), some (.cells 1 57 57 0 false 5 ⟨some [.unk], (m3 (mN (T4.e 2) (T4.e 2) (T4.e 2) (mN (T4.e 1) (mN (T4.e 0) (T4.e 0) (T4.e 0) (mL [mU 48])) (mN (mL [mU 50]) (T4.e 0) (T4.e 0) (T4.e 0)) (T4.e 1))))⟩), some itemsB]
  src := [(0, 0), (0, 1), (1, 2), (1, 0)]
  c := 0
  n := 0
  tot := 0
  res := .tup [mI 2, mI 0]
  out := (T4.e 5)
  sub := (T4.e 5)
  refs := []
noncomputable def run10_g0 : Bool := mkTblZ Tryz.prog [] (660, 420) 104 fnsT tab9 (fun t => memoAll t 191 [num0, num1, num2, num3, num4, num5, num6])
noncomputable def tab10 : T4 FnD TD := T4.set TD 191 (memoDF num0 16 (memoDF num1 16 (memoDF num2 16 (memoDF num3 16 (memoDF num4 16 (memoDF num5 16 (memoDF num6 16 (failD)))))))) tab9
noncomputable def rt0 : Memo2 where
  args := [.sl 16 4 0 4 4 false, .int .u16 (.ofNat 3089)]
  ins := [some (.cells 1 4 0 0 true 23 ⟨some [.sl 17 6 0 2 2 false], (m1 (mN (T4.e 0) (mL [.sl 18 9 0 3 3 false]) (mL [.sl 19 6 0 2 2 false]) (mL [.sl 20 3 0 1 1 false])))⟩), some (.cells 3 6 0 0 true 25 ⟨some [mU 1, mU 0, mU 0], (m1 (mN (T4.e 0) (mL [mU 42, mU 4, mU 0]) (T4.e 0) (T4.e 0)))⟩), some (.cells 3 9 0 0 true 25 ⟨some [mU 33, mU 145, mU 16], (m1 (mN (T4.e 0) (mL [mU 17, mU 172, mU 246]) (mL [mU 125, mU 13, mU 1]) (T4.e 0)))⟩), some (.cells 3 6 0 0 true 25 ⟨some [mU 28, mU 3, mU 142], (m1 (mN (T4.e 0) (mL [mU 31, mU 88, mU 9]) (T4.e 0) (T4.e 0)))⟩), some (.cells 3 3 0 0 true 25 (mR [mU 218, mU 194, mU 50]))]
  src := [(0, 0), (1, 0), (1, 1), (1, 2), (1, 3)]
  c := 0
  n := 0
  tot := 0
  res := .bool true
  out := (T4.e 5)
  sub := (T4.e 5)
  refs := []
noncomputable def rt1 : Memo2 where
  args := [.sl 16 4 0 4 4 false, .int .u16 (.ofNat 15258)]
  ins := [some (.cells 1 4 0 0 true 23 ⟨some [.sl 17 6 0 2 2 false], (m1 (mN (T4.e 0) (mL [.sl 18 6 0 2 2 false]) (mL [.sl 19 3 0 1 1 false]) (mL [.sl 20 6 0 2 2 false])))⟩), some (.cells 3 6 0 0 true 25 ⟨some [mU 17, mU 201, mU 79], (m1 (mN (T4.e 0) (mL [mU 187, mU 219, mU 81]) (T4.e 0) (T4.e 0)))⟩), some (.cells 3 6 0 0 true 25 ⟨some [mU 152, mU 102, mU 68], (m1 (mN (T4.e 0) (mL [mU 144, mU 186, mU 191]) (T4.e 0) (T4.e 0)))⟩), some (.cells 3 3 0 0 true 25 (mR [mU 175, mU 190, mU 49])), some (.cells 3 6 0 0 true 25 ⟨some [mU 142, mU 243, mU 140], (m1 (mN (T4.e 0) (mL [mU 34, mU 3, mU 227]) (T4.e 0) (T4.e 0)))⟩)]
  src := [(0, 0), (1, 0), (1, 1), (1, 2), (1, 3)]
  c := 0
  n := 0
  tot := 0
  res := .bool true
  out := (T4.e 5)
  sub := (T4.e 5)
  refs := []
noncomputable def rt2 : Memo2 where
  args := [.sl 16 4 0 4 4 false, .int .u16 (.ofNat 3378)]
  ins := [some (.cells 1 4 0 0 true 23 ⟨some [.sl 17 6 0 2 2 false], (m1 (mN (T4.e 0) (mL [.sl 18 6 0 2 2 false]) (mL [.sl 19 6 0 2 2 false]) (mL [.sl 20 6 0 2 2 false])))⟩), some (.cells 3 6 0 0 true 25 ⟨some [mU 154, mU 159, mU 188], (m1 (mN (T4.e 0) (mL [mU 37, mU 174, mU 133]) (T4.e 0) (T4.e 0)))⟩), some (.cells 3 6 0 0 true 25 ⟨some [mU 132, mU 71, mU 7], (m1 (mN (T4.e 0) (mL [mU 245, mU 254, mU 85]) (T4.e 0) (T4.e 0)))⟩), some (.cells 3 6 0 0 true 25 ⟨some [mU 211, mU 51, mU 204], (m1 (mN (T4.e 0) (mL [mU 140, mU 44, mU 33]) (T4.e 0) (T4.e 0)))⟩), some (.cells 3 6 0 0 true 25 ⟨some [mU 127, mU 213, mU 165], (m1 (mN (T4.e 0) (mL [mU 174, mU 246, mU 27]) (T4.e 0) (T4.e 0)))⟩)]
  src := [(0, 0), (1, 0), (1, 1), (1, 2), (1, 3)]
  c := 0
  n := 0
  tot := 0
  res := .bool true
  out := (T4.e 5)
  sub := (T4.e 5)
  refs := []
noncomputable def rt3 : Memo2 where
  args := [.sl 16 4 0 4 4 false, .int .u16 (.ofNat 16023)]
  ins := [some (.cells 1 4 0 0 true 23 ⟨some [.sl 17 6 0 2 2 false], (m1 (mN (T4.e 0) (mL [.sl 18 12 0 4 4 false]) (mL [.sl 19 3 0 1 1 false]) (mL [.sl 20 9 0 3 3 false])))⟩), some (.cells 3 6 0 0 true 25 ⟨some [mU 50, mU 233, mU 82], (m1 (mN (T4.e 0) (mL [mU 186, mU 191, mU 191]) (T4.e 0) (T4.e 0)))⟩), some (.cells 3 12 0 0 true 25 ⟨some [mU 144, mU 186, mU 49], (m1 (mN (T4.e 0) (mL [mU 13, mU 200, mU 50]) (mL [mU 233, mU 54, mU 176]) (mL [mU 118, mU 183, mU 105])))⟩), some (.cells 3 3 0 0 true 25 (mR [mU 161, mU 160, mU 103])), some (.cells 3 9 0 0 true 25 ⟨some [mU 82, mU 151, mU 215], (m1 (mN (T4.e 0) (mL [mU 152, mU 16, mU 87]) (mL [mU 112, mU 211, mU 251]) (T4.e 0)))⟩)]
  src := [(0, 0), (1, 0), (1, 1), (1, 2), (1, 3)]
  c := 0
  n := 0
  tot := 0
  res := .bool true
  out := (T4.e 5)
  sub := (T4.e 5)
  refs := []
noncomputable def rt4 : Memo2 where
  args := [.sl 16 4 0 4 4 false, .int .u16 (.ofNat 51062)]
  ins := [some (.cells 1 4 0 0 true 23 ⟨some [.sl 17 3 0 1 1 false], (m1 (mN (T4.e 0) (mL [.sl 18 3 0 1 1 false]) (mL [.sl 19 12 0 4 4 false]) (mL [.sl 20 6 0 2 2 false])))⟩), some (.cells 3 3 0 0 true 25 (mR [mU 151, mU 244, mU 197])), some (.cells 3 3 0 0 true 25 (mR [mU 200, mU 249, mU 169])), some (.cells 3 12 0 0 true 25 ⟨some [mU 211, mU 137, mU 185], (m1 (mN (T4.e 0) (mL [mU 140, mU 129, mU 213]) (mL [mU 12, mU 58, mU 205]) (mL [mU 69, mU 93, mU 38])))⟩), some (.cells 3 6 0 0 true 25 ⟨some [mU 45, mU 5, mU 0], (m1 (mN (T4.e 0) (mL [mU 168, mU 132, mU 128]) (T4.e 0) (T4.e 0)))⟩)]
  src := [(0, 0), (1, 0), (1, 1), (1, 2), (1, 3)]
  c := 0
  n := 0
  tot := 0
  res := .bool true
  out := (T4.e 5)
  sub := (T4.e 5)
  refs := []
noncomputable def rt5 : Memo2 where
  args := [.sl 16 4 0 4 4 false, .int .u16 (.ofNat 6978)]
  ins := [some (.cells 1 4 0 0 true 23 ⟨some [.sl 17 3 0 1 1 false], (m1 (mN (T4.e 0) (mL [.sl 18 3 0 1 1 false]) (mL [.sl 19 6 0 2 2 false]) (mL [.sl 20 6 0 2 2 false])))⟩), some (.cells 3 3 0 0 true 25 (mR [mU 118, mU 41, mU 118])), some (.cells 3 3 0 0 true 25 (mR [mU 200, mU 249, mU 255])), some (.cells 3 6 0 0 true 25 ⟨some [mU 95, mU 39, mU 89], (m1 (mN (T4.e 0) (mL [mU 59, mU 63, mU 149]) (T4.e 0) (T4.e 0)))⟩), some (.cells 3 6 0 0 true 25 ⟨some [mU 14, mU 58, mU 234], (m1 (mN (T4.e 0) (mL [mU 92, mU 209, mU 137]) (T4.e 0) (T4.e 0)))⟩)]
  src := [(0, 0), (1, 0), (1, 1), (1, 2), (1, 3)]
  c := 0
  n := 0
  tot := 0
  res := .bool true
  out := (T4.e 5)
  sub := (T4.e 5)
  refs := []
noncomputable def rt6 : Memo2 where
  args := [.sl 16 4 0 4 4 false, .int .u16 (.ofNat 31907)]
  ins := [some (.cells 1 4 0 0 true 23 ⟨some [.sl 17 12 0 4 4 false], (m1 (mN (T4.e 0) (mL [.sl 18 6 0 2 2 false]) (mL [.sl 19 9 0 3 3 false]) (mL [.sl 20 9 0 3 3 false])))⟩), some (.cells 3 12 0 0 true 25 ⟨some [mU 66, mU 121, mU 127], (m1 (mN (T4.e 0) (mL [mU 7, mU 199, mU 79]) (mL [mU 250, mU 141, mU 15]) (mL [mU 195, mU 163, mU 131])))⟩), some (.cells 3 6 0 0 true 25 ⟨some [mU 191, mU 163, mU 131], (m1 (mN (T4.e 0) (mL [mU 120, mU 41, mU 146]) (T4.e 0) (T4.e 0)))⟩), some (.cells 3 9 0 0 true 25 ⟨some [mU 152, mU 45, mU 175], (m1 (mN (T4.e 0) (mL [mU 103, mU 96, mU 152]) (mL [mU 169, mU 132, mU 14]) (T4.e 0)))⟩), some (.cells 3 9 0 0 true 25 ⟨some [mU 2, mU 142, mU 101], (m1 (mN (T4.e 0) (mL [mU 24, mU 116, mU 155]) (mL [mU 216, mU 166, mU 160]) (T4.e 0)))⟩)]
  src := [(0, 0), (1, 0), (1, 1), (1, 2), (1, 3)]
  c := 0
  n := 0
  tot := 0
  res := .bool true
  out := (T4.e 5)
  sub := (T4.e 5)
  refs := []
noncomputable def rt7 : Memo2 where
  args := [.sl 16 4 0 4 4 false, .int .u16 (.ofNat 8541)]
  ins := [some (.cells 1 4 0 0 true 23 ⟨some [.sl 17 6 0 2 2 false], (m1 (mN (T4.e 0) (mL [.sl 18 9 0 3 3 false]) (mL [.sl 19 3 0 1 1 false]) (mL [.sl 20 6 0 2 2 false])))⟩), some (.cells 3 6 0 0 true 25 ⟨some [mU 163, mU 217, mU 137], (m1 (mN (T4.e 0) (mL [mU 13, mU 172, mU 76]) (T4.e 0) (T4.e 0)))⟩), some (.cells 3 9 0 0 true 25 ⟨some [mU 109, mU 239, mU 254], (m1 (mN (T4.e 0) (mL [mU 44, mU 90, mU 38]) (mL [mU 241, mU 26, mU 230]) (T4.e 0)))⟩), some (.cells 3 3 0 0 true 25 (mR [mU 157, mU 102, mU 11])), some (.cells 3 6 0 0 true 25 ⟨some [mU 74, mU 8, mU 114], (m1 (mN (T4.e 0) (mL [mU 20, mU 30, mU 202]) (T4.e 0) (T4.e 0)))⟩)]
  src := [(0, 0), (1, 0), (1, 1), (1, 2), (1, 3)]
  c := 0
  n := 0
  tot := 0
  res := .bool true
  out := (T4.e 5)
  sub := (T4.e 5)
  refs := []
noncomputable def rt8 : Memo2 where
  args := [.sl 16 4 0 4 4 false, .int .u16 (.ofNat 17450)]
  ins := [some (.cells 1 4 0 0 true 23 ⟨some [.sl 17 3 0 1 1 false], (m1 (mN (T4.e 0) (mL [.sl 18 9 0 3 3 false]) (mL [.sl 19 3 0 1 1 false]) (mL [.sl 20 6 0 2 2 false])))⟩), some (.cells 3 3 0 0 true 25 (mR [mU 93, mU 181, mU 105])), some (.cells 3 9 0 0 true 25 ⟨some [mU 8, mU 29, mU 31], (m1 (mN (T4.e 0) (mL [mU 78, mU 122, mU 98]) (mL [mU 62, mU 6, mU 86]) (T4.e 0)))⟩), some (.cells 3 3 0 0 true 25 (mR [mU 7, mU 199, mU 22])), some (.cells 3 6 0 0 true 25 ⟨some [mU 242, mU 55, mU 176], (m1 (mN (T4.e 0) (mL [mU 155, mU 216, mU 109]) (T4.e 0) (T4.e 0)))⟩)]
  src := [(0, 0), (1, 0), (1, 1), (1, 2), (1, 3)]
  c := 0
  n := 0
  tot := 0
  res := .bool true
  out := (T4.e 5)
  sub := (T4.e 5)
  refs := []
noncomputable def rt9 : Memo2 where
  args := [.sl 16 4 0 4 4 false, .int .u16 (.ofNat 28853)]
  ins := [some (.cells 1 4 0 0 true 23 ⟨some [.sl 17 6 0 2 2 false], (m1 (mN (T4.e 0) (mL [.sl 18 12 0 4 4 false]) (mL [.sl 19 12 0 4 4 false]) (mL [.sl 20 6 0 2 2 false])))⟩), some (.cells 3 6 0 0 true 25 ⟨some [mU 42, mU 146, mU 215], (m1 (mN (T4.e 0) (mL [mU 242, mU 197, mU 249]) (T4.e 0) (T4.e 0)))⟩), some (.cells 3 12 0 0 true 25 ⟨some [mU 181, mU 20, mU 87], (m1 (mN (T4.e 0) (mL [mU 158, mU 245, mU 84]) (mL [mU 74, mU 8, mU 171]) (mL [mU 238, mU 225, mU 25])))⟩), some (.cells 3 12 0 0 true 25 ⟨some [mU 228, mU 82, mU 9], (m1 (mN (T4.e 0) (mL [mU 156, mU 74, mU 122]) (mL [mU 112, mU 240, mU 112]) (mL [mU 213, mU 194, mU 135])))⟩), some (.cells 3 6 0 0 true 25 ⟨some [mU 180, mU 20, mU 59], (m1 (mN (T4.e 0) (mL [mU 119, mU 155, mU 102]) (T4.e 0) (T4.e 0)))⟩)]
  src := [(0, 0), (1, 0), (1, 1), (1, 2), (1, 3)]
  c := 0
  n := 0
  tot := 0
  res := .bool true
  out := (T4.e 5)
  sub := (T4.e 5)
  refs := []
noncomputable def rt10 : Memo2 where
  args := [.sl 16 4 0 4 4 false, .int .u16 (.ofNat 42034)]
  ins := [some (.cells 1 4 0 0 true 23 ⟨some [.sl 17 9 0 3 3 false], (m1 (mN (T4.e 0) (mL [.sl 18 6 0 2 2 false]) (mL [.sl 19 6 0 2 2 false]) (mL [.sl 20 6 0 2 2 false])))⟩), some (.cells 3 9 0 0 true 25 ⟨some [mU 181, mU 133, mU 100], (m1 (mN (T4.e 0) (mL [mU 222, mU 252, mU 141]) (mL [mU 118, mU 212, mU 80]) (T4.e 0)))⟩), some (.cells 3 6 0 0 true 25 ⟨some [mU 61, mU 120, mU 41], (m1 (mN (T4.e 0) (mL [mU 46, mU 90, mU 95]) (T4.e 0) (T4.e 0)))⟩), some (.cells 3 6 0 0 true 25 ⟨some [mU 208, mU 165, mU 132], (m1 (mN (T4.e 0) (mL [mU 96, mU 209, mU 137]) (T4.e 0) (T4.e 0)))⟩), some (.cells 3 6 0 0 true 25 ⟨some [mU 254, mU 198, mU 50], (m1 (mN (T4.e 0) (mL [mU 84, mU 151, mU 187]) (T4.e 0) (T4.e 0)))⟩)]
  src := [(0, 0), (1, 0), (1, 1), (1, 2), (1, 3)]
  c := 0
  n := 0
  tot := 0
  res := .bool true
  out := (T4.e 5)
  sub := (T4.e 5)
  refs := []
noncomputable def rt11 : Memo2 where
  args := [.sl 16 4 0 4 4 false, .int .u16 (.ofNat 56647)]
  ins := [some (.cells 1 4 0 0 true 23 ⟨some [.sl 17 6 0 2 2 false], (m1 (mN (T4.e 0) (mL [.sl 18 9 0 3 3 false]) (mL [.sl 19 9 0 3 3 false]) (mL [.sl 20 9 0 3 3 false])))⟩), some (.cells 3 6 0 0 true 25 ⟨some [mU 50, mU 62, mU 6], (m1 (mN (T4.e 0) (mL [mU 210, mU 80, mU 37]) (T4.e 0) (T4.e 0)))⟩), some (.cells 3 9 0 0 true 25 ⟨some [mU 121, mU 184, mU 134], (m1 (mN (T4.e 0) (mL [mU 66, mU 149, mU 101]) (mL [mU 202, mU 79, mU 179]) (T4.e 0)))⟩), some (.cells 3 9 0 0 true 25 ⟨some [mU 181, mU 190, mU 191], (m1 (mN (T4.e 0) (mL [mU 3, mU 171, mU 47]) (mL [mU 1, mU 227, mU 252]) (T4.e 0)))⟩), some (.cells 3 9 0 0 true 25 ⟨some [mU 31, mU 231, mU 253], (m1 (mN (T4.e 0) (mL [mU 15, mU 143, mU 186]) (mL [mU 240, mU 254, mU 142]) (T4.e 0)))⟩)]
  src := [(0, 0), (1, 0), (1, 1), (1, 2), (1, 3)]
  c := 0
  n := 0
  tot := 0
  res := .bool true
  out := (T4.e 5)
  sub := (T4.e 5)
  refs := []
noncomputable def rt12 : Memo2 where
  args := [.sl 16 4 0 4 4 false, .int .u16 (.ofNat 9537)]
  ins := [some (.cells 1 4 0 0 true 23 ⟨some [.sl 17 12 0 4 4 false], (m1 (mN (T4.e 0) (mL [.sl 18 9 0 3 3 false]) (mL [.sl 19 6 0 2 2 false]) (mL [.sl 20 3 0 1 1 false])))⟩), some (.cells 3 12 0 0 true 25 ⟨some [mU 71, mU 150, mU 187], (m1 (mN (T4.e 0) (mL [mU 209, mU 80, mU 179]) (mL [mU 135, mU 214, mU 194]) (mL [mU 99, mU 124, mU 127])))⟩), some (.cells 3 9 0 0 true 25 ⟨some [mU 77, mU 122, mU 13], (m1 (mN (T4.e 0) (mL [mU 76, mU 36, mU 4]) (mL [mU 45, mU 204, mU 221]) (T4.e 0)))⟩), some (.cells 3 6 0 0 true 25 ⟨some [mU 132, mU 71, mU 207], (m1 (mN (T4.e 0) (mL [mU 251, mU 141, mU 101]) (T4.e 0) (T4.e 0)))⟩), some (.cells 3 3 0 0 true 25 (mR [mU 170, mU 218, mU 52]))]
  src := [(0, 0), (1, 0), (1, 1), (1, 2), (1, 3)]
  c := 0
  n := 0
  tot := 0
  res := .bool true
  out := (T4.e 5)
  sub := (T4.e 5)
  refs := []
noncomputable def rt13 : Memo2 where
  args := [.sl 16 4 0 4 4 false, .int .u16 (.ofNat 20597)]
  ins := [some (.cells 1 4 0 0 true 23 ⟨some [.sl 17 9 0 3 3 false], (m1 (mN (T4.e 0) (mL [.sl 18 6 0 2 2 false]) (mL [.sl 19 6 0 2 2 false]) (mL [.sl 20 3 0 1 1 false])))⟩), some (.cells 3 9 0 0 true 25 ⟨some [mU 65, mU 149, mU 158], (m1 (mN (T4.e 0) (mL [mU 69, mU 206, mU 79]) (mL [mU 78, mU 207, mU 23]) (T4.e 0)))⟩), some (.cells 3 6 0 0 true 25 ⟨some [mU 54, mU 233, mU 25], (m1 (mN (T4.e 0) (mL [mU 85, mU 9, mU 114]) (T4.e 0) (T4.e 0)))⟩), some (.cells 3 6 0 0 true 25 ⟨some [mU 208, mU 23, mU 144], (m1 (mN (T4.e 0) (mL [mU 71, mU 235, mU 111]) (T4.e 0) (T4.e 0)))⟩), some (.cells 3 3 0 0 true 25 (mR [mU 222, mU 53, mU 119]))]
  src := [(0, 0), (1, 0), (1, 1), (1, 2), (1, 3)]
  c := 0
  n := 0
  tot := 0
  res := .bool true
  out := (T4.e 5)
  sub := (T4.e 5)
  refs := []
noncomputable def rt14 : Memo2 where
  args := [.sl 16 4 0 4 4 false, .int .u16 (.ofNat 50737)]
  ins := [some (.cells 1 4 0 0 true 23 ⟨some [.sl 17 3 0 1 1 false], (m1 (mN (T4.e 0) (mL [.sl 18 3 0 1 1 false]) (mL [.sl 19 6 0 2 2 false]) (mL [.sl 20 12 0 4 4 false])))⟩), some (.cells 3 3 0 0 true 25 (mR [mU 117, mU 98, mU 39])), some (.cells 3 3 0 0 true 25 (mR [mU 168, mU 104, mU 96])), some (.cells 3 6 0 0 true 25 ⟨some [mU 11, mU 29, mU 117], (m1 (mN (T4.e 0) (mL [mU 108, mU 182, mU 20]) (T4.e 0) (T4.e 0)))⟩), some (.cells 3 12 0 0 true 25 ⟨some [mU 91, mU 180, mU 133], (m1 (mN (T4.e 0) (mL [mU 174, mU 47, mU 90]) (mL [mU 236, mU 253, mU 85]) (mL [mU 156, mU 131, mU 185])))⟩)]
  src := [(0, 0), (1, 0), (1, 1), (1, 2), (1, 3)]
  c := 0
  n := 0
  tot := 0
  res := .bool true
  out := (T4.e 5)
  sub := (T4.e 5)
  refs := []
noncomputable def rt15 : Memo2 where
  args := [.sl 16 4 0 4 4 false, .int .u16 (.ofNat 55889)]
  ins := [some (.cells 1 4 0 0 true 23 ⟨some [.sl 17 6 0 2 2 false], (m1 (mN (T4.e 0) (mL [.sl 18 3 0 1 1 false]) (mL [.sl 19 6 0 2 2 false]) (mL [.sl 20 3 0 1 1 false])))⟩), some (.cells 3 6 0 0 true 25 ⟨some [mU 49, mU 5, mU 114], (m1 (mN (T4.e 0) (mL [mU 109, mU 154, mU 130]) (T4.e 0) (T4.e 0)))⟩), some (.cells 3 3 0 0 true 25 (mR [mU 60, mU 205, mU 193])), some (.cells 3 6 0 0 true 25 ⟨some [mU 131, mU 14, mU 115], (m1 (mN (T4.e 0) (mL [mU 244, mU 226, mU 224]) (T4.e 0) (T4.e 0)))⟩), some (.cells 3 3 0 0 true 25 (mR [mU 118, mU 98, mU 10]))]
  src := [(0, 0), (1, 0), (1, 1), (1, 2), (1, 3)]
  c := 0
  n := 0
  tot := 0
  res := .bool true
  out := (T4.e 5)
  sub := (T4.e 5)
  refs := []
noncomputable def rt16 : Memo2 where
  args := [.sl 16 4 0 4 4 false, .int .u16 (.ofNat 48745)]
  ins := [some (.cells 1 4 0 0 true 23 ⟨some [.sl 17 12 0 4 4 false], (m1 (mN (T4.e 0) (mL [.sl 18 6 0 2 2 false]) (mL [.sl 19 9 0 3 3 false]) (mL [.sl 20 3 0 1 1 false])))⟩), some (.cells 3 12 0 0 true 25 ⟨some [mU 81, mU 65, mU 177], (m1 (mN (T4.e 0) (mL [mU 7, mU 29, mU 145]) (mL [mU 134, mU 128, mU 99]) (mL [mU 255, mU 199, mU 107])))⟩), some (.cells 3 6 0 0 true 25 ⟨some [mU 95, mU 10, mU 171], (m1 (mN (T4.e 0) (mL [mU 192, mU 106, mU 210]) (T4.e 0) (T4.e 0)))⟩), some (.cells 3 9 0 0 true 25 ⟨some [mU 35, mU 231, mU 111], (m1 (mN (T4.e 0) (mL [mU 155, mU 102, mU 11]) (mL [mU 12, mU 1, mU 113]) (T4.e 0)))⟩), some (.cells 3 3 0 0 true 25 (mR [mU 139, mU 72, mU 178]))]
  src := [(0, 0), (1, 0), (1, 1), (1, 2), (1, 3)]
  c := 0
  n := 0
  tot := 0
  res := .bool true
  out := (T4.e 5)
  sub := (T4.e 5)
  refs := []
noncomputable def rt17 : Memo2 where
  args := [.sl 16 4 0 4 4 false, .int .u16 (.ofNat 20189)]
  ins := [some (.cells 1 4 0 0 true 23 ⟨some [.sl 17 6 0 2 2 false], (m1 (mN (T4.e 0) (mL [.sl 18 9 0 3 3 false]) (mL [.sl 19 6 0 2 2 false]) (mL [.sl 20 3 0 1 1 false])))⟩), some (.cells 3 6 0 0 true 25 ⟨some [mU 105, mU 40, mU 89], (m1 (mN (T4.e 0) (mL [mU 53, mU 205, mU 136]) (T4.e 0) (T4.e 0)))⟩), some (.cells 3 9 0 0 true 25 ⟨some [mU 141, mU 157, mU 17], (m1 (mN (T4.e 0) (mL [mU 222, mU 223, mU 110]) (mL [mU 57, mU 120, mU 240]) (T4.e 0)))⟩), some (.cells 3 6 0 0 true 25 ⟨some [mU 39, mU 32, mU 60], (m1 (mN (T4.e 0) (mL [mU 47, mU 147, mU 130]) (T4.e 0) (T4.e 0)))⟩), some (.cells 3 3 0 0 true 25 (mR [mU 154, mU 102, mU 153]))]
  src := [(0, 0), (1, 0), (1, 1), (1, 2), (1, 3)]
  c := 0
  n := 0
  tot := 0
  res := .bool true
  out := (T4.e 5)
  sub := (T4.e 5)
  refs := []
noncomputable def rt18 : Memo2 where
  args := [.sl 16 4 0 4 4 false, .int .u16 (.ofNat 52013)]
  ins := [some (.cells 1 4 0 0 true 23 ⟨some [.sl 17 3 0 1 1 false], (m1 (mN (T4.e 0) (mL [.sl 18 3 0 1 1 false]) (mL [.sl 19 3 0 1 1 false]) (mL [.sl 20 12 0 4 4 false])))⟩), some (.cells 3 3 0 0 true 25 (mR [mU 221, mU 53, mU 34])), some (.cells 3 3 0 0 true 25 (mR [mU 64, mU 234, mU 196])), some (.cells 3 3 0 0 true 25 (mR [mU 255, mU 142, mU 214])), some (.cells 3 12 0 0 true 25 ⟨some [mU 178, mU 133, mU 71], (m1 (mN (T4.e 0) (mL [mU 79, mU 179, mU 105]) (mL [mU 107, mU 239, mU 26]) (mL [mU 252, mU 84, mU 151])))⟩)]
  src := [(0, 0), (1, 0), (1, 1), (1, 2), (1, 3)]
  c := 0
  n := 0
  tot := 0
  res := .bool true
  out := (T4.e 5)
  sub := (T4.e 5)
  refs := []
noncomputable def rt19 : Memo2 where
  args := [.sl 16 4 0 4 4 false, .int .u16 (.ofNat 28442)]
  ins := [some (.cells 1 4 0 0 true 23 ⟨some [.sl 17 6 0 2 2 false], (m1 (mN (T4.e 0) (mL [.sl 18 3 0 1 1 false]) (mL [.sl 19 6 0 2 2 false]) (mL [.sl 20 9 0 3 3 false])))⟩), some (.cells 3 6 0 0 true 25 ⟨some [mU 45, mU 147, mU 130], (m1 (mN (T4.e 0) (mL [mU 78, mU 94, mU 152]) (T4.e 0) (T4.e 0)))⟩), some (.cells 3 3 0 0 true 25 (mR [mU 148, mU 44, mU 4])), some (.cells 3 6 0 0 true 25 ⟨some [mU 19, mU 87, mU 9], (m1 (mN (T4.e 0) (mL [mU 123, mU 127, mU 156]) (T4.e 0) (T4.e 0)))⟩), some (.cells 3 9 0 0 true 25 ⟨some [mU 135, mU 185, mU 20], (m1 (mN (T4.e 0) (mL [mU 96, mU 209, mU 222]) (mL [mU 120, mU 184, mU 48]) (T4.e 0)))⟩)]
  src := [(0, 0), (1, 0), (1, 1), (1, 2), (1, 3)]
  c := 0
  n := 0
  tot := 0
  res := .bool true
  out := (T4.e 5)
  sub := (T4.e 5)
  refs := []
noncomputable def rt20 : Memo2 where
  args := [.sl 16 4 0 4 4 false, .int .u16 (.ofNat 24501)]
  ins := [some (.cells 1 4 0 0 true 23 ⟨some [.sl 17 6 0 2 2 false], (m1 (mN (T4.e 0) (mL [.sl 18 9 0 3 3 false]) (mL [.sl 19 9 0 3 3 false]) (mL [.sl 20 9 0 3 3 false])))⟩), some (.cells 3 6 0 0 true 25 ⟨some [mU 26, mU 202, mU 136], (m1 (mN (T4.e 0) (mL [mU 186, mU 191, mU 163]) (T4.e 0) (T4.e 0)))⟩), some (.cells 3 9 0 0 true 25 ⟨some [mU 5, mU 142, mU 129], (m1 (mN (T4.e 0) (mL [mU 196, mU 21, mU 59]) (mL [mU 89, mU 209, mU 108]) (T4.e 0)))⟩), some (.cells 3 9 0 0 true 25 ⟨some [mU 5, mU 0, mU 28], (m1 (mN (T4.e 0) (mL [mU 109, mU 211, mU 194]) (mL [mU 121, mU 184, mU 134]) (T4.e 0)))⟩), some (.cells 3 9 0 0 true 25 ⟨some [mU 190, mU 106, mU 40], (m1 (mN (T4.e 0) (mL [mU 102, mU 210, mU 108]) (mL [mU 191, mU 220, mU 195]) (T4.e 0)))⟩)]
  src := [(0, 0), (1, 0), (1, 1), (1, 2), (1, 3)]
  c := 0
  n := 0
  tot := 0
  res := .bool true
  out := (T4.e 5)
  sub := (T4.e 5)
  refs := []
noncomputable def rt21 : Memo2 where
  args := [.sl 16 4 0 4 4 false, .int .u16 (.ofNat 29377)]
  ins := [some (.cells 1 4 0 0 true 23 ⟨some [.sl 17 9 0 3 3 false], (m1 (mN (T4.e 0) (mL [.sl 18 9 0 3 3 false]) (mL [.sl 19 6 0 2 2 false]) (mL [.sl 20 3 0 1 1 false])))⟩), some (.cells 3 9 0 0 true 25 ⟨some [mU 181, mU 20, mU 87], (m1 (mN (T4.e 0) (mL [mU 197, mU 135, mU 100]) (mL [mU 18, mU 30, mU 31]) (T4.e 0)))⟩), some (.cells 3 9 0 0 true 25 ⟨some [mU 196, mU 220, mU 24], (m1 (mN (T4.e 0) (mL [mU 89, mU 237, mU 54]) (mL [mU 54, mU 91, mU 209]) (T4.e 0)))⟩), some (.cells 3 6 0 0 true 25 ⟨some [mU 155, mU 159, mU 74], (m1 (mN (T4.e 0) (mL [mU 127, mU 213, mU 194]) (T4.e 0) (T4.e 0)))⟩), some (.cells 3 3 0 0 true 25 (mR [mU 238, mU 54, mU 62]))]
  src := [(0, 0), (1, 0), (1, 1), (1, 2), (1, 3)]
  c := 0
  n := 0
  tot := 0
  res := .bool true
  out := (T4.e 5)
  sub := (T4.e 5)
  refs := []
noncomputable def rt22 : Memo2 where
  args := [.sl 16 4 0 4 4 false, .int .u16 (.ofNat 27149)]
  ins := [some (.cells 1 4 0 0 true 23 ⟨some [.sl 17 9 0 3 3 false], (m1 (mN (T4.e 0) (mL [.sl 18 6 0 2 2 false]) (mL [.sl 19 6 0 2 2 false]) (mL [.sl 20 12 0 4 4 false])))⟩), some (.cells 3 9 0 0 true 25 ⟨some [mU 193, mU 192, mU 106], (m1 (mN (T4.e 0) (mL [mU 175, mU 161, mU 131]) (mL [mU 83, mU 94, mU 124]) (T4.e 0)))⟩), some (.cells 3 6 0 0 true 25 ⟨some [mU 93, mU 209, mU 165], (m1 (mN (T4.e 0) (mL [mU 130, mU 128, mU 14]) (T4.e 0) (T4.e 0)))⟩), some (.cells 3 6 0 0 true 25 ⟨some [mU 208, mU 136, mU 185], (m1 (mN (T4.e 0) (mL [mU 72, mU 36, mU 117]) (T4.e 0) (T4.e 0)))⟩), some (.cells 3 12 0 0 true 25 ⟨some [mU 139, mU 157, mU 159], (m1 (mN (T4.e 0) (mL [mU 126, mU 99, mU 124]) (mL [mU 96, mU 39, mU 4]) (mL [mU 28, mU 230, mU 167])))⟩)]
  src := [(0, 0), (1, 0), (1, 1), (1, 2), (1, 3)]
  c := 0
  n := 0
  tot := 0
  res := .bool true
  out := (T4.e 5)
  sub := (T4.e 5)
  refs := []
noncomputable def rt23 : Memo2 where
  args := [.sl 16 4 0 4 4 false, .int .u16 (.ofNat 52341)]
  ins := [some (.cells 1 4 0 0 true 23 ⟨some [.sl 17 9 0 3 3 false], (m1 (mN (T4.e 0) (mL [.sl 18 3 0 1 1 false]) (mL [.sl 19 3 0 1 1 false]) (mL [.sl 20 6 0 2 2 false])))⟩), some (.cells 3 9 0 0 true 25 ⟨some [mU 13, mU 58, mU 120], (m1 (mN (T4.e 0) (mL [mU 202, mU 193, mU 135]) (mL [mU 127, mU 127, mU 71]) (T4.e 0)))⟩), some (.cells 3 3 0 0 true 25 (mR [mU 13, mU 1, mU 85])), some (.cells 3 3 0 0 true 25 (mR [mU 95, mU 95, mU 181])), some (.cells 3 6 0 0 true 25 ⟨some [mU 14, mU 1, mU 170], (m1 (mN (T4.e 0) (mL [mU 255, mU 85, mU 180]) (T4.e 0) (T4.e 0)))⟩)]
  src := [(0, 0), (1, 0), (1, 1), (1, 2), (1, 3)]
  c := 0
  n := 0
  tot := 0
  res := .bool true
  out := (T4.e 5)
  sub := (T4.e 5)
  refs := []
noncomputable def rt24 : Memo2 where
  args := [.sl 16 4 0 4 4 false, .int .u16 (.ofNat 30641)]
  ins := [some (.cells 1 4 0 0 true 23 ⟨some [.sl 17 9 0 3 3 false], (m1 (mN (T4.e 0) (mL [.sl 18 9 0 3 3 false]) (mL [.sl 19 12 0 4 4 false]) (mL [.sl 20 3 0 1 1 false])))⟩), some (.cells 3 9 0 0 true 25 ⟨some [mU 117, mU 183, mU 134], (m1 (mN (T4.e 0) (mL [mU 6, mU 199, mU 22]) (mL [mU 243, mU 197, mU 192]) (T4.e 0)))⟩), some (.cells 3 9 0 0 true 25 ⟨some [mU 94, mU 209, mU 165], (m1 (mN (T4.e 0) (mL [mU 161, mU 131, mU 14]) (mL [mU 145, mU 243, mU 197]) (T4.e 0)))⟩), some (.cells 3 12 0 0 true 25 ⟨some [mU 160, mU 17, mU 229], (m1 (mN (T4.e 0) (mL [mU 213, mU 80, mU 236]) (mL [mU 181, mU 190, mU 134]) (mL [mU 141, mU 101, mU 125])))⟩), some (.cells 3 3 0 0 true 25 (mR [mU 67, mU 7, mU 171]))]
  src := [(0, 0), (1, 0), (1, 1), (1, 2), (1, 3)]
  c := 0
  n := 0
  tot := 0
  res := .bool true
  out := (T4.e 5)
  sub := (T4.e 5)
  refs := []
noncomputable def rt25 : Memo2 where
  args := [.sl 16 4 0 4 4 false, .int .u16 (.ofNat 31489)]
  ins := [some (.cells 1 4 0 0 true 23 ⟨some [.sl 17 9 0 3 3 false], (m1 (mN (T4.e 0) (mL [.sl 18 9 0 3 3 false]) (mL [.sl 19 6 0 2 2 false]) (mL [.sl 20 9 0 3 3 false])))⟩), some (.cells 3 9 0 0 true 25 ⟨some [mU 177, mU 76, mU 122], (m1 (mN (T4.e 0) (mL [mU 191, mU 163, mU 103]) (mL [mU 159, mU 188, mU 49]) (T4.e 0)))⟩), some (.cells 3 9 0 0 true 25 ⟨some [mU 98, mU 39, mU 118], (m1 (mN (T4.e 0) (mL [mU 170, mU 246, mU 169]) (mL [mU 49, mU 33, mU 174]) (T4.e 0)))⟩), some (.cells 3 6 0 0 true 25 ⟨some [mU 231, mU 253, mU 113], (m1 (mN (T4.e 0) (mL [mU 204, mU 221, mU 24]) (T4.e 0) (T4.e 0)))⟩), some (.cells 3 9 0 0 true 25 ⟨some [mU 63, mU 92, mU 152], (m1 (mN (T4.e 0) (mL [mU 99, mU 39, mU 61]) (mL [mU 168, mU 246, mU 169]) (T4.e 0)))⟩)]
  src := [(0, 0), (1, 0), (1, 1), (1, 2), (1, 3)]
  c := 0
  n := 0
  tot := 0
  res := .bool true
  out := (T4.e 5)
  sub := (T4.e 5)
  refs := []
noncomputable def rt26 : Memo2 where
  args := [.sl 16 4 0 4 4 false, .int .u16 (.ofNat 56898)]
  ins := [some (.cells 1 4 0 0 true 23 ⟨some [.sl 17 3 0 1 1 false], (m1 (mN (T4.e 0) (mL [.sl 18 12 0 4 4 false]) (mL [.sl 19 3 0 1 1 false]) (mL [.sl 20 6 0 2 2 false])))⟩), some (.cells 3 3 0 0 true 25 (mR [mU 1, mU 28, mU 173])), some (.cells 3 12 0 0 true 25 ⟨some [mU 16, mU 87, mU 95], (m1 (mN (T4.e 0) (mL [mU 188, mU 191, mU 220]) (mL [mU 213, mU 194, mU 163]) (mL [mU 102, mU 210, mU 250])))⟩), some (.cells 3 3 0 0 true 25 (mR [mU 129, mU 99, mU 210])), some (.cells 3 6 0 0 true 25 ⟨some [mU 66, mU 206, mU 165], (m1 (mN (T4.e 0) (mL [mU 146, mU 101, mU 181]) (T4.e 0) (T4.e 0)))⟩)]
  src := [(0, 0), (1, 0), (1, 1), (1, 2), (1, 3)]
  c := 0
  n := 0
  tot := 0
  res := .bool true
  out := (T4.e 5)
  sub := (T4.e 5)
  refs := []
noncomputable def rt27 : Memo2 where
  args := [.sl 16 4 0 4 4 false, .int .u16 (.ofNat 65446)]
  ins := [some (.cells 1 4 0 0 true 23 ⟨some [.sl 17 6 0 2 2 false], (m1 (mN (T4.e 0) (mL [.sl 18 12 0 4 4 false]) (mL [.sl 19 6 0 2 2 false]) (mL [.sl 20 9 0 3 3 false])))⟩), some (.cells 3 6 0 0 true 25 ⟨some [mU 66, mU 178, mU 190], (m1 (mN (T4.e 0) (mL [mU 54, mU 176, mU 19]) (T4.e 0) (T4.e 0)))⟩), some (.cells 3 12 0 0 true 25 ⟨some [mU 124, mU 184, mU 191], (m1 (mN (T4.e 0) (mL [mU 206, mU 165, mU 103]) (mL [mU 190, mU 49, mU 233]) (mL [mU 158, mU 188, mU 106])))⟩), some (.cells 3 6 0 0 true 25 ⟨some [mU 213, mU 80, mU 151], (m1 (mN (T4.e 0) (mL [mU 109, mU 12, mU 115]) (T4.e 0) (T4.e 0)))⟩), some (.cells 3 9 0 0 true 25 ⟨some [mU 191, mU 106, mU 154], (m1 (mN (T4.e 0) (mL [mU 156, mU 159, mU 188]) (mL [mU 120, mU 184, mU 134]) (T4.e 0)))⟩)]
  src := [(0, 0), (1, 0), (1, 1), (1, 2), (1, 3)]
  c := 0
  n := 0
  tot := 0
  res := .bool true
  out := (T4.e 5)
  sub := (T4.e 5)
  refs := []
noncomputable def rt28 : Memo2 where
  args := [.sl 16 4 0 4 4 false, .int .u16 (.ofNat 23793)]
  ins := [some (.cells 1 4 0 0 true 23 ⟨some [.sl 17 9 0 3 3 false], (m1 (mN (T4.e 0) (mL [.sl 18 9 0 3 3 false]) (mL [.sl 19 6 0 2 2 false]) (mL [.sl 20 12 0 4 4 false])))⟩), some (.cells 3 9 0 0 true 25 ⟨some [mU 166, mU 103, mU 39], (m1 (mN (T4.e 0) (mL [mU 105, mU 125, mU 99]) (mL [mU 170, mU 246, mU 112]) (T4.e 0)))⟩), some (.cells 3 9 0 0 true 25 ⟨some [mU 205, mU 136, mU 157], (m1 (mN (T4.e 0) (mL [mU 181, mU 20, mU 229]) (mL [mU 18, mU 87, mU 66]) (T4.e 0)))⟩), some (.cells 3 6 0 0 true 25 ⟨some [mU 157, mU 45, mU 61], (m1 (mN (T4.e 0) (mL [mU 96, mU 124, mU 13]) (T4.e 0) (T4.e 0)))⟩), some (.cells 3 12 0 0 true 25 ⟨some [mU 43, mU 147, mU 73], (m1 (mN (T4.e 0) (mL [mU 178, mU 105, mU 11]) (mL [mU 32, mU 60, mU 6]) (mL [mU 0, mU 85, mU 208])))⟩)]
  src := [(0, 0), (1, 0), (1, 1), (1, 2), (1, 3)]
  c := 0
  n := 0
  tot := 0
  res := .bool true
  out := (T4.e 5)
  sub := (T4.e 5)
  refs := []
noncomputable def rt29 : Memo2 where
  args := [.sl 16 4 0 4 4 false, .int .u16 (.ofNat 46314)]
  ins := [some (.cells 1 4 0 0 true 23 ⟨some [.sl 17 6 0 2 2 false], (m1 (mN (T4.e 0) (mL [.sl 18 6 0 2 2 false]) (mL [.sl 19 3 0 1 1 false]) (mL [.sl 20 6 0 2 2 false])))⟩), some (.cells 3 6 0 0 true 25 ⟨some [mU 241, mU 83, mU 37], (m1 (mN (T4.e 0) (mL [mU 197, mU 78, mU 207]) (T4.e 0) (T4.e 0)))⟩), some (.cells 3 6 0 0 true 25 ⟨some [mU 229, mU 25, mU 31], (m1 (mN (T4.e 0) (mL [mU 17, mU 1, mU 85]) (T4.e 0) (T4.e 0)))⟩), some (.cells 3 3 0 0 true 25 (mR [mU 219, mU 109, mU 182])), some (.cells 3 6 0 0 true 25 ⟨some [mU 18, mU 172, mU 218], (m1 (mN (T4.e 0) (mL [mU 216, mU 166, mU 160]) (T4.e 0) (T4.e 0)))⟩)]
  src := [(0, 0), (1, 0), (1, 1), (1, 2), (1, 3)]
  c := 0
  n := 0
  tot := 0
  res := .bool true
  out := (T4.e 5)
  sub := (T4.e 5)
  refs := []
noncomputable def run11_g0 : Bool := rk0 fnsC tab10 4 rt0
noncomputable def run11_g1 : Bool := rk0 fnsC tab10 4 rt1
noncomputable def run11_g2 : Bool := rk0 fnsC tab10 4 rt2
noncomputable def run11_g3 : Bool := rk0 fnsC tab10 4 rt3
noncomputable def run11_g4 : Bool := rk0 fnsC tab10 4 rt4
noncomputable def run11_g5 : Bool := rk0 fnsC tab10 4 rt5
noncomputable def run11_g6 : Bool := rk0 fnsC tab10 4 rt6
noncomputable def run11_g7 : Bool := rk0 fnsC tab10 4 rt7
noncomputable def run11_g8 : Bool := rk0 fnsC tab10 4 rt8
noncomputable def run11_g9 : Bool := rk0 fnsC tab10 4 rt9
noncomputable def run11_g10 : Bool := rk0 fnsC tab10 4 rt10
noncomputable def run11_g11 : Bool := rk0 fnsC tab10 4 rt11
noncomputable def run11_g12 : Bool := rk0 fnsC tab10 4 rt12
noncomputable def run11_g13 : Bool := rk0 fnsC tab10 4 rt13
noncomputable def run11_g14 : Bool := rk0 fnsC tab10 4 rt14
noncomputable def run11_g15 : Bool := rk0 fnsC tab10 4 rt15
noncomputable def run11_g16 : Bool := rk0 fnsC tab10 4 rt16
noncomputable def run11_g17 : Bool := rk0 fnsC tab10 4 rt17
noncomputable def run11_g18 : Bool := rk0 fnsC tab10 4 rt18
noncomputable def run11_g19 : Bool := rk0 fnsC tab10 4 rt19
noncomputable def run11_g20 : Bool := rk0 fnsC tab10 4 rt20
noncomputable def run11_g21 : Bool := rk0 fnsC tab10 4 rt21
noncomputable def run11_g22 : Bool := rk0 fnsC tab10 4 rt22
noncomputable def run11_g23 : Bool := rk0 fnsC tab10 4 rt23
noncomputable def run11_g24 : Bool := rk0 fnsC tab10 4 rt24
noncomputable def run11_g25 : Bool := rk0 fnsC tab10 4 rt25
noncomputable def run11_g26 : Bool := rk0 fnsC tab10 4 rt26
noncomputable def run11_g27 : Bool := rk0 fnsC tab10 4 rt27
noncomputable def run11_g28 : Bool := rk0 fnsC tab10 4 rt28
noncomputable def run11_g29 : Bool := rk0 fnsC tab10 4 rt29
noncomputable def tab11 : T4 FnD TD := T4.set TD 4 (memoD0 rt0 16 (memoD0 rt1 16 (memoD0 rt2 16 (memoD0 rt3 16 (memoD0 rt4 16 (memoD0 rt5 16 (memoD0 rt6 16 (memoD0 rt7 16 (memoD0 rt8 16 (memoD0 rt9 16 (memoD0 rt10 16 (memoD0 rt11 16 (memoD0 rt12 16 (memoD0 rt13 16 (memoD0 rt14 16 (memoD0 rt15 16 (memoD0 rt16 16 (memoD0 rt17 16 (memoD0 rt18 16 (memoD0 rt19 16 (memoD0 rt20 16 (memoD0 rt21 16 (memoD0 rt22 16 (memoD0 rt23 16 (memoD0 rt24 16 (memoD0 rt25 16 (memoD0 rt26 16 (memoD0 rt27 16 (memoD0 rt28 16 (memoD0 rt29 16 (failD))))))))))))))))))))))))))))))) tab10
/-- the function, with what is kept -/
noncomputable def runRoot : Bool := mkTblZ Tryz.prog [] (660, 420) 104 fnsR tab11 (fun t => runF t 60 3 [] hs isTrueK (fun _ _ => false))
end
end Go.Proofs.YtakohamjgilnpaaGreatDoor
