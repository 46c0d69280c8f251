/-
  The tables of functions, the kept calls and the start of the evaluator's runs: definitions alone.
-/
import Derived.Test.YtkadfophjfmknaaGreatDoorAbs4
import Derived.Test.YtkadfophjfmknaaGreatDoorProg
import Derived.KernelRfl
set_option linter.unusedVariables false
set_option linter.unusedSimpArgs false
namespace Go.Proofs.YtkadfophjfmknaaGreatDoor
open Go Go.Abs
set_option maxRecDepth 100000
noncomputable section
noncomputable def tru : Bool := true
noncomputable def gls : List Gl := [⟨8, [36, 43, 45], 658⟩, ⟨10, [63, 15, 63, 15, 61, 61], 792⟩]
noncomputable def hs : H := h0Of gls 16
/-- the functions by contract -/
noncomputable def tab0 : T4 FnD TD := T4.set TD 8 (itoaD) (T4.set TD 257 (bothD Lib.trimLeftS) (T4.set TD 24 (bothD Lib.trimS) (T4.set TD 299 (indexByteD .u8 256) (T4.set TD 195 (indexByteD .u8 256) (T4.set TD 311 (repeatD) (T4.set TD 23 (fieldsD 9) (T4.set TD 596 (growD 138 5) (T4.set TD 43 (stringD 138 5) (T4.set TD 92 (copyCheckD 138) (T4.set TD 216 (countD) (T4.set TD 25 (containsD) (T4.set TD 107 (indexD) (T4.set TD 56 (indexD) (T4.e TD))))))))))))))
/-- words.table() besides -/
noncomputable def tab1 : T4 FnD TD := T4.set TD 462 (mapD wordsMs wordsClock) tab0
noncomputable def failD : FnD := fun _ _ _ _ _ => false
noncomputable def fnsW : List FnE := [⟨462, Tryz.f462, false, 0⟩]
noncomputable def fnsL : List FnE := [⟨7, Tryz.f7, false, 0⟩, ⟨9, Tryz.f9, false, 0⟩, ⟨11, Tryz.f11, false, 0⟩, ⟨12, Tryz.f12, false, 0⟩, ⟨13, Tryz.f13, false, 0⟩, ⟨14, Tryz.f14, false, 0⟩, ⟨15, Tryz.f15, false, 0⟩, ⟨16, Tryz.f16, false, 0⟩, ⟨17, Tryz.f17, false, 0⟩, ⟨18, Tryz.f18, false, 0⟩, ⟨19, Tryz.f19, false, 0⟩, ⟨22, Tryz.f22, false, 0⟩, ⟨26, Tryz.f26, false, 0⟩, ⟨27, Tryz.f27, false, 0⟩, ⟨28, Tryz.f28, false, 0⟩, ⟨29, Tryz.f29, false, 0⟩, ⟨30, Tryz.f30, false, 0⟩, ⟨31, Tryz.f31, false, 0⟩, ⟨32, Tryz.f32, false, 0⟩, ⟨33, Tryz.f33, false, 0⟩, ⟨34, Tryz.f34, false, 0⟩, ⟨35, Tryz.f35, false, 0⟩, ⟨36, Tryz.f36, false, 0⟩, ⟨37, Tryz.f37, false, 0⟩, ⟨38, Tryz.f38, false, 0⟩, ⟨39, Tryz.f39, false, 0⟩, ⟨40, Tryz.f40, false, 0⟩, ⟨41, Tryz.f41, false, 0⟩, ⟨42, Tryz.f42, false, 0⟩, ⟨44, Tryz.f44, false, 0⟩, ⟨49, Tryz.f49, false, 0⟩, ⟨51, Tryz.f51, false, 0⟩, ⟨52, Tryz.f52, false, 0⟩, ⟨53, Tryz.f53, false, 0⟩, ⟨57, Tryz.f57, false, 0⟩, ⟨58, Tryz.f58, false, 0⟩, ⟨59, Tryz.f59, false, 0⟩, ⟨60, Tryz.f60, false, 0⟩, ⟨61, Tryz.f61, false, 0⟩, ⟨62, Tryz.f62, false, 0⟩, ⟨63, Tryz.f63, false, 0⟩, ⟨64, Tryz.f64, false, 0⟩, ⟨65, Tryz.f65, false, 0⟩, ⟨66, Tryz.f66, false, 0⟩, ⟨67, Tryz.f67, false, 0⟩, ⟨68, Tryz.f68, false, 0⟩, ⟨69, Tryz.f69, false, 1⟩, ⟨70, Tryz.f70, false, 0⟩, ⟨71, Tryz.f71, false, 0⟩, ⟨72, Tryz.f72, false, 0⟩, ⟨73, Tryz.f73, false, 0⟩, ⟨74, Tryz.f74, false, 0⟩, ⟨75, Tryz.f75, false, 0⟩, ⟨76, Tryz.f76, false, 0⟩, ⟨77, Tryz.f77, false, 0⟩, ⟨78, Tryz.f78, false, 0⟩, ⟨79, Tryz.f79, false, 0⟩, ⟨80, Tryz.f80, false, 0⟩, ⟨83, Tryz.f83, false, 0⟩, ⟨84, Tryz.f84, false, 0⟩, ⟨85, Tryz.f85, false, 0⟩, ⟨87, Tryz.f87, false, 0⟩, ⟨88, Tryz.f88, false, 0⟩, ⟨89, Tryz.f89, false, 0⟩, ⟨93, Tryz.f93, false, 0⟩, ⟨103, Tryz.f103, false, 0⟩, ⟨105, Tryz.f105, false, 0⟩, ⟨108, Tryz.f108, false, 0⟩, ⟨109, Tryz.f109, false, 0⟩, ⟨110, Tryz.f110, false, 0⟩, ⟨111, Tryz.f111, false, 0⟩, ⟨112, Tryz.f112, false, 0⟩, ⟨113, Tryz.f113, false, 0⟩, ⟨114, Tryz.f114, false, 0⟩, ⟨115, Tryz.f115, false, 0⟩, ⟨116, Tryz.f116, false, 0⟩, ⟨117, Tryz.f117, false, 0⟩, ⟨118, Tryz.f118, false, 0⟩, ⟨119, Tryz.f119, false, 0⟩, ⟨120, Tryz.f120, false, 0⟩, ⟨123, Tryz.f123, false, 0⟩, ⟨124, Tryz.f124, false, 0⟩, ⟨127, Tryz.f127, false, 0⟩, ⟨128, Tryz.f128, false, 0⟩, ⟨129, Tryz.f129, false, 0⟩, ⟨130, Tryz.f130, false, 0⟩, ⟨132, Tryz.f132, false, 0⟩, ⟨134, Tryz.f134, false, 0⟩, ⟨136, Tryz.f136, false, 0⟩, ⟨139, Tryz.f139, false, 0⟩, ⟨140, Tryz.f140, false, 0⟩, ⟨141, Tryz.f141, false, 0⟩, ⟨142, Tryz.f142, false, 0⟩, ⟨146, Tryz.f146, false, 0⟩, ⟨148, Tryz.f148, false, 0⟩, ⟨149, Tryz.f149, false, 0⟩, ⟨150, Tryz.f150, false, 0⟩, ⟨151, Tryz.f151, false, 0⟩, ⟨152, Tryz.f152, false, 0⟩, ⟨153, Tryz.f153, false, 0⟩, ⟨154, Tryz.f154, false, 2⟩, ⟨155, Tryz.f155, false, 0⟩, ⟨156, Tryz.f156, false, 0⟩, ⟨157, Tryz.f157, false, 0⟩, ⟨158, Tryz.f158, false, 0⟩, ⟨161, Tryz.f161, false, 0⟩, ⟨164, Tryz.f164, false, 0⟩, ⟨166, Tryz.f166, false, 0⟩, ⟨167, Tryz.f167, false, 0⟩, ⟨168, Tryz.f168, false, 0⟩, ⟨171, Tryz.f171, false, 0⟩, ⟨172, Tryz.f172, false, 0⟩, ⟨174, Tryz.f174, false, 0⟩, ⟨176, Tryz.f176, false, 0⟩, ⟨177, Tryz.f177, false, 0⟩, ⟨178, Tryz.f178, false, 0⟩, ⟨179, Tryz.f179, false, 0⟩, ⟨193, Tryz.f193, false, 0⟩, ⟨197, Tryz.f197, false, 0⟩, ⟨199, Tryz.f199, false, 0⟩, ⟨201, Tryz.f201, false, 0⟩, ⟨202, Tryz.f202, false, 0⟩, ⟨203, Tryz.f203, false, 0⟩, ⟨204, Tryz.f204, false, 0⟩, ⟨205, Tryz.f205, false, 0⟩, ⟨206, Tryz.f206, false, 0⟩, ⟨207, Tryz.f207, false, 0⟩, ⟨210, Tryz.f210, false, 0⟩, ⟨211, Tryz.f211, false, 0⟩, ⟨212, Tryz.f212, false, 0⟩, ⟨213, Tryz.f213, false, 0⟩, ⟨214, Tryz.f214, false, 0⟩, ⟨215, Tryz.f215, false, 0⟩, ⟨217, Tryz.f217, false, 0⟩, ⟨218, Tryz.f218, false, 0⟩, ⟨219, Tryz.f219, false, 0⟩, ⟨220, Tryz.f220, false, 0⟩, ⟨222, Tryz.f222, false, 0⟩, ⟨223, Tryz.f223, false, 0⟩, ⟨224, Tryz.f224, false, 0⟩, ⟨225, Tryz.f225, false, 0⟩, ⟨227, Tryz.f227, false, 0⟩, ⟨228, Tryz.f228, false, 0⟩, ⟨229, Tryz.f229, false, 0⟩, ⟨230, Tryz.f230, false, 0⟩, ⟨231, Tryz.f231, false, 0⟩, ⟨232, Tryz.f232, false, 0⟩, ⟨237, Tryz.f237, false, 0⟩, ⟨238, Tryz.f238, false, 0⟩, ⟨240, Tryz.f240, false, 0⟩, ⟨241, Tryz.f241, false, 2⟩, ⟨245, Tryz.f245, false, 0⟩, ⟨246, Tryz.f246, false, 0⟩, ⟨247, Tryz.f247, false, 0⟩, ⟨248, Tryz.f248, false, 0⟩, ⟨249, Tryz.f249, false, 0⟩, ⟨250, Tryz.f250, false, 0⟩, ⟨251, Tryz.f251, false, 0⟩, ⟨252, Tryz.f252, false, 0⟩, ⟨253, Tryz.f253, false, 0⟩, ⟨254, Tryz.f254, false, 0⟩, ⟨255, Tryz.f255, false, 0⟩, ⟨256, Tryz.f256, false, 0⟩, ⟨258, Tryz.f258, false, 0⟩, ⟨259, Tryz.f259, false, 0⟩, ⟨261, Tryz.f261, false, 0⟩, ⟨264, Tryz.f264, false, 0⟩, ⟨270, Tryz.f270, false, 0⟩, ⟨271, Tryz.f271, false, 0⟩, ⟨272, Tryz.f272, false, 0⟩, ⟨273, Tryz.f273, false, 0⟩, ⟨274, Tryz.f274, false, 0⟩, ⟨275, Tryz.f275, false, 0⟩, ⟨276, Tryz.f276, false, 0⟩, ⟨279, Tryz.f279, false, 0⟩, ⟨280, Tryz.f280, false, 0⟩, ⟨282, Tryz.f282, false, 0⟩, ⟨283, Tryz.f283, false, 0⟩, ⟨284, Tryz.f284, false, 0⟩, ⟨289, Tryz.f289, false, 0⟩, ⟨290, Tryz.f290, false, 0⟩, ⟨303, Tryz.f303, false, 0⟩, ⟨304, Tryz.f304, false, 0⟩, ⟨305, Tryz.f305, false, 0⟩, ⟨306, Tryz.f306, false, 0⟩, ⟨307, Tryz.f307, false, 0⟩, ⟨308, Tryz.f308, false, 0⟩, ⟨309, Tryz.f309, false, 0⟩, ⟨310, Tryz.f310, false, 0⟩, ⟨312, Tryz.f312, false, 0⟩, ⟨313, Tryz.f313, false, 0⟩, ⟨314, Tryz.f314, false, 0⟩, ⟨315, Tryz.f315, false, 0⟩, ⟨317, Tryz.f317, false, 0⟩, ⟨318, Tryz.f318, false, 0⟩, ⟨319, Tryz.f319, false, 0⟩, ⟨320, Tryz.f320, false, 0⟩, ⟨321, Tryz.f321, false, 0⟩, ⟨322, Tryz.f322, false, 0⟩, ⟨326, Tryz.f326, false, 0⟩, ⟨327, Tryz.f327, false, 0⟩, ⟨328, Tryz.f328, false, 2⟩, ⟨329, Tryz.f329, false, 0⟩, ⟨330, Tryz.f330, false, 0⟩, ⟨331, Tryz.f331, false, 0⟩, ⟨332, Tryz.f332, false, 0⟩, ⟨333, Tryz.f333, false, 0⟩, ⟨334, Tryz.f334, false, 0⟩, ⟨335, Tryz.f335, false, 0⟩, ⟨336, Tryz.f336, false, 0⟩, ⟨337, Tryz.f337, false, 0⟩, ⟨338, Tryz.f338, false, 0⟩, ⟨339, Tryz.f339, false, 0⟩, ⟨340, Tryz.f340, false, 0⟩, ⟨341, Tryz.f341, false, 0⟩, ⟨343, Tryz.f343, false, 0⟩, ⟨344, Tryz.f344, false, 0⟩, ⟨348, Tryz.f348, false, 0⟩, ⟨349, Tryz.f349, false, 0⟩, ⟨350, Tryz.f350, false, 0⟩, ⟨351, Tryz.f351, false, 0⟩, ⟨352, Tryz.f352, false, 0⟩, ⟨354, Tryz.f354, false, 0⟩, ⟨377, Tryz.f377, false, 0⟩, ⟨378, Tryz.f378, false, 0⟩, ⟨379, Tryz.f379, false, 0⟩, ⟨381, Tryz.f381, false, 0⟩, ⟨382, Tryz.f382, false, 0⟩, ⟨383, Tryz.f383, false, 2⟩, ⟨384, Tryz.f384, false, 0⟩, ⟨385, Tryz.f385, false, 0⟩, ⟨392, Tryz.f392, false, 0⟩, ⟨394, Tryz.f394, false, 0⟩, ⟨396, Tryz.f396, false, 0⟩, ⟨397, Tryz.f397, false, 0⟩, ⟨398, Tryz.f398, false, 0⟩, ⟨399, Tryz.f399, false, 0⟩, ⟨400, Tryz.f400, false, 0⟩, ⟨402, Tryz.f402, false, 0⟩, ⟨407, Tryz.f407, false, 0⟩, ⟨408, Tryz.f408, false, 0⟩, ⟨413, Tryz.f413, false, 0⟩, ⟨415, Tryz.f415, false, 0⟩, ⟨416, Tryz.f416, false, 0⟩, ⟨417, Tryz.f417, false, 0⟩, ⟨418, Tryz.f418, false, 0⟩, ⟨421, Tryz.f421, false, 0⟩, ⟨423, Tryz.f423, false, 0⟩, ⟨424, Tryz.f424, false, 0⟩, ⟨430, Tryz.f430, false, 0⟩, ⟨433, Tryz.f433, false, 0⟩, ⟨434, Tryz.f434, false, 0⟩, ⟨435, Tryz.f435, false, 0⟩, ⟨436, Tryz.f436, false, 0⟩, ⟨438, Tryz.f438, false, 0⟩, ⟨439, Tryz.f439, false, 0⟩, ⟨440, Tryz.f440, false, 0⟩, ⟨441, Tryz.f441, false, 0⟩, ⟨444, Tryz.f444, false, 0⟩, ⟨445, Tryz.f445, false, 0⟩, ⟨447, Tryz.f447, false, 0⟩, ⟨448, Tryz.f448, false, 0⟩, ⟨449, Tryz.f449, false, 0⟩, ⟨450, Tryz.f450, false, 0⟩, ⟨451, Tryz.f451, false, 0⟩, ⟨457, Tryz.f457, false, 0⟩, ⟨458, Tryz.f458, false, 0⟩, ⟨459, Tryz.f459, false, 0⟩, ⟨460, Tryz.f460, false, 0⟩, ⟨461, Tryz.f461, false, 0⟩, ⟨463, Tryz.f463, false, 0⟩, ⟨464, Tryz.f464, false, 0⟩, ⟨465, Tryz.f465, false, 0⟩, ⟨466, Tryz.f466, false, 0⟩, ⟨467, Tryz.f467, false, 0⟩, ⟨469, Tryz.f469, false, 0⟩, ⟨472, Tryz.f472, false, 0⟩, ⟨474, Tryz.f474, false, 0⟩, ⟨475, Tryz.f475, false, 0⟩, ⟨476, Tryz.f476, false, 0⟩, ⟨477, Tryz.f477, false, 0⟩, ⟨478, Tryz.f478, false, 0⟩, ⟨479, Tryz.f479, false, 0⟩, ⟨480, Tryz.f480, false, 0⟩, ⟨481, Tryz.f481, false, 0⟩, ⟨490, Tryz.f490, false, 0⟩, ⟨491, Tryz.f491, false, 0⟩, ⟨492, Tryz.f492, false, 0⟩, ⟨498, Tryz.f498, false, 0⟩, ⟨501, Tryz.f501, false, 0⟩, ⟨502, Tryz.f502, false, 0⟩, ⟨503, Tryz.f503, false, 0⟩, ⟨509, Tryz.f509, false, 0⟩, ⟨511, Tryz.f511, false, 0⟩, ⟨520, Tryz.f520, false, 0⟩, ⟨525, Tryz.f525, false, 0⟩, ⟨526, Tryz.f526, false, 0⟩, ⟨528, Tryz.f528, false, 0⟩, ⟨529, Tryz.f529, false, 0⟩, ⟨533, Tryz.f533, false, 0⟩, ⟨534, Tryz.f534, false, 0⟩, ⟨535, Tryz.f535, false, 0⟩, ⟨537, Tryz.f537, false, 0⟩, ⟨561, Tryz.f561, false, 0⟩, ⟨563, Tryz.f563, false, 0⟩, ⟨564, Tryz.f564, false, 0⟩, ⟨565, Tryz.f565, false, 0⟩, ⟨566, Tryz.f566, false, 0⟩, ⟨567, Tryz.f567, false, 0⟩, ⟨568, Tryz.f568, false, 0⟩, ⟨569, Tryz.f569, false, 0⟩, ⟨570, Tryz.f570, false, 0⟩, ⟨571, Tryz.f571, false, 0⟩, ⟨574, Tryz.f574, false, 0⟩, ⟨575, Tryz.f575, false, 0⟩, ⟨579, Tryz.f579, false, 0⟩, ⟨580, Tryz.f580, false, 0⟩, ⟨581, Tryz.f581, false, 0⟩, ⟨582, Tryz.f582, false, 0⟩, ⟨586, Tryz.f586, false, 0⟩, ⟨587, Tryz.f587, false, 0⟩, ⟨588, Tryz.f588, false, 0⟩, ⟨589, Tryz.f589, false, 0⟩, ⟨590, Tryz.f590, false, 0⟩, ⟨591, Tryz.f591, false, 0⟩, ⟨592, Tryz.f592, false, 0⟩, ⟨593, Tryz.f593, false, 0⟩, ⟨594, Tryz.f594, false, 0⟩, ⟨595, Tryz.f595, false, 0⟩, ⟨597, Tryz.f597, false, 0⟩, ⟨598, Tryz.f598, false, 0⟩, ⟨600, Tryz.f600, false, 0⟩, ⟨603, Tryz.f603, false, 0⟩, ⟨607, Tryz.f607, false, 0⟩, ⟨628, Tryz.f628, false, 0⟩, ⟨635, Tryz.f635, false, 0⟩, ⟨636, Tryz.f636, false, 0⟩, ⟨641, Tryz.f641, false, 0⟩, ⟨652, Tryz.f652, false, 0⟩, ⟨674, Tryz.f674, false, 0⟩, ⟨676, Tryz.f676, false, 0⟩, ⟨677, Tryz.f677, false, 0⟩, ⟨678, Tryz.f678, false, 0⟩, ⟨679, Tryz.f679, false, 0⟩, ⟨680, Tryz.f680, false, 0⟩, ⟨685, Tryz.f685, false, 0⟩, ⟨686, Tryz.f686, false, 0⟩, ⟨688, Tryz.f688, false, 0⟩, ⟨690, Tryz.f690, false, 0⟩, ⟨691, Tryz.f691, false, 0⟩, ⟨693, Tryz.f693, false, 0⟩, ⟨696, Tryz.f696, false, 0⟩, ⟨697, Tryz.f697, false, 0⟩, ⟨720, Tryz.f720, false, 0⟩, ⟨731, Tryz.f731, false, 0⟩, ⟨732, Tryz.f732, false, 0⟩, ⟨734, Tryz.f734, false, 0⟩, ⟨737, Tryz.f737, false, 0⟩, ⟨738, Tryz.f738, false, 0⟩, ⟨739, Tryz.f739, false, 0⟩, ⟨741, Tryz.f741, false, 0⟩, ⟨742, Tryz.f742, false, 0⟩, ⟨744, Tryz.f744, false, 0⟩, ⟨747, Tryz.f747, false, 0⟩, ⟨748, Tryz.f748, false, 0⟩, ⟨763, Tryz.f763, false, 0⟩, ⟨764, Tryz.f764, false, 0⟩, ⟨765, Tryz.f765, false, 0⟩, ⟨768, Tryz.f768, false, 0⟩, ⟨769, Tryz.f769, false, 0⟩, ⟨776, Tryz.f776, false, 0⟩, ⟨777, Tryz.f777, false, 0⟩, ⟨784, Tryz.f784, false, 0⟩, ⟨785, Tryz.f785, false, 0⟩, ⟨787, Tryz.f787, false, 0⟩]
noncomputable def fnsA : List FnE := [⟨34, Tryz.f34, false, 0⟩, ⟨40, Tryz.f40, false, 0⟩, ⟨41, Tryz.f41, false, 0⟩, ⟨42, Tryz.f42, false, 0⟩, ⟨44, Tryz.f44, false, 0⟩, ⟨51, Tryz.f51, false, 0⟩, ⟨53, Tryz.f53, false, 0⟩, ⟨93, Tryz.f93, false, 0⟩, ⟨94, Tryz.f94, false, 0⟩, ⟨95, Tryz.f95, false, 0⟩, ⟨103, Tryz.f103, false, 0⟩, ⟨105, Tryz.f105, false, 0⟩, ⟨111, Tryz.f111, false, 0⟩, ⟨112, Tryz.f112, false, 0⟩, ⟨116, Tryz.f116, false, 0⟩, ⟨117, Tryz.f117, false, 0⟩, ⟨119, Tryz.f119, false, 0⟩, ⟨130, Tryz.f130, false, 0⟩, ⟨134, Tryz.f134, false, 0⟩, ⟨153, Tryz.f153, false, 0⟩, ⟨157, Tryz.f157, false, 0⟩, ⟨158, Tryz.f158, false, 0⟩, ⟨161, Tryz.f161, false, 0⟩, ⟨164, Tryz.f164, false, 0⟩, ⟨167, Tryz.f167, false, 0⟩, ⟨176, Tryz.f176, false, 0⟩, ⟨181, Tryz.f181, false, 0⟩, ⟨182, Tryz.f182, false, 0⟩, ⟨183, Tryz.f183, false, 0⟩, ⟨193, Tryz.f193, false, 0⟩, ⟨197, Tryz.f197, false, 0⟩, ⟨212, Tryz.f212, false, 0⟩, ⟨213, Tryz.f213, false, 0⟩, ⟨214, Tryz.f214, false, 0⟩, ⟨215, Tryz.f215, false, 0⟩, ⟨217, Tryz.f217, false, 0⟩, ⟨218, Tryz.f218, false, 0⟩, ⟨219, Tryz.f219, false, 0⟩, ⟨220, Tryz.f220, false, 0⟩, ⟨228, Tryz.f228, false, 0⟩, ⟨229, Tryz.f229, false, 0⟩, ⟨230, Tryz.f230, false, 0⟩, ⟨231, Tryz.f231, false, 0⟩, ⟨232, Tryz.f232, false, 0⟩, ⟨238, Tryz.f238, false, 0⟩, ⟨254, Tryz.f254, false, 0⟩, ⟨255, Tryz.f255, false, 0⟩, ⟨256, Tryz.f256, false, 0⟩, ⟨258, Tryz.f258, false, 0⟩, ⟨259, Tryz.f259, false, 0⟩, ⟨261, Tryz.f261, false, 0⟩, ⟨262, Tryz.f262, false, 0⟩, ⟨263, Tryz.f263, false, 0⟩, ⟨264, Tryz.f264, false, 0⟩, ⟨268, Tryz.f268, false, 0⟩, ⟨269, Tryz.f269, false, 0⟩, ⟨273, Tryz.f273, false, 0⟩, ⟨274, Tryz.f274, false, 0⟩, ⟨279, Tryz.f279, false, 0⟩, ⟨280, Tryz.f280, false, 0⟩, ⟨282, Tryz.f282, false, 0⟩, ⟨283, Tryz.f283, false, 0⟩, ⟨284, Tryz.f284, false, 0⟩, ⟨304, Tryz.f304, false, 0⟩, ⟨309, Tryz.f309, false, 0⟩, ⟨310, Tryz.f310, false, 0⟩, ⟨312, Tryz.f312, false, 0⟩, ⟨313, Tryz.f313, false, 0⟩, ⟨314, Tryz.f314, false, 0⟩, ⟨315, Tryz.f315, false, 0⟩, ⟨317, Tryz.f317, false, 0⟩, ⟨318, Tryz.f318, false, 0⟩, ⟨319, Tryz.f319, false, 0⟩, ⟨320, Tryz.f320, false, 0⟩, ⟨321, Tryz.f321, false, 0⟩, ⟨322, Tryz.f322, false, 0⟩, ⟨337, Tryz.f337, false, 0⟩, ⟨343, Tryz.f343, false, 0⟩, ⟨344, Tryz.f344, false, 0⟩, ⟨348, Tryz.f348, false, 0⟩, ⟨349, Tryz.f349, false, 0⟩, ⟨350, Tryz.f350, false, 0⟩, ⟨351, Tryz.f351, false, 0⟩, ⟨352, Tryz.f352, false, 0⟩, ⟨354, Tryz.f354, false, 0⟩, ⟨378, Tryz.f378, false, 0⟩, ⟨379, Tryz.f379, false, 0⟩, ⟨384, Tryz.f384, false, 0⟩, ⟨385, Tryz.f385, false, 0⟩, ⟨387, Tryz.f387, false, 0⟩, ⟨394, Tryz.f394, false, 0⟩, ⟨396, Tryz.f396, false, 0⟩, ⟨397, Tryz.f397, false, 0⟩, ⟨398, Tryz.f398, false, 0⟩, ⟨399, Tryz.f399, false, 0⟩, ⟨400, Tryz.f400, false, 0⟩, ⟨401, Tryz.f401, false, 0⟩, ⟨402, Tryz.f402, false, 0⟩, ⟨406, Tryz.f406, false, 0⟩, ⟨407, Tryz.f407, false, 0⟩, ⟨408, Tryz.f408, false, 0⟩, ⟨411, Tryz.f411, false, 0⟩, ⟨412, Tryz.f412, false, 0⟩, ⟨413, Tryz.f413, false, 0⟩, ⟨415, Tryz.f415, false, 0⟩, ⟨416, Tryz.f416, false, 0⟩, ⟨417, Tryz.f417, false, 0⟩, ⟨418, Tryz.f418, false, 0⟩, ⟨421, Tryz.f421, false, 0⟩, ⟨423, Tryz.f423, false, 0⟩, ⟨424, Tryz.f424, false, 0⟩, ⟨430, Tryz.f430, false, 0⟩, ⟨431, Tryz.f431, false, 0⟩, ⟨432, Tryz.f432, false, 0⟩, ⟨436, Tryz.f436, false, 0⟩, ⟨438, Tryz.f438, false, 0⟩, ⟨440, Tryz.f440, false, 0⟩, ⟨445, Tryz.f445, false, 0⟩, ⟨447, Tryz.f447, false, 0⟩, ⟨448, Tryz.f448, false, 0⟩, ⟨449, Tryz.f449, false, 0⟩, ⟨450, Tryz.f450, false, 0⟩, ⟨451, Tryz.f451, false, 0⟩, ⟨457, Tryz.f457, false, 0⟩, ⟨459, Tryz.f459, false, 0⟩, ⟨463, Tryz.f463, false, 0⟩, ⟨464, Tryz.f464, false, 0⟩, ⟨466, Tryz.f466, false, 0⟩, ⟨467, Tryz.f467, false, 0⟩, ⟨469, Tryz.f469, false, 0⟩, ⟨472, Tryz.f472, false, 0⟩, ⟨474, Tryz.f474, false, 0⟩, ⟨475, Tryz.f475, false, 0⟩, ⟨481, Tryz.f481, false, 0⟩, ⟨490, Tryz.f490, false, 0⟩, ⟨491, Tryz.f491, false, 0⟩, ⟨492, Tryz.f492, false, 0⟩, ⟨498, Tryz.f498, false, 0⟩, ⟨502, Tryz.f502, false, 0⟩, ⟨503, Tryz.f503, false, 0⟩, ⟨504, Tryz.f504, false, 0⟩, ⟨509, Tryz.f509, false, 0⟩, ⟨511, Tryz.f511, false, 0⟩, ⟨515, Tryz.f515, false, 0⟩, ⟨517, Tryz.f517, false, 0⟩, ⟨520, Tryz.f520, false, 0⟩, ⟨525, Tryz.f525, false, 0⟩, ⟨526, Tryz.f526, false, 0⟩, ⟨528, Tryz.f528, false, 0⟩, ⟨529, Tryz.f529, false, 0⟩, ⟨533, Tryz.f533, false, 0⟩, ⟨534, Tryz.f534, false, 0⟩, ⟨535, Tryz.f535, false, 0⟩, ⟨537, Tryz.f537, false, 0⟩, ⟨561, Tryz.f561, false, 0⟩, ⟨567, Tryz.f567, false, 0⟩, ⟨568, Tryz.f568, false, 0⟩, ⟨569, Tryz.f569, false, 0⟩, ⟨570, Tryz.f570, false, 0⟩, ⟨579, Tryz.f579, false, 0⟩, ⟨580, Tryz.f580, false, 0⟩, ⟨582, Tryz.f582, false, 0⟩, ⟨586, Tryz.f586, false, 0⟩, ⟨587, Tryz.f587, false, 0⟩, ⟨588, Tryz.f588, false, 0⟩, ⟨589, Tryz.f589, false, 0⟩, ⟨590, Tryz.f590, false, 0⟩, ⟨591, Tryz.f591, false, 0⟩, ⟨592, Tryz.f592, false, 0⟩, ⟨593, Tryz.f593, false, 0⟩, ⟨594, Tryz.f594, false, 0⟩, ⟨595, Tryz.f595, false, 0⟩, ⟨597, Tryz.f597, false, 0⟩, ⟨598, Tryz.f598, false, 0⟩, ⟨603, Tryz.f603, false, 0⟩, ⟨628, Tryz.f628, false, 0⟩, ⟨635, Tryz.f635, false, 0⟩, ⟨636, Tryz.f636, false, 0⟩, ⟨641, Tryz.f641, false, 0⟩, ⟨652, Tryz.f652, false, 0⟩, ⟨674, Tryz.f674, false, 0⟩, ⟨676, Tryz.f676, false, 0⟩, ⟨690, Tryz.f690, false, 0⟩, ⟨691, Tryz.f691, false, 0⟩, ⟨693, Tryz.f693, false, 0⟩, ⟨696, Tryz.f696, false, 0⟩, ⟨697, Tryz.f697, false, 0⟩, ⟨720, Tryz.f720, false, 0⟩, ⟨731, Tryz.f731, false, 0⟩, ⟨732, Tryz.f732, false, 0⟩, ⟨744, Tryz.f744, false, 0⟩, ⟨747, Tryz.f747, false, 0⟩, ⟨748, Tryz.f748, false, 0⟩, ⟨768, Tryz.f768, false, 0⟩, ⟨769, Tryz.f769, false, 0⟩, ⟨776, Tryz.f776, false, 0⟩, ⟨777, Tryz.f777, false, 0⟩, ⟨784, Tryz.f784, false, 0⟩, ⟨785, Tryz.f785, false, 0⟩, ⟨787, Tryz.f787, false, 0⟩]
noncomputable def fnsD : List FnE := [⟨22, Tryz.f22, false, 0⟩]
noncomputable def fnsB : List FnE := [⟨26, Tryz.f26, false, 0⟩, ⟨40, Tryz.f40, false, 0⟩, ⟨42, Tryz.f42, false, 0⟩, ⟨51, Tryz.f51, false, 0⟩, ⟨53, Tryz.f53, false, 0⟩, ⟨57, Tryz.f57, false, 0⟩, ⟨58, Tryz.f58, false, 0⟩, ⟨59, Tryz.f59, false, 0⟩, ⟨60, Tryz.f60, false, 0⟩, ⟨61, Tryz.f61, false, 0⟩, ⟨62, Tryz.f62, false, 0⟩, ⟨63, Tryz.f63, false, 0⟩, ⟨64, Tryz.f64, false, 0⟩, ⟨65, Tryz.f65, false, 0⟩, ⟨103, Tryz.f103, false, 0⟩, ⟨105, Tryz.f105, false, 0⟩, ⟨108, Tryz.f108, false, 0⟩, ⟨109, Tryz.f109, false, 0⟩, ⟨110, Tryz.f110, false, 0⟩, ⟨111, Tryz.f111, false, 0⟩, ⟨112, Tryz.f112, false, 0⟩, ⟨113, Tryz.f113, false, 0⟩, ⟨114, Tryz.f114, false, 0⟩, ⟨115, Tryz.f115, false, 0⟩, ⟨116, Tryz.f116, false, 0⟩, ⟨117, Tryz.f117, false, 0⟩, ⟨118, Tryz.f118, false, 0⟩, ⟨119, Tryz.f119, false, 0⟩, ⟨120, Tryz.f120, false, 0⟩, ⟨123, Tryz.f123, false, 0⟩, ⟨124, Tryz.f124, false, 0⟩, ⟨127, Tryz.f127, false, 0⟩, ⟨128, Tryz.f128, false, 0⟩, ⟨129, Tryz.f129, false, 0⟩, ⟨130, Tryz.f130, false, 0⟩, ⟨132, Tryz.f132, false, 0⟩, ⟨134, Tryz.f134, false, 0⟩, ⟨157, Tryz.f157, false, 0⟩, ⟨158, Tryz.f158, false, 0⟩, ⟨193, Tryz.f193, false, 0⟩, ⟨197, Tryz.f197, false, 0⟩, ⟨199, Tryz.f199, false, 0⟩, ⟨201, Tryz.f201, false, 0⟩, ⟨202, Tryz.f202, false, 0⟩, ⟨203, Tryz.f203, false, 0⟩, ⟨204, Tryz.f204, false, 0⟩, ⟨205, Tryz.f205, false, 0⟩, ⟨206, Tryz.f206, false, 0⟩, ⟨207, Tryz.f207, false, 0⟩, ⟨210, Tryz.f210, false, 0⟩, ⟨211, Tryz.f211, false, 0⟩, ⟨212, Tryz.f212, false, 0⟩, ⟨213, Tryz.f213, false, 0⟩, ⟨214, Tryz.f214, false, 0⟩, ⟨215, Tryz.f215, false, 0⟩, ⟨217, Tryz.f217, false, 0⟩, ⟨218, Tryz.f218, false, 0⟩, ⟨219, Tryz.f219, false, 0⟩, ⟨220, Tryz.f220, false, 0⟩, ⟨255, Tryz.f255, false, 0⟩, ⟨256, Tryz.f256, false, 0⟩, ⟨258, Tryz.f258, false, 0⟩, ⟨259, Tryz.f259, false, 0⟩, ⟨303, Tryz.f303, false, 0⟩, ⟨304, Tryz.f304, false, 0⟩, ⟨305, Tryz.f305, false, 0⟩, ⟨306, Tryz.f306, false, 0⟩, ⟨307, Tryz.f307, false, 0⟩, ⟨308, Tryz.f308, false, 0⟩, ⟨309, Tryz.f309, false, 0⟩, ⟨310, Tryz.f310, false, 0⟩, ⟨312, Tryz.f312, false, 0⟩, ⟨313, Tryz.f313, false, 0⟩, ⟨314, Tryz.f314, false, 0⟩, ⟨315, Tryz.f315, false, 0⟩, ⟨317, Tryz.f317, false, 0⟩, ⟨318, Tryz.f318, false, 0⟩, ⟨319, Tryz.f319, false, 0⟩, ⟨320, Tryz.f320, false, 0⟩, ⟨321, Tryz.f321, false, 0⟩, ⟨322, Tryz.f322, false, 0⟩, ⟨394, Tryz.f394, false, 0⟩, ⟨397, Tryz.f397, false, 0⟩, ⟨398, Tryz.f398, false, 0⟩, ⟨399, Tryz.f399, false, 0⟩, ⟨400, Tryz.f400, false, 0⟩, ⟨457, Tryz.f457, false, 0⟩, ⟨458, Tryz.f458, false, 0⟩, ⟨459, Tryz.f459, false, 0⟩, ⟨460, Tryz.f460, false, 0⟩, ⟨461, Tryz.f461, false, 0⟩, ⟨463, Tryz.f463, false, 0⟩, ⟨464, Tryz.f464, false, 0⟩, ⟨466, Tryz.f466, false, 0⟩, ⟨467, Tryz.f467, false, 0⟩, ⟨469, Tryz.f469, false, 0⟩, ⟨472, Tryz.f472, false, 0⟩, ⟨474, Tryz.f474, false, 0⟩, ⟨475, Tryz.f475, false, 0⟩, ⟨509, Tryz.f509, false, 0⟩, ⟨511, Tryz.f511, false, 0⟩, ⟨595, Tryz.f595, false, 0⟩, ⟨597, Tryz.f597, false, 0⟩, ⟨598, Tryz.f598, false, 0⟩, ⟨693, Tryz.f693, false, 0⟩]
noncomputable def fnsO : List FnE := [⟨5, Tryz.f5, false, 0⟩, ⟨10, Tryz.f10, false, 0⟩, ⟨11, Tryz.f11, false, 0⟩, ⟨12, Tryz.f12, false, 0⟩, ⟨13, Tryz.f13, false, 0⟩, ⟨14, Tryz.f14, false, 0⟩, ⟨15, Tryz.f15, false, 0⟩, ⟨16, Tryz.f16, false, 0⟩, ⟨20, Tryz.f20, false, 0⟩, ⟨21, Tryz.f21, false, 0⟩, ⟨27, Tryz.f27, false, 0⟩, ⟨28, Tryz.f28, false, 0⟩, ⟨29, Tryz.f29, false, 0⟩, ⟨30, Tryz.f30, false, 0⟩, ⟨31, Tryz.f31, false, 0⟩, ⟨32, Tryz.f32, false, 0⟩, ⟨33, Tryz.f33, false, 0⟩, ⟨34, Tryz.f34, false, 0⟩, ⟨35, Tryz.f35, false, 0⟩, ⟨36, Tryz.f36, false, 0⟩, ⟨37, Tryz.f37, false, 0⟩, ⟨38, Tryz.f38, false, 0⟩, ⟨39, Tryz.f39, false, 0⟩, ⟨40, Tryz.f40, false, 0⟩, ⟨41, Tryz.f41, false, 0⟩, ⟨42, Tryz.f42, false, 0⟩, ⟨44, Tryz.f44, false, 0⟩, ⟨45, Tryz.f45, false, 0⟩, ⟨46, Tryz.f46, false, 0⟩, ⟨51, Tryz.f51, false, 0⟩, ⟨53, Tryz.f53, false, 0⟩, ⟨66, Tryz.f66, false, 0⟩, ⟨67, Tryz.f67, false, 0⟩, ⟨68, Tryz.f68, false, 0⟩, ⟨69, Tryz.f69, false, 1⟩, ⟨70, Tryz.f70, false, 0⟩, ⟨71, Tryz.f71, false, 0⟩, ⟨72, Tryz.f72, false, 0⟩, ⟨73, Tryz.f73, false, 0⟩, ⟨74, Tryz.f74, false, 0⟩, ⟨75, Tryz.f75, false, 0⟩, ⟨76, Tryz.f76, false, 0⟩, ⟨77, Tryz.f77, false, 0⟩, ⟨78, Tryz.f78, false, 0⟩, ⟨79, Tryz.f79, false, 0⟩, ⟨80, Tryz.f80, false, 0⟩, ⟨82, Tryz.f82, false, 0⟩, ⟨83, Tryz.f83, false, 0⟩, ⟨84, Tryz.f84, false, 0⟩, ⟨85, Tryz.f85, false, 0⟩, ⟨87, Tryz.f87, false, 0⟩, ⟨88, Tryz.f88, false, 0⟩, ⟨89, Tryz.f89, false, 0⟩, ⟨90, Tryz.f90, false, 0⟩, ⟨91, Tryz.f91, false, 0⟩, ⟨93, Tryz.f93, false, 0⟩, ⟨94, Tryz.f94, false, 0⟩, ⟨95, Tryz.f95, false, 0⟩, ⟨97, Tryz.f97, false, 0⟩, ⟨98, Tryz.f98, false, 0⟩, ⟨99, Tryz.f99, false, 0⟩, ⟨100, Tryz.f100, false, 0⟩, ⟨101, Tryz.f101, false, 0⟩, ⟨103, Tryz.f103, false, 0⟩, ⟨105, Tryz.f105, false, 0⟩, ⟨111, Tryz.f111, false, 0⟩, ⟨112, Tryz.f112, false, 0⟩, ⟨116, Tryz.f116, false, 0⟩, ⟨117, Tryz.f117, false, 0⟩, ⟨119, Tryz.f119, false, 0⟩, ⟨130, Tryz.f130, false, 0⟩, ⟨134, Tryz.f134, false, 0⟩, ⟨136, Tryz.f136, false, 0⟩, ⟨138, Tryz.f138, false, 0⟩, ⟨139, Tryz.f139, false, 0⟩, ⟨140, Tryz.f140, false, 0⟩, ⟨141, Tryz.f141, false, 0⟩, ⟨142, Tryz.f142, false, 0⟩, ⟨146, Tryz.f146, false, 0⟩, ⟨148, Tryz.f148, false, 0⟩, ⟨149, Tryz.f149, false, 0⟩, ⟨150, Tryz.f150, false, 0⟩, ⟨151, Tryz.f151, false, 0⟩, ⟨152, Tryz.f152, false, 0⟩, ⟨153, Tryz.f153, false, 0⟩, ⟨154, Tryz.f154, false, 2⟩, ⟨155, Tryz.f155, false, 0⟩, ⟨156, Tryz.f156, false, 0⟩, ⟨157, Tryz.f157, false, 0⟩, ⟨158, Tryz.f158, false, 0⟩, ⟨161, Tryz.f161, false, 0⟩, ⟨162, Tryz.f162, false, 0⟩, ⟨163, Tryz.f163, false, 0⟩, ⟨164, Tryz.f164, false, 0⟩, ⟨165, Tryz.f165, false, 0⟩, ⟨166, Tryz.f166, false, 0⟩, ⟨167, Tryz.f167, false, 0⟩, ⟨168, Tryz.f168, false, 0⟩, ⟨171, Tryz.f171, false, 0⟩, ⟨172, Tryz.f172, false, 0⟩, ⟨174, Tryz.f174, false, 0⟩, ⟨175, Tryz.f175, false, 0⟩, ⟨176, Tryz.f176, false, 0⟩, ⟨177, Tryz.f177, false, 0⟩, ⟨178, Tryz.f178, false, 0⟩, ⟨179, Tryz.f179, false, 0⟩, ⟨181, Tryz.f181, false, 0⟩, ⟨182, Tryz.f182, false, 0⟩, ⟨183, Tryz.f183, false, 0⟩, ⟨186, Tryz.f186, false, 0⟩, ⟨187, Tryz.f187, false, 0⟩, ⟨188, Tryz.f188, false, 0⟩, ⟨189, Tryz.f189, false, 0⟩, ⟨193, Tryz.f193, false, 0⟩, ⟨197, Tryz.f197, false, 0⟩, ⟨212, Tryz.f212, false, 0⟩, ⟨213, Tryz.f213, false, 0⟩, ⟨214, Tryz.f214, false, 0⟩, ⟨215, Tryz.f215, false, 0⟩, ⟨217, Tryz.f217, false, 0⟩, ⟨218, Tryz.f218, false, 0⟩, ⟨219, Tryz.f219, false, 0⟩, ⟨220, Tryz.f220, false, 0⟩, ⟨222, Tryz.f222, false, 0⟩, ⟨223, Tryz.f223, false, 0⟩, ⟨224, Tryz.f224, false, 0⟩, ⟨225, Tryz.f225, false, 0⟩, ⟨226, Tryz.f226, false, 0⟩, ⟨227, Tryz.f227, false, 0⟩, ⟨228, Tryz.f228, false, 0⟩, ⟨229, Tryz.f229, false, 0⟩, ⟨230, Tryz.f230, false, 0⟩, ⟨231, Tryz.f231, false, 0⟩, ⟨232, Tryz.f232, false, 0⟩, ⟨237, Tryz.f237, false, 0⟩, ⟨238, Tryz.f238, false, 0⟩, ⟨240, Tryz.f240, false, 0⟩, ⟨241, Tryz.f241, false, 2⟩, ⟨242, Tryz.f242, false, 0⟩, ⟨243, Tryz.f243, false, 0⟩, ⟨245, Tryz.f245, false, 0⟩, ⟨246, Tryz.f246, false, 0⟩, ⟨247, Tryz.f247, false, 0⟩, ⟨248, Tryz.f248, false, 0⟩, ⟨249, Tryz.f249, false, 0⟩, ⟨250, Tryz.f250, false, 0⟩, ⟨251, Tryz.f251, false, 0⟩, ⟨252, Tryz.f252, false, 0⟩, ⟨253, Tryz.f253, false, 0⟩, ⟨254, Tryz.f254, false, 0⟩, ⟨255, Tryz.f255, false, 0⟩, ⟨256, Tryz.f256, false, 0⟩, ⟨258, Tryz.f258, false, 0⟩, ⟨259, Tryz.f259, false, 0⟩, ⟨261, Tryz.f261, false, 0⟩, ⟨262, Tryz.f262, false, 0⟩, ⟨263, Tryz.f263, false, 0⟩, ⟨264, Tryz.f264, false, 0⟩, ⟨268, Tryz.f268, false, 0⟩, ⟨269, Tryz.f269, false, 0⟩, ⟨270, Tryz.f270, false, 0⟩, ⟨271, Tryz.f271, false, 0⟩, ⟨272, Tryz.f272, false, 0⟩, ⟨273, Tryz.f273, false, 0⟩, ⟨274, Tryz.f274, false, 0⟩, ⟨275, Tryz.f275, false, 0⟩, ⟨276, Tryz.f276, false, 0⟩, ⟨279, Tryz.f279, false, 0⟩, ⟨280, Tryz.f280, false, 0⟩, ⟨282, Tryz.f282, false, 0⟩, ⟨283, Tryz.f283, false, 0⟩, ⟨284, Tryz.f284, false, 0⟩, ⟨287, Tryz.f287, false, 0⟩, ⟨289, Tryz.f289, false, 0⟩, ⟨290, Tryz.f290, false, 0⟩, ⟨293, Tryz.f293, false, 0⟩, ⟨294, Tryz.f294, false, 0⟩, ⟨295, Tryz.f295, false, 0⟩, ⟨296, Tryz.f296, false, 0⟩, ⟨297, Tryz.f297, false, 0⟩, ⟨298, Tryz.f298, false, 0⟩, ⟨304, Tryz.f304, false, 0⟩, ⟨309, Tryz.f309, false, 0⟩, ⟨310, Tryz.f310, false, 0⟩, ⟨312, Tryz.f312, false, 0⟩, ⟨313, Tryz.f313, false, 0⟩, ⟨314, Tryz.f314, false, 0⟩, ⟨315, Tryz.f315, false, 0⟩, ⟨317, Tryz.f317, false, 0⟩, ⟨318, Tryz.f318, false, 0⟩, ⟨319, Tryz.f319, false, 0⟩, ⟨320, Tryz.f320, false, 0⟩, ⟨321, Tryz.f321, false, 0⟩, ⟨322, Tryz.f322, false, 0⟩, ⟨326, Tryz.f326, false, 0⟩, ⟨327, Tryz.f327, false, 0⟩, ⟨328, Tryz.f328, false, 2⟩, ⟨329, Tryz.f329, false, 0⟩, ⟨330, Tryz.f330, false, 0⟩, ⟨331, Tryz.f331, false, 0⟩, ⟨332, Tryz.f332, false, 0⟩, ⟨333, Tryz.f333, false, 0⟩, ⟨334, Tryz.f334, false, 0⟩, ⟨335, Tryz.f335, false, 0⟩, ⟨336, Tryz.f336, false, 0⟩, ⟨337, Tryz.f337, false, 0⟩, ⟨338, Tryz.f338, false, 0⟩, ⟨339, Tryz.f339, false, 0⟩, ⟨340, Tryz.f340, false, 0⟩, ⟨341, Tryz.f341, false, 0⟩, ⟨343, Tryz.f343, false, 0⟩, ⟨344, Tryz.f344, false, 0⟩, ⟨348, Tryz.f348, false, 0⟩, ⟨349, Tryz.f349, false, 0⟩, ⟨350, Tryz.f350, false, 0⟩, ⟨351, Tryz.f351, false, 0⟩, ⟨352, Tryz.f352, false, 0⟩, ⟨354, Tryz.f354, false, 0⟩, ⟨377, Tryz.f377, false, 0⟩, ⟨378, Tryz.f378, false, 0⟩, ⟨379, Tryz.f379, false, 0⟩, ⟨381, Tryz.f381, false, 0⟩, ⟨382, Tryz.f382, false, 0⟩, ⟨383, Tryz.f383, false, 2⟩, ⟨384, Tryz.f384, false, 0⟩, ⟨385, Tryz.f385, false, 0⟩, ⟨387, Tryz.f387, false, 0⟩, ⟨392, Tryz.f392, false, 0⟩, ⟨394, Tryz.f394, false, 0⟩, ⟨396, Tryz.f396, false, 0⟩, ⟨397, Tryz.f397, false, 0⟩, ⟨398, Tryz.f398, false, 0⟩, ⟨399, Tryz.f399, false, 0⟩, ⟨400, Tryz.f400, false, 0⟩, ⟨401, Tryz.f401, false, 0⟩, ⟨402, Tryz.f402, false, 0⟩, ⟨406, Tryz.f406, false, 0⟩, ⟨407, Tryz.f407, false, 0⟩, ⟨408, Tryz.f408, false, 0⟩, ⟨411, Tryz.f411, false, 0⟩, ⟨412, Tryz.f412, false, 0⟩, ⟨413, Tryz.f413, false, 0⟩, ⟨415, Tryz.f415, false, 0⟩, ⟨416, Tryz.f416, false, 0⟩, ⟨417, Tryz.f417, false, 0⟩, ⟨418, Tryz.f418, false, 0⟩, ⟨421, Tryz.f421, false, 0⟩, ⟨423, Tryz.f423, false, 0⟩, ⟨424, Tryz.f424, false, 0⟩, ⟨430, Tryz.f430, false, 0⟩, ⟨431, Tryz.f431, false, 0⟩, ⟨432, Tryz.f432, false, 0⟩, ⟨433, Tryz.f433, false, 0⟩, ⟨434, Tryz.f434, false, 0⟩, ⟨435, Tryz.f435, false, 0⟩, ⟨436, Tryz.f436, false, 0⟩, ⟨438, Tryz.f438, false, 0⟩, ⟨439, Tryz.f439, false, 0⟩, ⟨440, Tryz.f440, false, 0⟩, ⟨441, Tryz.f441, false, 0⟩, ⟨444, Tryz.f444, false, 0⟩, ⟨445, Tryz.f445, false, 0⟩, ⟨447, Tryz.f447, false, 0⟩, ⟨448, Tryz.f448, false, 0⟩, ⟨449, Tryz.f449, false, 0⟩, ⟨450, Tryz.f450, false, 0⟩, ⟨451, Tryz.f451, false, 0⟩, ⟨456, Tryz.f456, false, 0⟩, ⟨457, Tryz.f457, false, 0⟩, ⟨459, Tryz.f459, false, 0⟩, ⟨463, Tryz.f463, false, 0⟩, ⟨464, Tryz.f464, false, 0⟩, ⟨466, Tryz.f466, false, 0⟩, ⟨467, Tryz.f467, false, 0⟩, ⟨469, Tryz.f469, false, 0⟩, ⟨472, Tryz.f472, false, 0⟩, ⟨474, Tryz.f474, false, 0⟩, ⟨475, Tryz.f475, false, 0⟩, ⟨476, Tryz.f476, false, 0⟩, ⟨477, Tryz.f477, false, 0⟩, ⟨478, Tryz.f478, false, 0⟩, ⟨479, Tryz.f479, false, 0⟩, ⟨480, Tryz.f480, false, 0⟩, ⟨481, Tryz.f481, false, 0⟩, ⟨490, Tryz.f490, false, 0⟩, ⟨491, Tryz.f491, false, 0⟩, ⟨492, Tryz.f492, false, 0⟩, ⟨498, Tryz.f498, false, 0⟩, ⟨501, Tryz.f501, false, 0⟩, ⟨502, Tryz.f502, false, 0⟩, ⟨503, Tryz.f503, false, 0⟩, ⟨504, Tryz.f504, false, 0⟩, ⟨509, Tryz.f509, false, 0⟩, ⟨511, Tryz.f511, false, 0⟩, ⟨515, Tryz.f515, false, 0⟩, ⟨517, Tryz.f517, false, 0⟩, ⟨520, Tryz.f520, false, 0⟩, ⟨525, Tryz.f525, false, 0⟩, ⟨526, Tryz.f526, false, 0⟩, ⟨528, Tryz.f528, false, 0⟩, ⟨529, Tryz.f529, false, 0⟩, ⟨533, Tryz.f533, false, 0⟩, ⟨534, Tryz.f534, false, 0⟩, ⟨535, Tryz.f535, false, 0⟩, ⟨537, Tryz.f537, false, 0⟩, ⟨561, Tryz.f561, false, 0⟩, ⟨563, Tryz.f563, false, 0⟩, ⟨564, Tryz.f564, false, 0⟩, ⟨565, Tryz.f565, false, 0⟩, ⟨566, Tryz.f566, false, 0⟩, ⟨567, Tryz.f567, false, 0⟩, ⟨568, Tryz.f568, false, 0⟩, ⟨569, Tryz.f569, false, 0⟩, ⟨570, Tryz.f570, false, 0⟩, ⟨571, Tryz.f571, false, 0⟩, ⟨574, Tryz.f574, false, 0⟩, ⟨575, Tryz.f575, false, 0⟩, ⟨579, Tryz.f579, false, 0⟩, ⟨580, Tryz.f580, false, 0⟩, ⟨581, Tryz.f581, false, 0⟩, ⟨582, Tryz.f582, false, 0⟩, ⟨586, Tryz.f586, false, 0⟩, ⟨587, Tryz.f587, false, 0⟩, ⟨588, Tryz.f588, false, 0⟩, ⟨589, Tryz.f589, false, 0⟩, ⟨590, Tryz.f590, false, 0⟩, ⟨591, Tryz.f591, false, 0⟩, ⟨592, Tryz.f592, false, 0⟩, ⟨593, Tryz.f593, false, 0⟩, ⟨594, Tryz.f594, false, 0⟩, ⟨595, Tryz.f595, false, 0⟩, ⟨597, Tryz.f597, false, 0⟩, ⟨598, Tryz.f598, false, 0⟩, ⟨600, Tryz.f600, false, 0⟩, ⟨603, Tryz.f603, false, 0⟩, ⟨607, Tryz.f607, false, 0⟩, ⟨628, Tryz.f628, false, 0⟩, ⟨635, Tryz.f635, false, 0⟩, ⟨636, Tryz.f636, false, 0⟩, ⟨641, Tryz.f641, false, 0⟩, ⟨652, Tryz.f652, false, 0⟩, ⟨674, Tryz.f674, false, 0⟩, ⟨676, Tryz.f676, false, 0⟩, ⟨677, Tryz.f677, false, 0⟩, ⟨678, Tryz.f678, false, 0⟩, ⟨679, Tryz.f679, false, 0⟩, ⟨680, Tryz.f680, false, 0⟩, ⟨685, Tryz.f685, false, 0⟩, ⟨686, Tryz.f686, false, 0⟩, ⟨688, Tryz.f688, false, 0⟩, ⟨690, Tryz.f690, false, 0⟩, ⟨691, Tryz.f691, false, 0⟩, ⟨693, Tryz.f693, false, 0⟩, ⟨696, Tryz.f696, false, 0⟩, ⟨697, Tryz.f697, false, 0⟩, ⟨720, Tryz.f720, false, 0⟩, ⟨731, Tryz.f731, false, 0⟩, ⟨732, Tryz.f732, false, 0⟩, ⟨734, Tryz.f734, false, 0⟩, ⟨737, Tryz.f737, false, 0⟩, ⟨738, Tryz.f738, false, 0⟩, ⟨739, Tryz.f739, false, 0⟩, ⟨741, Tryz.f741, false, 0⟩, ⟨742, Tryz.f742, false, 0⟩, ⟨744, Tryz.f744, false, 0⟩, ⟨747, Tryz.f747, false, 0⟩, ⟨748, Tryz.f748, false, 0⟩, ⟨763, Tryz.f763, false, 0⟩, ⟨764, Tryz.f764, false, 0⟩, ⟨765, Tryz.f765, false, 0⟩, ⟨768, Tryz.f768, false, 0⟩, ⟨769, Tryz.f769, false, 0⟩, ⟨776, Tryz.f776, false, 0⟩, ⟨777, Tryz.f777, false, 0⟩, ⟨784, Tryz.f784, false, 0⟩, ⟨785, Tryz.f785, false, 0⟩, ⟨787, Tryz.f787, false, 0⟩, ⟨803, Tryz.f803, false, 0⟩]
noncomputable def fnsU : List FnE := [⟨9, Tryz.f9, false, 0⟩, ⟨11, Tryz.f11, false, 0⟩, ⟨12, Tryz.f12, false, 0⟩, ⟨13, Tryz.f13, false, 0⟩, ⟨27, Tryz.f27, false, 0⟩, ⟨28, Tryz.f28, false, 0⟩, ⟨29, Tryz.f29, false, 0⟩, ⟨30, Tryz.f30, false, 0⟩, ⟨34, Tryz.f34, false, 0⟩, ⟨40, Tryz.f40, false, 0⟩, ⟨42, Tryz.f42, false, 0⟩, ⟨44, Tryz.f44, false, 0⟩, ⟨51, Tryz.f51, false, 0⟩, ⟨53, Tryz.f53, false, 0⟩, ⟨66, Tryz.f66, false, 0⟩, ⟨67, Tryz.f67, false, 0⟩, ⟨68, Tryz.f68, false, 0⟩, ⟨69, Tryz.f69, false, 1⟩, ⟨70, Tryz.f70, false, 0⟩, ⟨71, Tryz.f71, false, 0⟩, ⟨72, Tryz.f72, false, 0⟩, ⟨73, Tryz.f73, false, 0⟩, ⟨93, Tryz.f93, false, 0⟩, ⟨94, Tryz.f94, false, 0⟩, ⟨95, Tryz.f95, false, 0⟩, ⟨103, Tryz.f103, false, 0⟩, ⟨105, Tryz.f105, false, 0⟩, ⟨111, Tryz.f111, false, 0⟩, ⟨112, Tryz.f112, false, 0⟩, ⟨116, Tryz.f116, false, 0⟩, ⟨117, Tryz.f117, false, 0⟩, ⟨119, Tryz.f119, false, 0⟩, ⟨130, Tryz.f130, false, 0⟩, ⟨134, Tryz.f134, false, 0⟩, ⟨136, Tryz.f136, false, 0⟩, ⟨138, Tryz.f138, false, 0⟩, ⟨139, Tryz.f139, false, 0⟩, ⟨140, Tryz.f140, false, 0⟩, ⟨141, Tryz.f141, false, 0⟩, ⟨142, Tryz.f142, false, 0⟩, ⟨146, Tryz.f146, false, 0⟩, ⟨148, Tryz.f148, false, 0⟩, ⟨149, Tryz.f149, false, 0⟩, ⟨150, Tryz.f150, false, 0⟩, ⟨153, Tryz.f153, false, 0⟩, ⟨157, Tryz.f157, false, 0⟩, ⟨158, Tryz.f158, false, 0⟩, ⟨166, Tryz.f166, false, 0⟩, ⟨176, Tryz.f176, false, 0⟩, ⟨179, Tryz.f179, false, 0⟩, ⟨181, Tryz.f181, false, 0⟩, ⟨182, Tryz.f182, false, 0⟩, ⟨183, Tryz.f183, false, 0⟩, ⟨193, Tryz.f193, false, 0⟩, ⟨197, Tryz.f197, false, 0⟩, ⟨212, Tryz.f212, false, 0⟩, ⟨213, Tryz.f213, false, 0⟩, ⟨214, Tryz.f214, false, 0⟩, ⟨215, Tryz.f215, false, 0⟩, ⟨217, Tryz.f217, false, 0⟩, ⟨218, Tryz.f218, false, 0⟩, ⟨219, Tryz.f219, false, 0⟩, ⟨220, Tryz.f220, false, 0⟩, ⟨222, Tryz.f222, false, 0⟩, ⟨223, Tryz.f223, false, 0⟩, ⟨224, Tryz.f224, false, 0⟩, ⟨225, Tryz.f225, false, 0⟩, ⟨226, Tryz.f226, false, 0⟩, ⟨227, Tryz.f227, false, 0⟩, ⟨228, Tryz.f228, false, 0⟩, ⟨229, Tryz.f229, false, 0⟩, ⟨230, Tryz.f230, false, 0⟩, ⟨231, Tryz.f231, false, 0⟩, ⟨232, Tryz.f232, false, 0⟩, ⟨237, Tryz.f237, false, 0⟩, ⟨238, Tryz.f238, false, 0⟩, ⟨240, Tryz.f240, false, 0⟩, ⟨241, Tryz.f241, false, 2⟩, ⟨242, Tryz.f242, false, 0⟩, ⟨243, Tryz.f243, false, 0⟩, ⟨245, Tryz.f245, false, 0⟩, ⟨246, Tryz.f246, false, 0⟩, ⟨247, Tryz.f247, false, 0⟩, ⟨254, Tryz.f254, false, 0⟩, ⟨255, Tryz.f255, false, 0⟩, ⟨256, Tryz.f256, false, 0⟩, ⟨258, Tryz.f258, false, 0⟩, ⟨259, Tryz.f259, false, 0⟩, ⟨270, Tryz.f270, false, 0⟩, ⟨271, Tryz.f271, false, 0⟩, ⟨272, Tryz.f272, false, 0⟩, ⟨273, Tryz.f273, false, 0⟩, ⟨280, Tryz.f280, false, 0⟩, ⟨284, Tryz.f284, false, 0⟩, ⟨289, Tryz.f289, false, 0⟩, ⟨290, Tryz.f290, false, 0⟩, ⟨304, Tryz.f304, false, 0⟩, ⟨309, Tryz.f309, false, 0⟩, ⟨310, Tryz.f310, false, 0⟩, ⟨312, Tryz.f312, false, 0⟩, ⟨313, Tryz.f313, false, 0⟩, ⟨314, Tryz.f314, false, 0⟩, ⟨315, Tryz.f315, false, 0⟩, ⟨317, Tryz.f317, false, 0⟩, ⟨318, Tryz.f318, false, 0⟩, ⟨319, Tryz.f319, false, 0⟩, ⟨320, Tryz.f320, false, 0⟩, ⟨321, Tryz.f321, false, 0⟩, ⟨322, Tryz.f322, false, 0⟩, ⟨326, Tryz.f326, false, 0⟩, ⟨327, Tryz.f327, false, 0⟩, ⟨328, Tryz.f328, false, 2⟩, ⟨329, Tryz.f329, false, 0⟩, ⟨330, Tryz.f330, false, 0⟩, ⟨331, Tryz.f331, false, 0⟩, ⟨332, Tryz.f332, false, 0⟩, ⟨333, Tryz.f333, false, 0⟩, ⟨334, Tryz.f334, false, 0⟩, ⟨335, Tryz.f335, false, 0⟩, ⟨336, Tryz.f336, false, 0⟩, ⟨337, Tryz.f337, false, 0⟩, ⟨338, Tryz.f338, false, 0⟩, ⟨339, Tryz.f339, false, 0⟩, ⟨340, Tryz.f340, false, 0⟩, ⟨341, Tryz.f341, false, 0⟩, ⟨343, Tryz.f343, false, 0⟩, ⟨344, Tryz.f344, false, 0⟩, ⟨348, Tryz.f348, false, 0⟩, ⟨349, Tryz.f349, false, 0⟩, ⟨350, Tryz.f350, false, 0⟩, ⟨351, Tryz.f351, false, 0⟩, ⟨352, Tryz.f352, false, 0⟩, ⟨354, Tryz.f354, false, 0⟩, ⟨377, Tryz.f377, false, 0⟩, ⟨378, Tryz.f378, false, 0⟩, ⟨379, Tryz.f379, false, 0⟩, ⟨381, Tryz.f381, false, 0⟩, ⟨382, Tryz.f382, false, 0⟩, ⟨383, Tryz.f383, false, 2⟩, ⟨384, Tryz.f384, false, 0⟩, ⟨385, Tryz.f385, false, 0⟩, ⟨387, Tryz.f387, false, 0⟩, ⟨394, Tryz.f394, false, 0⟩, ⟨396, Tryz.f396, false, 0⟩, ⟨397, Tryz.f397, false, 0⟩, ⟨398, Tryz.f398, false, 0⟩, ⟨399, Tryz.f399, false, 0⟩, ⟨400, Tryz.f400, false, 0⟩, ⟨406, Tryz.f406, false, 0⟩, ⟨433, Tryz.f433, false, 0⟩, ⟨434, Tryz.f434, false, 0⟩, ⟨440, Tryz.f440, false, 0⟩, ⟨448, Tryz.f448, false, 0⟩, ⟨449, Tryz.f449, false, 0⟩, ⟨450, Tryz.f450, false, 0⟩, ⟨457, Tryz.f457, false, 0⟩, ⟨459, Tryz.f459, false, 0⟩, ⟨463, Tryz.f463, false, 0⟩, ⟨464, Tryz.f464, false, 0⟩, ⟨466, Tryz.f466, false, 0⟩, ⟨467, Tryz.f467, false, 0⟩, ⟨469, Tryz.f469, false, 0⟩, ⟨472, Tryz.f472, false, 0⟩, ⟨474, Tryz.f474, false, 0⟩, ⟨475, Tryz.f475, false, 0⟩, ⟨476, Tryz.f476, false, 0⟩, ⟨477, Tryz.f477, false, 0⟩, ⟨478, Tryz.f478, false, 0⟩, ⟨479, Tryz.f479, false, 0⟩, ⟨480, Tryz.f480, false, 0⟩, ⟨481, Tryz.f481, false, 0⟩, ⟨490, Tryz.f490, false, 0⟩, ⟨491, Tryz.f491, false, 0⟩, ⟨492, Tryz.f492, false, 0⟩, ⟨498, Tryz.f498, false, 0⟩, ⟨501, Tryz.f501, false, 0⟩, ⟨502, Tryz.f502, false, 0⟩, ⟨503, Tryz.f503, false, 0⟩, ⟨504, Tryz.f504, false, 0⟩, ⟨509, Tryz.f509, false, 0⟩, ⟨511, Tryz.f511, false, 0⟩, ⟨515, Tryz.f515, false, 0⟩, ⟨517, Tryz.f517, false, 0⟩, ⟨563, Tryz.f563, false, 0⟩, ⟨564, Tryz.f564, false, 0⟩, ⟨565, Tryz.f565, false, 0⟩, ⟨569, Tryz.f569, false, 0⟩, ⟨570, Tryz.f570, false, 0⟩, ⟨586, Tryz.f586, false, 0⟩, ⟨587, Tryz.f587, false, 0⟩, ⟨588, Tryz.f588, false, 0⟩, ⟨589, Tryz.f589, false, 0⟩, ⟨590, Tryz.f590, false, 0⟩, ⟨591, Tryz.f591, false, 0⟩, ⟨592, Tryz.f592, false, 0⟩, ⟨593, Tryz.f593, false, 0⟩, ⟨594, Tryz.f594, false, 0⟩, ⟨595, Tryz.f595, false, 0⟩, ⟨597, Tryz.f597, false, 0⟩, ⟨598, Tryz.f598, false, 0⟩, ⟨600, Tryz.f600, false, 0⟩, ⟨603, Tryz.f603, false, 0⟩, ⟨607, Tryz.f607, false, 0⟩, ⟨628, Tryz.f628, false, 0⟩, ⟨636, Tryz.f636, false, 0⟩, ⟨677, Tryz.f677, false, 0⟩, ⟨678, Tryz.f678, false, 0⟩, ⟨679, Tryz.f679, false, 0⟩, ⟨680, Tryz.f680, false, 0⟩, ⟨690, Tryz.f690, false, 0⟩, ⟨691, Tryz.f691, false, 0⟩, ⟨693, Tryz.f693, false, 0⟩, ⟨696, Tryz.f696, false, 0⟩, ⟨697, Tryz.f697, false, 0⟩, ⟨734, Tryz.f734, false, 0⟩, ⟨737, Tryz.f737, false, 0⟩, ⟨738, Tryz.f738, false, 0⟩, ⟨739, Tryz.f739, false, 0⟩, ⟨741, Tryz.f741, false, 0⟩, ⟨742, Tryz.f742, false, 0⟩, ⟨744, Tryz.f744, false, 0⟩, ⟨747, Tryz.f747, false, 0⟩, ⟨748, Tryz.f748, false, 0⟩, ⟨763, Tryz.f763, false, 0⟩, ⟨764, Tryz.f764, false, 0⟩, ⟨765, Tryz.f765, false, 0⟩, ⟨768, Tryz.f768, false, 0⟩, ⟨769, Tryz.f769, false, 0⟩, ⟨776, Tryz.f776, false, 0⟩, ⟨777, Tryz.f777, false, 0⟩, ⟨784, Tryz.f784, false, 0⟩, ⟨785, Tryz.f785, false, 0⟩, ⟨787, Tryz.f787, false, 0⟩]
noncomputable def fnsE : List FnE := [⟨6, Tryz.f6, false, 0⟩, ⟨14, Tryz.f14, false, 0⟩, ⟨15, Tryz.f15, false, 0⟩, ⟨16, Tryz.f16, false, 0⟩, ⟨17, Tryz.f17, false, 0⟩, ⟨18, Tryz.f18, false, 0⟩, ⟨30, Tryz.f30, false, 0⟩, ⟨31, Tryz.f31, false, 0⟩, ⟨32, Tryz.f32, false, 0⟩, ⟨33, Tryz.f33, false, 0⟩, ⟨34, Tryz.f34, false, 0⟩, ⟨35, Tryz.f35, false, 0⟩, ⟨36, Tryz.f36, false, 0⟩, ⟨37, Tryz.f37, false, 0⟩, ⟨38, Tryz.f38, false, 0⟩, ⟨39, Tryz.f39, false, 0⟩, ⟨40, Tryz.f40, false, 0⟩, ⟨41, Tryz.f41, false, 0⟩, ⟨42, Tryz.f42, false, 0⟩, ⟨44, Tryz.f44, false, 0⟩, ⟨51, Tryz.f51, false, 0⟩, ⟨53, Tryz.f53, false, 0⟩, ⟨69, Tryz.f69, false, 1⟩, ⟨72, Tryz.f72, false, 0⟩, ⟨73, Tryz.f73, false, 0⟩, ⟨74, Tryz.f74, false, 0⟩, ⟨75, Tryz.f75, false, 0⟩, ⟨76, Tryz.f76, false, 0⟩, ⟨77, Tryz.f77, false, 0⟩, ⟨78, Tryz.f78, false, 0⟩, ⟨79, Tryz.f79, false, 0⟩, ⟨80, Tryz.f80, false, 0⟩, ⟨82, Tryz.f82, false, 0⟩, ⟨83, Tryz.f83, false, 0⟩, ⟨84, Tryz.f84, false, 0⟩, ⟨85, Tryz.f85, false, 0⟩, ⟨87, Tryz.f87, false, 0⟩, ⟨88, Tryz.f88, false, 0⟩, ⟨89, Tryz.f89, false, 0⟩, ⟨90, Tryz.f90, false, 0⟩, ⟨91, Tryz.f91, false, 0⟩, ⟨93, Tryz.f93, false, 0⟩, ⟨94, Tryz.f94, false, 0⟩, ⟨95, Tryz.f95, false, 0⟩, ⟨103, Tryz.f103, false, 0⟩, ⟨105, Tryz.f105, false, 0⟩, ⟨111, Tryz.f111, false, 0⟩, ⟨112, Tryz.f112, false, 0⟩, ⟨116, Tryz.f116, false, 0⟩, ⟨117, Tryz.f117, false, 0⟩, ⟨119, Tryz.f119, false, 0⟩, ⟨130, Tryz.f130, false, 0⟩, ⟨134, Tryz.f134, false, 0⟩, ⟨138, Tryz.f138, false, 0⟩, ⟨139, Tryz.f139, false, 0⟩, ⟨140, Tryz.f140, false, 0⟩, ⟨148, Tryz.f148, false, 0⟩, ⟨149, Tryz.f149, false, 0⟩, ⟨150, Tryz.f150, false, 0⟩, ⟨151, Tryz.f151, false, 0⟩, ⟨152, Tryz.f152, false, 0⟩, ⟨153, Tryz.f153, false, 0⟩, ⟨154, Tryz.f154, false, 2⟩, ⟨155, Tryz.f155, false, 0⟩, ⟨156, Tryz.f156, false, 0⟩, ⟨157, Tryz.f157, false, 0⟩, ⟨158, Tryz.f158, false, 0⟩, ⟨161, Tryz.f161, false, 0⟩, ⟨162, Tryz.f162, false, 0⟩, ⟨163, Tryz.f163, false, 0⟩, ⟨164, Tryz.f164, false, 0⟩, ⟨165, Tryz.f165, false, 0⟩, ⟨166, Tryz.f166, false, 0⟩, ⟨167, Tryz.f167, false, 0⟩, ⟨168, Tryz.f168, false, 0⟩, ⟨171, Tryz.f171, false, 0⟩, ⟨172, Tryz.f172, false, 0⟩, ⟨174, Tryz.f174, false, 0⟩, ⟨175, Tryz.f175, false, 0⟩, ⟨176, Tryz.f176, false, 0⟩, ⟨177, Tryz.f177, false, 0⟩, ⟨178, Tryz.f178, false, 0⟩, ⟨179, Tryz.f179, false, 0⟩, ⟨181, Tryz.f181, false, 0⟩, ⟨182, Tryz.f182, false, 0⟩, ⟨183, Tryz.f183, false, 0⟩, ⟨193, Tryz.f193, false, 0⟩, ⟨197, Tryz.f197, false, 0⟩, ⟨212, Tryz.f212, false, 0⟩, ⟨213, Tryz.f213, false, 0⟩, ⟨214, Tryz.f214, false, 0⟩, ⟨215, Tryz.f215, false, 0⟩, ⟨217, Tryz.f217, false, 0⟩, ⟨218, Tryz.f218, false, 0⟩, ⟨219, Tryz.f219, false, 0⟩, ⟨220, Tryz.f220, false, 0⟩, ⟨222, Tryz.f222, false, 0⟩, ⟨223, Tryz.f223, false, 0⟩, ⟨224, Tryz.f224, false, 0⟩, ⟨228, Tryz.f228, false, 0⟩, ⟨229, Tryz.f229, false, 0⟩, ⟨230, Tryz.f230, false, 0⟩, ⟨231, Tryz.f231, false, 0⟩, ⟨232, Tryz.f232, false, 0⟩, ⟨238, Tryz.f238, false, 0⟩, ⟨246, Tryz.f246, false, 0⟩, ⟨247, Tryz.f247, false, 0⟩, ⟨248, Tryz.f248, false, 0⟩, ⟨249, Tryz.f249, false, 0⟩, ⟨250, Tryz.f250, false, 0⟩, ⟨251, Tryz.f251, false, 0⟩, ⟨252, Tryz.f252, false, 0⟩, ⟨253, Tryz.f253, false, 0⟩, ⟨254, Tryz.f254, false, 0⟩, ⟨255, Tryz.f255, false, 0⟩, ⟨256, Tryz.f256, false, 0⟩, ⟨258, Tryz.f258, false, 0⟩, ⟨259, Tryz.f259, false, 0⟩, ⟨261, Tryz.f261, false, 0⟩, ⟨262, Tryz.f262, false, 0⟩, ⟨263, Tryz.f263, false, 0⟩, ⟨264, Tryz.f264, false, 0⟩, ⟨268, Tryz.f268, false, 0⟩, ⟨269, Tryz.f269, false, 0⟩, ⟨270, Tryz.f270, false, 0⟩, ⟨271, Tryz.f271, false, 0⟩, ⟨272, Tryz.f272, false, 0⟩, ⟨273, Tryz.f273, false, 0⟩, ⟨274, Tryz.f274, false, 0⟩, ⟨275, Tryz.f275, false, 0⟩, ⟨276, Tryz.f276, false, 0⟩, ⟨279, Tryz.f279, false, 0⟩, ⟨280, Tryz.f280, false, 0⟩, ⟨282, Tryz.f282, false, 0⟩, ⟨283, Tryz.f283, false, 0⟩, ⟨284, Tryz.f284, false, 0⟩, ⟨287, Tryz.f287, false, 0⟩, ⟨289, Tryz.f289, false, 0⟩, ⟨290, Tryz.f290, false, 0⟩, ⟨304, Tryz.f304, false, 0⟩, ⟨309, Tryz.f309, false, 0⟩, ⟨310, Tryz.f310, false, 0⟩, ⟨312, Tryz.f312, false, 0⟩, ⟨313, Tryz.f313, false, 0⟩, ⟨314, Tryz.f314, false, 0⟩, ⟨315, Tryz.f315, false, 0⟩, ⟨317, Tryz.f317, false, 0⟩, ⟨318, Tryz.f318, false, 0⟩, ⟨319, Tryz.f319, false, 0⟩, ⟨320, Tryz.f320, false, 0⟩, ⟨321, Tryz.f321, false, 0⟩, ⟨322, Tryz.f322, false, 0⟩, ⟨326, Tryz.f326, false, 0⟩, ⟨327, Tryz.f327, false, 0⟩, ⟨328, Tryz.f328, false, 2⟩, ⟨329, Tryz.f329, false, 0⟩, ⟨330, Tryz.f330, false, 0⟩, ⟨331, Tryz.f331, false, 0⟩, ⟨332, Tryz.f332, false, 0⟩, ⟨333, Tryz.f333, false, 0⟩, ⟨334, Tryz.f334, false, 0⟩, ⟨335, Tryz.f335, false, 0⟩, ⟨337, Tryz.f337, false, 0⟩, ⟨343, Tryz.f343, false, 0⟩, ⟨344, Tryz.f344, false, 0⟩, ⟨348, Tryz.f348, false, 0⟩, ⟨349, Tryz.f349, false, 0⟩, ⟨350, Tryz.f350, false, 0⟩, ⟨351, Tryz.f351, false, 0⟩, ⟨352, Tryz.f352, false, 0⟩, ⟨354, Tryz.f354, false, 0⟩, ⟨378, Tryz.f378, false, 0⟩, ⟨379, Tryz.f379, false, 0⟩, ⟨381, Tryz.f381, false, 0⟩, ⟨384, Tryz.f384, false, 0⟩, ⟨385, Tryz.f385, false, 0⟩, ⟨387, Tryz.f387, false, 0⟩, ⟨392, Tryz.f392, false, 0⟩, ⟨394, Tryz.f394, false, 0⟩, ⟨396, Tryz.f396, false, 0⟩, ⟨397, Tryz.f397, false, 0⟩, ⟨398, Tryz.f398, false, 0⟩, ⟨399, Tryz.f399, false, 0⟩, ⟨400, Tryz.f400, false, 0⟩, ⟨401, Tryz.f401, false, 0⟩, ⟨402, Tryz.f402, false, 0⟩, ⟨406, Tryz.f406, false, 0⟩, ⟨407, Tryz.f407, false, 0⟩, ⟨408, Tryz.f408, false, 0⟩, ⟨411, Tryz.f411, false, 0⟩, ⟨412, Tryz.f412, false, 0⟩, ⟨413, Tryz.f413, false, 0⟩, ⟨415, Tryz.f415, false, 0⟩, ⟨416, Tryz.f416, false, 0⟩, ⟨417, Tryz.f417, false, 0⟩, ⟨418, Tryz.f418, false, 0⟩, ⟨421, Tryz.f421, false, 0⟩, ⟨423, Tryz.f423, false, 0⟩, ⟨424, Tryz.f424, false, 0⟩, ⟨430, Tryz.f430, false, 0⟩, ⟨431, Tryz.f431, false, 0⟩, ⟨432, Tryz.f432, false, 0⟩, ⟨433, Tryz.f433, false, 0⟩, ⟨434, Tryz.f434, false, 0⟩, ⟨435, Tryz.f435, false, 0⟩, ⟨436, Tryz.f436, false, 0⟩, ⟨438, Tryz.f438, false, 0⟩, ⟨439, Tryz.f439, false, 0⟩, ⟨440, Tryz.f440, false, 0⟩, ⟨441, Tryz.f441, false, 0⟩, ⟨444, Tryz.f444, false, 0⟩, ⟨445, Tryz.f445, false, 0⟩, ⟨447, Tryz.f447, false, 0⟩, ⟨448, Tryz.f448, false, 0⟩, ⟨449, Tryz.f449, false, 0⟩, ⟨450, Tryz.f450, false, 0⟩, ⟨451, Tryz.f451, false, 0⟩, ⟨457, Tryz.f457, false, 0⟩, ⟨459, Tryz.f459, false, 0⟩, ⟨463, Tryz.f463, false, 0⟩, ⟨464, Tryz.f464, false, 0⟩, ⟨466, Tryz.f466, false, 0⟩, ⟨467, Tryz.f467, false, 0⟩, ⟨469, Tryz.f469, false, 0⟩, ⟨472, Tryz.f472, false, 0⟩, ⟨474, Tryz.f474, false, 0⟩, ⟨475, Tryz.f475, false, 0⟩, ⟨476, Tryz.f476, false, 0⟩, ⟨477, Tryz.f477, false, 0⟩, ⟨478, Tryz.f478, false, 0⟩, ⟨479, Tryz.f479, false, 0⟩, ⟨481, Tryz.f481, false, 0⟩, ⟨490, Tryz.f490, false, 0⟩, ⟨491, Tryz.f491, false, 0⟩, ⟨492, Tryz.f492, false, 0⟩, ⟨498, Tryz.f498, false, 0⟩, ⟨501, Tryz.f501, false, 0⟩, ⟨502, Tryz.f502, false, 0⟩, ⟨503, Tryz.f503, false, 0⟩, ⟨504, Tryz.f504, false, 0⟩, ⟨509, Tryz.f509, false, 0⟩, ⟨511, Tryz.f511, false, 0⟩, ⟨515, Tryz.f515, false, 0⟩, ⟨517, Tryz.f517, false, 0⟩, ⟨520, Tryz.f520, false, 0⟩, ⟨525, Tryz.f525, false, 0⟩, ⟨526, Tryz.f526, false, 0⟩, ⟨528, Tryz.f528, false, 0⟩, ⟨529, Tryz.f529, false, 0⟩, ⟨533, Tryz.f533, false, 0⟩, ⟨534, Tryz.f534, false, 0⟩, ⟨535, Tryz.f535, false, 0⟩, ⟨537, Tryz.f537, false, 0⟩, ⟨561, Tryz.f561, false, 0⟩, ⟨563, Tryz.f563, false, 0⟩, ⟨564, Tryz.f564, false, 0⟩, ⟨565, Tryz.f565, false, 0⟩, ⟨566, Tryz.f566, false, 0⟩, ⟨567, Tryz.f567, false, 0⟩, ⟨568, Tryz.f568, false, 0⟩, ⟨569, Tryz.f569, false, 0⟩, ⟨570, Tryz.f570, false, 0⟩, ⟨571, Tryz.f571, false, 0⟩, ⟨574, Tryz.f574, false, 0⟩, ⟨575, Tryz.f575, false, 0⟩, ⟨579, Tryz.f579, false, 0⟩, ⟨580, Tryz.f580, false, 0⟩, ⟨581, Tryz.f581, false, 0⟩, ⟨582, Tryz.f582, false, 0⟩, ⟨586, Tryz.f586, false, 0⟩, ⟨587, Tryz.f587, false, 0⟩, ⟨588, Tryz.f588, false, 0⟩, ⟨589, Tryz.f589, false, 0⟩, ⟨590, Tryz.f590, false, 0⟩, ⟨591, Tryz.f591, false, 0⟩, ⟨592, Tryz.f592, false, 0⟩, ⟨593, Tryz.f593, false, 0⟩, ⟨594, Tryz.f594, false, 0⟩, ⟨595, Tryz.f595, false, 0⟩, ⟨597, Tryz.f597, false, 0⟩, ⟨598, Tryz.f598, false, 0⟩, ⟨600, Tryz.f600, false, 0⟩, ⟨603, Tryz.f603, false, 0⟩, ⟨607, Tryz.f607, false, 0⟩, ⟨628, Tryz.f628, false, 0⟩, ⟨635, Tryz.f635, false, 0⟩, ⟨636, Tryz.f636, false, 0⟩, ⟨641, Tryz.f641, false, 0⟩, ⟨652, Tryz.f652, false, 0⟩, ⟨674, Tryz.f674, false, 0⟩, ⟨676, Tryz.f676, false, 0⟩, ⟨677, Tryz.f677, false, 0⟩, ⟨678, Tryz.f678, false, 0⟩, ⟨679, Tryz.f679, false, 0⟩, ⟨680, Tryz.f680, false, 0⟩, ⟨685, Tryz.f685, false, 0⟩, ⟨686, Tryz.f686, false, 0⟩, ⟨688, Tryz.f688, false, 0⟩, ⟨690, Tryz.f690, false, 0⟩, ⟨691, Tryz.f691, false, 0⟩, ⟨693, Tryz.f693, false, 0⟩, ⟨696, Tryz.f696, false, 0⟩, ⟨697, Tryz.f697, false, 0⟩, ⟨720, Tryz.f720, false, 0⟩, ⟨731, Tryz.f731, false, 0⟩, ⟨732, Tryz.f732, false, 0⟩, ⟨734, Tryz.f734, false, 0⟩, ⟨737, Tryz.f737, false, 0⟩, ⟨738, Tryz.f738, false, 0⟩, ⟨739, Tryz.f739, false, 0⟩, ⟨741, Tryz.f741, false, 0⟩, ⟨742, Tryz.f742, false, 0⟩, ⟨744, Tryz.f744, false, 0⟩, ⟨747, Tryz.f747, false, 0⟩, ⟨748, Tryz.f748, false, 0⟩, ⟨763, Tryz.f763, false, 0⟩, ⟨764, Tryz.f764, false, 0⟩, ⟨765, Tryz.f765, false, 0⟩, ⟨768, Tryz.f768, false, 0⟩, ⟨769, Tryz.f769, false, 0⟩, ⟨776, Tryz.f776, false, 0⟩, ⟨777, Tryz.f777, false, 0⟩, ⟨784, Tryz.f784, false, 0⟩, ⟨785, Tryz.f785, false, 0⟩, ⟨787, Tryz.f787, false, 0⟩]
noncomputable def fnsM : List FnE := [⟨15, Tryz.f15, false, 0⟩, ⟨33, Tryz.f33, false, 0⟩, ⟨34, Tryz.f34, false, 0⟩, ⟨35, Tryz.f35, false, 0⟩, ⟨40, Tryz.f40, false, 0⟩, ⟨42, Tryz.f42, false, 0⟩, ⟨51, Tryz.f51, false, 0⟩, ⟨53, Tryz.f53, false, 0⟩, ⟨76, Tryz.f76, false, 0⟩, ⟨77, Tryz.f77, false, 0⟩, ⟨78, Tryz.f78, false, 0⟩, ⟨79, Tryz.f79, false, 0⟩, ⟨80, Tryz.f80, false, 0⟩, ⟨103, Tryz.f103, false, 0⟩, ⟨105, Tryz.f105, false, 0⟩, ⟨116, Tryz.f116, false, 0⟩, ⟨117, Tryz.f117, false, 0⟩, ⟨151, Tryz.f151, false, 0⟩, ⟨152, Tryz.f152, false, 0⟩, ⟨153, Tryz.f153, false, 0⟩, ⟨154, Tryz.f154, false, 2⟩, ⟨155, Tryz.f155, false, 0⟩, ⟨156, Tryz.f156, false, 0⟩, ⟨157, Tryz.f157, false, 0⟩, ⟨158, Tryz.f158, false, 0⟩, ⟨193, Tryz.f193, false, 0⟩, ⟨197, Tryz.f197, false, 0⟩, ⟨212, Tryz.f212, false, 0⟩, ⟨213, Tryz.f213, false, 0⟩, ⟨214, Tryz.f214, false, 0⟩, ⟨215, Tryz.f215, false, 0⟩, ⟨217, Tryz.f217, false, 0⟩, ⟨248, Tryz.f248, false, 0⟩, ⟨249, Tryz.f249, false, 0⟩, ⟨250, Tryz.f250, false, 0⟩, ⟨251, Tryz.f251, false, 0⟩, ⟨252, Tryz.f252, false, 0⟩, ⟨253, Tryz.f253, false, 0⟩, ⟨254, Tryz.f254, false, 0⟩, ⟨255, Tryz.f255, false, 0⟩, ⟨256, Tryz.f256, false, 0⟩, ⟨258, Tryz.f258, false, 0⟩, ⟨259, Tryz.f259, false, 0⟩, ⟨309, Tryz.f309, false, 0⟩, ⟨310, Tryz.f310, false, 0⟩, ⟨312, Tryz.f312, false, 0⟩, ⟨313, Tryz.f313, false, 0⟩, ⟨314, Tryz.f314, false, 0⟩, ⟨315, Tryz.f315, false, 0⟩, ⟨317, Tryz.f317, false, 0⟩, ⟨318, Tryz.f318, false, 0⟩, ⟨319, Tryz.f319, false, 0⟩, ⟨320, Tryz.f320, false, 0⟩, ⟨321, Tryz.f321, false, 0⟩, ⟨322, Tryz.f322, false, 0⟩, ⟨392, Tryz.f392, false, 0⟩, ⟨394, Tryz.f394, false, 0⟩, ⟨396, Tryz.f396, false, 0⟩, ⟨397, Tryz.f397, false, 0⟩, ⟨398, Tryz.f398, false, 0⟩, ⟨399, Tryz.f399, false, 0⟩, ⟨400, Tryz.f400, false, 0⟩, ⟨457, Tryz.f457, false, 0⟩, ⟨459, Tryz.f459, false, 0⟩, ⟨463, Tryz.f463, false, 0⟩, ⟨464, Tryz.f464, false, 0⟩, ⟨466, Tryz.f466, false, 0⟩, ⟨467, Tryz.f467, false, 0⟩, ⟨469, Tryz.f469, false, 0⟩, ⟨472, Tryz.f472, false, 0⟩, ⟨474, Tryz.f474, false, 0⟩, ⟨475, Tryz.f475, false, 0⟩, ⟨509, Tryz.f509, false, 0⟩, ⟨511, Tryz.f511, false, 0⟩, ⟨595, Tryz.f595, false, 0⟩, ⟨597, Tryz.f597, false, 0⟩, ⟨598, Tryz.f598, false, 0⟩, ⟨693, Tryz.f693, false, 0⟩]
noncomputable def fnsS : List FnE := [⟨38, Tryz.f38, false, 0⟩]
noncomputable def fnsG : List FnE := [⟨179, Tryz.f179, false, 0⟩, ⟨238, Tryz.f238, false, 0⟩, ⟨289, Tryz.f289, false, 0⟩, ⟨290, Tryz.f290, false, 0⟩, ⟨378, Tryz.f378, false, 0⟩, ⟨498, Tryz.f498, false, 0⟩]
noncomputable def fnsT : List FnE := [⟨34, Tryz.f34, false, 0⟩, ⟨40, Tryz.f40, false, 0⟩, ⟨41, Tryz.f41, false, 0⟩, ⟨42, Tryz.f42, false, 0⟩, ⟨44, Tryz.f44, false, 0⟩, ⟨51, Tryz.f51, false, 0⟩, ⟨53, Tryz.f53, false, 0⟩, ⟨84, Tryz.f84, false, 0⟩, ⟨93, Tryz.f93, false, 0⟩, ⟨94, Tryz.f94, false, 0⟩, ⟨95, Tryz.f95, false, 0⟩, ⟨103, Tryz.f103, false, 0⟩, ⟨105, Tryz.f105, false, 0⟩, ⟨111, Tryz.f111, false, 0⟩, ⟨112, Tryz.f112, false, 0⟩, ⟨116, Tryz.f116, false, 0⟩, ⟨117, Tryz.f117, false, 0⟩, ⟨119, Tryz.f119, false, 0⟩, ⟨130, Tryz.f130, false, 0⟩, ⟨134, Tryz.f134, false, 0⟩, ⟨153, Tryz.f153, false, 0⟩, ⟨157, Tryz.f157, false, 0⟩, ⟨158, Tryz.f158, false, 0⟩, ⟨166, Tryz.f166, false, 0⟩, ⟨167, Tryz.f167, false, 0⟩, ⟨168, Tryz.f168, false, 0⟩, ⟨171, Tryz.f171, false, 0⟩, ⟨181, Tryz.f181, false, 0⟩, ⟨182, Tryz.f182, false, 0⟩, ⟨183, Tryz.f183, false, 0⟩, ⟨193, Tryz.f193, false, 0⟩, ⟨197, Tryz.f197, false, 0⟩, ⟨212, Tryz.f212, false, 0⟩, ⟨213, Tryz.f213, false, 0⟩, ⟨214, Tryz.f214, false, 0⟩, ⟨215, Tryz.f215, false, 0⟩, ⟨217, Tryz.f217, false, 0⟩, ⟨218, Tryz.f218, false, 0⟩, ⟨219, Tryz.f219, false, 0⟩, ⟨220, Tryz.f220, false, 0⟩, ⟨228, Tryz.f228, false, 0⟩, ⟨229, Tryz.f229, false, 0⟩, ⟨231, Tryz.f231, false, 0⟩, ⟨254, Tryz.f254, false, 0⟩, ⟨255, Tryz.f255, false, 0⟩, ⟨256, Tryz.f256, false, 0⟩, ⟨258, Tryz.f258, false, 0⟩, ⟨259, Tryz.f259, false, 0⟩, ⟨270, Tryz.f270, false, 0⟩, ⟨271, Tryz.f271, false, 0⟩, ⟨272, Tryz.f272, false, 0⟩, ⟨273, Tryz.f273, false, 0⟩, ⟨274, Tryz.f274, false, 0⟩, ⟨275, Tryz.f275, false, 0⟩, ⟨276, Tryz.f276, false, 0⟩, ⟨280, Tryz.f280, false, 0⟩, ⟨282, Tryz.f282, false, 0⟩, ⟨283, Tryz.f283, false, 0⟩, ⟨304, Tryz.f304, false, 0⟩, ⟨309, Tryz.f309, false, 0⟩, ⟨310, Tryz.f310, false, 0⟩, ⟨312, Tryz.f312, false, 0⟩, ⟨313, Tryz.f313, false, 0⟩, ⟨314, Tryz.f314, false, 0⟩, ⟨315, Tryz.f315, false, 0⟩, ⟨317, Tryz.f317, false, 0⟩, ⟨318, Tryz.f318, false, 0⟩, ⟨319, Tryz.f319, false, 0⟩, ⟨320, Tryz.f320, false, 0⟩, ⟨321, Tryz.f321, false, 0⟩, ⟨322, Tryz.f322, false, 0⟩, ⟨343, Tryz.f343, false, 0⟩, ⟨344, Tryz.f344, false, 0⟩, ⟨348, Tryz.f348, false, 0⟩, ⟨349, Tryz.f349, false, 0⟩, ⟨350, Tryz.f350, false, 0⟩, ⟨351, Tryz.f351, false, 0⟩, ⟨352, Tryz.f352, false, 0⟩, ⟨354, Tryz.f354, false, 0⟩, ⟨378, Tryz.f378, false, 0⟩, ⟨394, Tryz.f394, false, 0⟩, ⟨396, Tryz.f396, false, 0⟩, ⟨397, Tryz.f397, false, 0⟩, ⟨398, Tryz.f398, false, 0⟩, ⟨399, Tryz.f399, false, 0⟩, ⟨400, Tryz.f400, false, 0⟩, ⟨407, Tryz.f407, false, 0⟩, ⟨421, Tryz.f421, false, 0⟩, ⟨424, Tryz.f424, false, 0⟩, ⟨430, Tryz.f430, false, 0⟩, ⟨433, Tryz.f433, false, 0⟩, ⟨434, Tryz.f434, false, 0⟩, ⟨435, Tryz.f435, false, 0⟩, ⟨436, Tryz.f436, false, 0⟩, ⟨438, Tryz.f438, false, 0⟩, ⟨439, Tryz.f439, false, 0⟩, ⟨440, Tryz.f440, false, 0⟩, ⟨441, Tryz.f441, false, 0⟩, ⟨444, Tryz.f444, false, 0⟩, ⟨445, Tryz.f445, false, 0⟩, ⟨448, Tryz.f448, false, 0⟩, ⟨449, Tryz.f449, false, 0⟩, ⟨450, Tryz.f450, false, 0⟩, ⟨451, Tryz.f451, false, 0⟩, ⟨457, Tryz.f457, false, 0⟩, ⟨459, Tryz.f459, false, 0⟩, ⟨463, Tryz.f463, false, 0⟩, ⟨464, Tryz.f464, false, 0⟩, ⟨466, Tryz.f466, false, 0⟩, ⟨467, Tryz.f467, false, 0⟩, ⟨469, Tryz.f469, false, 0⟩, ⟨472, Tryz.f472, false, 0⟩, ⟨474, Tryz.f474, false, 0⟩, ⟨475, Tryz.f475, false, 0⟩, ⟨490, Tryz.f490, false, 0⟩, ⟨491, Tryz.f491, false, 0⟩, ⟨492, Tryz.f492, false, 0⟩, ⟨498, Tryz.f498, false, 0⟩, ⟨509, Tryz.f509, false, 0⟩, ⟨511, Tryz.f511, false, 0⟩, ⟨534, Tryz.f534, false, 0⟩, ⟨535, Tryz.f535, false, 0⟩, ⟨561, Tryz.f561, false, 0⟩, ⟨563, Tryz.f563, false, 0⟩, ⟨564, Tryz.f564, false, 0⟩, ⟨565, Tryz.f565, false, 0⟩, ⟨566, Tryz.f566, false, 0⟩, ⟨567, Tryz.f567, false, 0⟩, ⟨568, Tryz.f568, false, 0⟩, ⟨569, Tryz.f569, false, 0⟩, ⟨570, Tryz.f570, false, 0⟩, ⟨571, Tryz.f571, false, 0⟩, ⟨574, Tryz.f574, false, 0⟩, ⟨575, Tryz.f575, false, 0⟩, ⟨579, Tryz.f579, false, 0⟩, ⟨580, Tryz.f580, false, 0⟩, ⟨581, Tryz.f581, false, 0⟩, ⟨582, Tryz.f582, false, 0⟩, ⟨586, Tryz.f586, false, 0⟩, ⟨587, Tryz.f587, false, 0⟩, ⟨590, Tryz.f590, false, 0⟩, ⟨591, Tryz.f591, false, 0⟩, ⟨592, Tryz.f592, false, 0⟩, ⟨593, Tryz.f593, false, 0⟩, ⟨594, Tryz.f594, false, 0⟩, ⟨595, Tryz.f595, false, 0⟩, ⟨597, Tryz.f597, false, 0⟩, ⟨598, Tryz.f598, false, 0⟩, ⟨603, Tryz.f603, false, 0⟩, ⟨628, Tryz.f628, false, 0⟩, ⟨636, Tryz.f636, false, 0⟩, ⟨641, Tryz.f641, false, 0⟩, ⟨652, Tryz.f652, false, 0⟩, ⟨674, Tryz.f674, false, 0⟩, ⟨676, Tryz.f676, false, 0⟩, ⟨677, Tryz.f677, false, 0⟩, ⟨678, Tryz.f678, false, 0⟩, ⟨679, Tryz.f679, false, 0⟩, ⟨680, Tryz.f680, false, 0⟩, ⟨685, Tryz.f685, false, 0⟩, ⟨686, Tryz.f686, false, 0⟩, ⟨688, Tryz.f688, false, 0⟩, ⟨690, Tryz.f690, false, 0⟩, ⟨691, Tryz.f691, false, 0⟩, ⟨693, Tryz.f693, false, 0⟩, ⟨696, Tryz.f696, false, 0⟩, ⟨697, Tryz.f697, false, 0⟩, ⟨720, Tryz.f720, false, 0⟩, ⟨731, Tryz.f731, false, 0⟩, ⟨732, Tryz.f732, false, 0⟩, ⟨734, Tryz.f734, false, 0⟩, ⟨737, Tryz.f737, false, 0⟩, ⟨738, Tryz.f738, false, 0⟩, ⟨739, Tryz.f739, false, 0⟩, ⟨741, Tryz.f741, false, 0⟩, ⟨742, Tryz.f742, false, 0⟩, ⟨744, Tryz.f744, false, 0⟩, ⟨747, Tryz.f747, false, 0⟩, ⟨748, Tryz.f748, false, 0⟩, ⟨763, Tryz.f763, false, 0⟩, ⟨764, Tryz.f764, false, 0⟩, ⟨765, Tryz.f765, false, 0⟩, ⟨768, Tryz.f768, false, 0⟩, ⟨769, Tryz.f769, false, 0⟩, ⟨776, Tryz.f776, false, 0⟩, ⟨777, Tryz.f777, false, 0⟩, ⟨784, Tryz.f784, false, 0⟩, ⟨785, Tryz.f785, false, 0⟩, ⟨787, Tryz.f787, false, 0⟩]
noncomputable def fnsC : List FnE := [⟨4, Tryz.f4, false, 0⟩, ⟨9, Tryz.f9, false, 0⟩, ⟨10, Tryz.f10, false, 0⟩, ⟨11, Tryz.f11, false, 0⟩, ⟨12, Tryz.f12, false, 0⟩, ⟨13, Tryz.f13, false, 0⟩, ⟨14, Tryz.f14, false, 0⟩, ⟨16, Tryz.f16, false, 0⟩, ⟨20, Tryz.f20, false, 0⟩, ⟨21, Tryz.f21, false, 0⟩, ⟨27, Tryz.f27, false, 0⟩, ⟨28, Tryz.f28, false, 0⟩, ⟨29, Tryz.f29, false, 0⟩, ⟨30, Tryz.f30, false, 0⟩, ⟨31, Tryz.f31, false, 0⟩, ⟨32, Tryz.f32, false, 0⟩, ⟨34, Tryz.f34, false, 0⟩, ⟨35, Tryz.f35, false, 0⟩, ⟨36, Tryz.f36, false, 0⟩, ⟨37, Tryz.f37, false, 0⟩, ⟨39, Tryz.f39, false, 0⟩, ⟨40, Tryz.f40, false, 0⟩, ⟨41, Tryz.f41, false, 0⟩, ⟨42, Tryz.f42, false, 0⟩, ⟨44, Tryz.f44, false, 0⟩, ⟨45, Tryz.f45, false, 0⟩, ⟨46, Tryz.f46, false, 0⟩, ⟨51, Tryz.f51, false, 0⟩, ⟨53, Tryz.f53, false, 0⟩, ⟨66, Tryz.f66, false, 0⟩, ⟨67, Tryz.f67, false, 0⟩, ⟨68, Tryz.f68, false, 0⟩, ⟨69, Tryz.f69, false, 1⟩, ⟨70, Tryz.f70, false, 0⟩, ⟨71, Tryz.f71, false, 0⟩, ⟨72, Tryz.f72, false, 0⟩, ⟨73, Tryz.f73, false, 0⟩, ⟨74, Tryz.f74, false, 0⟩, ⟨75, Tryz.f75, false, 0⟩, ⟨82, Tryz.f82, false, 0⟩, ⟨83, Tryz.f83, false, 0⟩, ⟨85, Tryz.f85, false, 0⟩, ⟨87, Tryz.f87, false, 0⟩, ⟨88, Tryz.f88, false, 0⟩, ⟨89, Tryz.f89, false, 0⟩, ⟨90, Tryz.f90, false, 0⟩, ⟨93, Tryz.f93, false, 0⟩, ⟨94, Tryz.f94, false, 0⟩, ⟨95, Tryz.f95, false, 0⟩, ⟨97, Tryz.f97, false, 0⟩, ⟨98, Tryz.f98, false, 0⟩, ⟨99, Tryz.f99, false, 0⟩, ⟨100, Tryz.f100, false, 0⟩, ⟨101, Tryz.f101, false, 0⟩, ⟨103, Tryz.f103, false, 0⟩, ⟨111, Tryz.f111, false, 0⟩, ⟨112, Tryz.f112, false, 0⟩, ⟨116, Tryz.f116, false, 0⟩, ⟨117, Tryz.f117, false, 0⟩, ⟨119, Tryz.f119, false, 0⟩, ⟨130, Tryz.f130, false, 0⟩, ⟨134, Tryz.f134, false, 0⟩, ⟨136, Tryz.f136, false, 0⟩, ⟨139, Tryz.f139, false, 0⟩, ⟨140, Tryz.f140, false, 0⟩, ⟨141, Tryz.f141, false, 0⟩, ⟨142, Tryz.f142, false, 0⟩, ⟨146, Tryz.f146, false, 0⟩, ⟨148, Tryz.f148, false, 0⟩, ⟨149, Tryz.f149, false, 0⟩, ⟨150, Tryz.f150, false, 0⟩, ⟨153, Tryz.f153, false, 0⟩, ⟨157, Tryz.f157, false, 0⟩, ⟨158, Tryz.f158, false, 0⟩, ⟨161, Tryz.f161, false, 0⟩, ⟨163, Tryz.f163, false, 0⟩, ⟨164, Tryz.f164, false, 0⟩, ⟨166, Tryz.f166, false, 0⟩, ⟨172, Tryz.f172, false, 0⟩, ⟨174, Tryz.f174, false, 0⟩, ⟨175, Tryz.f175, false, 0⟩, ⟨176, Tryz.f176, false, 0⟩, ⟨177, Tryz.f177, false, 0⟩, ⟨178, Tryz.f178, false, 0⟩, ⟨181, Tryz.f181, false, 0⟩, ⟨182, Tryz.f182, false, 0⟩, ⟨183, Tryz.f183, false, 0⟩, ⟨186, Tryz.f186, false, 0⟩, ⟨187, Tryz.f187, false, 0⟩, ⟨188, Tryz.f188, false, 0⟩, ⟨189, Tryz.f189, false, 0⟩, ⟨193, Tryz.f193, false, 0⟩, ⟨197, Tryz.f197, false, 0⟩, ⟨212, Tryz.f212, false, 0⟩, ⟨213, Tryz.f213, false, 0⟩, ⟨214, Tryz.f214, false, 0⟩, ⟨217, Tryz.f217, false, 0⟩, ⟨218, Tryz.f218, false, 0⟩, ⟨219, Tryz.f219, false, 0⟩, ⟨220, Tryz.f220, false, 0⟩, ⟨222, Tryz.f222, false, 0⟩, ⟨223, Tryz.f223, false, 0⟩, ⟨224, Tryz.f224, false, 0⟩, ⟨225, Tryz.f225, false, 0⟩, ⟨226, Tryz.f226, false, 0⟩, ⟨227, Tryz.f227, false, 0⟩, ⟨228, Tryz.f228, false, 0⟩, ⟨229, Tryz.f229, false, 0⟩, ⟨230, Tryz.f230, false, 0⟩, ⟨231, Tryz.f231, false, 0⟩, ⟨232, Tryz.f232, false, 0⟩, ⟨237, Tryz.f237, false, 0⟩, ⟨238, Tryz.f238, false, 0⟩, ⟨240, Tryz.f240, false, 0⟩, ⟨241, Tryz.f241, false, 2⟩, ⟨242, Tryz.f242, false, 0⟩, ⟨243, Tryz.f243, false, 0⟩, ⟨245, Tryz.f245, false, 0⟩, ⟨246, Tryz.f246, false, 0⟩, ⟨247, Tryz.f247, false, 0⟩, ⟨254, Tryz.f254, false, 0⟩, ⟨255, Tryz.f255, false, 0⟩, ⟨258, Tryz.f258, false, 0⟩, ⟨259, Tryz.f259, false, 0⟩, ⟨261, Tryz.f261, false, 0⟩, ⟨262, Tryz.f262, false, 0⟩, ⟨268, Tryz.f268, false, 0⟩, ⟨269, Tryz.f269, false, 0⟩, ⟨270, Tryz.f270, false, 0⟩, ⟨271, Tryz.f271, false, 0⟩, ⟨272, Tryz.f272, false, 0⟩, ⟨273, Tryz.f273, false, 0⟩, ⟨274, Tryz.f274, false, 0⟩, ⟨279, Tryz.f279, false, 0⟩, ⟨280, Tryz.f280, false, 0⟩, ⟨282, Tryz.f282, false, 0⟩, ⟨284, Tryz.f284, false, 0⟩, ⟨287, Tryz.f287, false, 0⟩, ⟨293, Tryz.f293, false, 0⟩, ⟨294, Tryz.f294, false, 0⟩, ⟨295, Tryz.f295, false, 0⟩, ⟨296, Tryz.f296, false, 0⟩, ⟨297, Tryz.f297, false, 0⟩, ⟨298, Tryz.f298, false, 0⟩, ⟨304, Tryz.f304, false, 0⟩, ⟨309, Tryz.f309, false, 0⟩, ⟨310, Tryz.f310, false, 0⟩, ⟨312, Tryz.f312, false, 0⟩, ⟨313, Tryz.f313, false, 0⟩, ⟨314, Tryz.f314, false, 0⟩, ⟨315, Tryz.f315, false, 0⟩, ⟨317, Tryz.f317, false, 0⟩, ⟨326, Tryz.f326, false, 0⟩, ⟨327, Tryz.f327, false, 0⟩, ⟨328, Tryz.f328, false, 2⟩, ⟨329, Tryz.f329, false, 0⟩, ⟨330, Tryz.f330, false, 0⟩, ⟨331, Tryz.f331, false, 0⟩, ⟨332, Tryz.f332, false, 0⟩, ⟨333, Tryz.f333, false, 0⟩, ⟨334, Tryz.f334, false, 0⟩, ⟨335, Tryz.f335, false, 0⟩, ⟨336, Tryz.f336, false, 0⟩, ⟨337, Tryz.f337, false, 0⟩, ⟨338, Tryz.f338, false, 0⟩, ⟨339, Tryz.f339, false, 0⟩, ⟨340, Tryz.f340, false, 0⟩, ⟨341, Tryz.f341, false, 0⟩, ⟨343, Tryz.f343, false, 0⟩, ⟨344, Tryz.f344, false, 0⟩, ⟨348, Tryz.f348, false, 0⟩, ⟨349, Tryz.f349, false, 0⟩, ⟨350, Tryz.f350, false, 0⟩, ⟨351, Tryz.f351, false, 0⟩, ⟨352, Tryz.f352, false, 0⟩, ⟨354, Tryz.f354, false, 0⟩, ⟨377, Tryz.f377, false, 0⟩, ⟨378, Tryz.f378, false, 0⟩, ⟨379, Tryz.f379, false, 0⟩, ⟨381, Tryz.f381, false, 0⟩, ⟨382, Tryz.f382, false, 0⟩, ⟨383, Tryz.f383, false, 2⟩, ⟨384, Tryz.f384, false, 0⟩, ⟨385, Tryz.f385, false, 0⟩, ⟨387, Tryz.f387, false, 0⟩, ⟨396, Tryz.f396, false, 0⟩, ⟨397, Tryz.f397, false, 0⟩, ⟨398, Tryz.f398, false, 0⟩, ⟨399, Tryz.f399, false, 0⟩, ⟨400, Tryz.f400, false, 0⟩, ⟨406, Tryz.f406, false, 0⟩, ⟨407, Tryz.f407, false, 0⟩, ⟨408, Tryz.f408, false, 0⟩, ⟨421, Tryz.f421, false, 0⟩, ⟨423, Tryz.f423, false, 0⟩, ⟨424, Tryz.f424, false, 0⟩, ⟨430, Tryz.f430, false, 0⟩, ⟨431, Tryz.f431, false, 0⟩, ⟨432, Tryz.f432, false, 0⟩, ⟨433, Tryz.f433, false, 0⟩, ⟨434, Tryz.f434, false, 0⟩, ⟨445, Tryz.f445, false, 0⟩, ⟨447, Tryz.f447, false, 0⟩, ⟨448, Tryz.f448, false, 0⟩, ⟨449, Tryz.f449, false, 0⟩, ⟨450, Tryz.f450, false, 0⟩, ⟨457, Tryz.f457, false, 0⟩, ⟨459, Tryz.f459, false, 0⟩, ⟨463, Tryz.f463, false, 0⟩, ⟨464, Tryz.f464, false, 0⟩, ⟨466, Tryz.f466, false, 0⟩, ⟨467, Tryz.f467, false, 0⟩, ⟨469, Tryz.f469, false, 0⟩, ⟨476, Tryz.f476, false, 0⟩, ⟨477, Tryz.f477, false, 0⟩, ⟨478, Tryz.f478, false, 0⟩, ⟨479, Tryz.f479, false, 0⟩, ⟨480, Tryz.f480, false, 0⟩, ⟨481, Tryz.f481, false, 0⟩, ⟨490, Tryz.f490, false, 0⟩, ⟨491, Tryz.f491, false, 0⟩, ⟨492, Tryz.f492, false, 0⟩, ⟨498, Tryz.f498, false, 0⟩, ⟨501, Tryz.f501, false, 0⟩, ⟨502, Tryz.f502, false, 0⟩, ⟨503, Tryz.f503, false, 0⟩, ⟨504, Tryz.f504, false, 0⟩, ⟨511, Tryz.f511, false, 0⟩, ⟨515, Tryz.f515, false, 0⟩, ⟨517, Tryz.f517, false, 0⟩, ⟨529, Tryz.f529, false, 0⟩, ⟨533, Tryz.f533, false, 0⟩, ⟨534, Tryz.f534, false, 0⟩, ⟨535, Tryz.f535, false, 0⟩, ⟨537, Tryz.f537, false, 0⟩, ⟨561, Tryz.f561, false, 0⟩, ⟨563, Tryz.f563, false, 0⟩, ⟨564, Tryz.f564, false, 0⟩, ⟨565, Tryz.f565, false, 0⟩, ⟨579, Tryz.f579, false, 0⟩, ⟨580, Tryz.f580, false, 0⟩, ⟨582, Tryz.f582, false, 0⟩, ⟨586, Tryz.f586, false, 0⟩, ⟨587, Tryz.f587, false, 0⟩, ⟨588, Tryz.f588, false, 0⟩, ⟨589, Tryz.f589, false, 0⟩, ⟨590, Tryz.f590, false, 0⟩, ⟨591, Tryz.f591, false, 0⟩, ⟨592, Tryz.f592, false, 0⟩, ⟨593, Tryz.f593, false, 0⟩, ⟨594, Tryz.f594, false, 0⟩, ⟨597, Tryz.f597, false, 0⟩, ⟨598, Tryz.f598, false, 0⟩, ⟨600, Tryz.f600, false, 0⟩, ⟨603, Tryz.f603, false, 0⟩, ⟨607, Tryz.f607, false, 0⟩, ⟨628, Tryz.f628, false, 0⟩, ⟨636, Tryz.f636, false, 0⟩, ⟨641, Tryz.f641, false, 0⟩, ⟨674, Tryz.f674, false, 0⟩, ⟨676, Tryz.f676, false, 0⟩, ⟨677, Tryz.f677, false, 0⟩, ⟨678, Tryz.f678, false, 0⟩, ⟨679, Tryz.f679, false, 0⟩, ⟨680, Tryz.f680, false, 0⟩, ⟨690, Tryz.f690, false, 0⟩, ⟨691, Tryz.f691, false, 0⟩, ⟨696, Tryz.f696, false, 0⟩, ⟨697, Tryz.f697, false, 0⟩, ⟨731, Tryz.f731, false, 0⟩, ⟨732, Tryz.f732, false, 0⟩, ⟨734, Tryz.f734, false, 0⟩, ⟨737, Tryz.f737, false, 0⟩, ⟨738, Tryz.f738, false, 0⟩, ⟨739, Tryz.f739, false, 0⟩, ⟨741, Tryz.f741, false, 0⟩, ⟨742, Tryz.f742, false, 0⟩, ⟨744, Tryz.f744, false, 0⟩, ⟨747, Tryz.f747, false, 0⟩, ⟨748, Tryz.f748, false, 0⟩, ⟨763, Tryz.f763, false, 0⟩, ⟨764, Tryz.f764, false, 0⟩, ⟨765, Tryz.f765, false, 0⟩, ⟨768, Tryz.f768, false, 0⟩, ⟨769, Tryz.f769, false, 0⟩, ⟨776, Tryz.f776, false, 0⟩, ⟨777, Tryz.f777, false, 0⟩, ⟨784, Tryz.f784, false, 0⟩, ⟨785, Tryz.f785, false, 0⟩, ⟨787, Tryz.f787, false, 0⟩]
noncomputable def fnsR : List FnE := [⟨3, Tryz.f3, false, 0⟩]
noncomputable def runW : Bool := mkTblZ Tryz.prog [] (607, 392) 137 fnsW tab0 (fun t => runF t 50 462 [] hs (isMapK wordsMs wordsClock) (fun _ _ => false))
noncomputable def mI (n : Nat) : AV := .int .i64 (.ofNat n)
noncomputable def mU (n : Nat) : AV := .int .u8 (.ofNat n)
noncomputable def mS0 : AV := .str 0 0
noncomputable def mN {α : Type} {d : Nat} (a b c e : T4 α d) : T4 α (d + 1) := (⟨a, b, c, e⟩ : Q (T4 α d))
noncomputable def mL {α : Type} (x : α) : T4 α 0 := (some x : Option α)
noncomputable def mR (l : List AV) : RT (List AV) RD := ⟨some l, T4.e RD⟩
noncomputable def mM : AV := .int .i64 (.negSucc 0)
noncomputable def m4 {α : Type} (x : T4 α 4) : T4 α 6 := mN (mN x (T4.e 4) (T4.e 4) (T4.e 4)) (T4.e 5) (T4.e 5) (T4.e 5)
noncomputable def m3 {α : Type} (x : T4 α 3) : T4 α 6 := m4 (mN x (T4.e 3) (T4.e 3) (T4.e 3))
noncomputable def m2 {α : Type} (x : T4 α 2) : T4 α 6 := m3 (mN x (T4.e 2) (T4.e 2) (T4.e 2))
noncomputable def m1 {α : Type} (x : T4 α 1) : T4 α 6 := m2 (mN x (T4.e 1) (T4.e 1) (T4.e 1))
/-- the storage for A = 0 .. 4 -/
noncomputable def storeB0 : AB := (.cells 1 57 57 0 false 5 ⟨some [mU 48], (m3 (mN (mN (mN (T4.e 0) (mL [mU 48]) (mL [mU 48]) (mL [mU 123])) (mN (mL [mU 0]) (mL [mU 0]) (mL [mU 12]) (mL [mU 48])) (mN (mL [mU 48]) (mL [mU 48]) (mL [mU 48]) (mL [mU 48])) (mN (mL [mU 0]) (mL [mU 0]) (mL [mU 0]) (mL [mU 0]))) (mN (mN (mL [mU 32]) (mL [mU 32]) (mL [mU 32]) (mL [mU 32])) (mN (mL [mU 32]) (mL [mU 32]) (mL [mU 32]) (mL [mU 32])) (mN (mL [mU 32]) (mL [mU 32]) (mL [mU 32]) (mL [mU 32])) (mN (mL [mU 32]) (mL [mU 32]) (mL [mU 32]) (mL [mU 32]))) (mN (mN (mL [mU 32]) (mL [mU 48]) (mL [mU 48]) (mL [mU 32])) (mN (mL [mU 32]) (mL [mU 32]) (mL [mU 48]) (mL [mU 48])) (mN (mL [mU 123]) (mL [mU 32]) (mL [mU 32]) (mL [mU 48])) (mN (mL [mU 48]) (mL [mU 48]) (mL [mU 48]) (mL [mU 48]))) (mN (mN (mL [mU 48]) (mL [mU 48]) (mL [mU 48]) (mL [mU 48])) (mN (mL [mU 48]) (mL [mU 48]) (mL [mU 32]) (mL [mU 48])) (mN (mL [mU 48]) (T4.e 0) (T4.e 0) (T4.e 0)) (T4.e 1))))⟩)
noncomputable def storeB1 : AB := (.cells 1 57 57 0 false 5 ⟨some [mU 48], (m3 (mN (mN (mN (T4.e 0) (mL [mU 48]) (mL [mU 48]) (mL [mU 65])) (mN (mL [mU 0]) (mL [mU 0]) (mL [mU 12]) (mL [mU 48])) (mN (mL [mU 48]) (mL [mU 48]) (mL [mU 48]) (mL [mU 48])) (mN (mL [mU 0]) (mL [mU 0]) (mL [mU 0]) (mL [mU 0]))) (mN (mN (mL [mU 32]) (mL [mU 32]) (mL [mU 32]) (mL [mU 32])) (mN (mL [mU 32]) (mL [mU 32]) (mL [mU 32]) (mL [mU 32])) (mN (mL [mU 32]) (mL [mU 32]) (mL [mU 32]) (mL [mU 32])) (mN (mL [mU 32]) (mL [mU 32]) (mL [mU 32]) (mL [mU 32]))) (mN (mN (mL [mU 32]) (mL [mU 48]) (mL [mU 48]) (mL [mU 32])) (mN (mL [mU 32]) (mL [mU 32]) (mL [mU 48]) (mL [mU 48])) (mN (mL [mU 123]) (mL [mU 32]) (mL [mU 32]) (mL [mU 48])) (mN (mL [mU 48]) (mL [mU 48]) (mL [mU 48]) (mL [mU 48]))) (mN (mN (mL [mU 48]) (mL [mU 48]) (mL [mU 48]) (mL [mU 48])) (mN (mL [mU 48]) (mL [mU 48]) (mL [mU 32]) (mL [mU 48])) (mN (mL [mU 48]) (T4.e 0) (T4.e 0) (T4.e 0)) (T4.e 1))))⟩)
noncomputable def storeB2 : AB := (.cells 1 57 57 0 false 5 ⟨some [mU 48], (m3 (mN (mN (mN (T4.e 0) (mL [mU 48]) (mL [mU 48]) (mL [mU 66])) (mN (mL [mU 0]) (mL [mU 0]) (mL [mU 12]) (mL [mU 48])) (mN (mL [mU 48]) (mL [mU 48]) (mL [mU 48]) (mL [mU 48])) (mN (mL [mU 0]) (mL [mU 0]) (mL [mU 0]) (mL [mU 0]))) (mN (mN (mL [mU 32]) (mL [mU 32]) (mL [mU 32]) (mL [mU 32])) (mN (mL [mU 32]) (mL [mU 32]) (mL [mU 32]) (mL [mU 32])) (mN (mL [mU 32]) (mL [mU 32]) (mL [mU 32]) (mL [mU 32])) (mN (mL [mU 32]) (mL [mU 32]) (mL [mU 32]) (mL [mU 32]))) (mN (mN (mL [mU 32]) (mL [mU 48]) (mL [mU 48]) (mL [mU 32])) (mN (mL [mU 32]) (mL [mU 32]) (mL [mU 48]) (mL [mU 48])) (mN (mL [mU 123]) (mL [mU 32]) (mL [mU 32]) (mL [mU 48])) (mN (mL [mU 48]) (mL [mU 48]) (mL [mU 48]) (mL [mU 48]))) (mN (mN (mL [mU 48]) (mL [mU 48]) (mL [mU 48]) (mL [mU 48])) (mN (mL [mU 48]) (mL [mU 48]) (mL [mU 32]) (mL [mU 48])) (mN (mL [mU 48]) (T4.e 0) (T4.e 0) (T4.e 0)) (T4.e 1))))⟩)
noncomputable def storeB3 : AB := (.cells 1 57 57 0 false 5 ⟨some [mU 48], (m3 (mN (mN (mN (T4.e 0) (mL [mU 48]) (mL [mU 48]) (mL [mU 67])) (mN (mL [mU 0]) (mL [mU 0]) (mL [mU 12]) (mL [mU 48])) (mN (mL [mU 48]) (mL [mU 48]) (mL [mU 48]) (mL [mU 48])) (mN (mL [mU 0]) (mL [mU 0]) (mL [mU 0]) (mL [mU 0]))) (mN (mN (mL [mU 32]) (mL [mU 32]) (mL [mU 32]) (mL [mU 32])) (mN (mL [mU 32]) (mL [mU 32]) (mL [mU 32]) (mL [mU 32])) (mN (mL [mU 32]) (mL [mU 32]) (mL [mU 32]) (mL [mU 32])) (mN (mL [mU 32]) (mL [mU 32]) (mL [mU 32]) (mL [mU 32]))) (mN (mN (mL [mU 32]) (mL [mU 48]) (mL [mU 48]) (mL [mU 32])) (mN (mL [mU 32]) (mL [mU 32]) (mL [mU 48]) (mL [mU 48])) (mN (mL [mU 123]) (mL [mU 32]) (mL [mU 32]) (mL [mU 48])) (mN (mL [mU 48]) (mL [mU 48]) (mL [mU 48]) (mL [mU 48]))) (mN (mN (mL [mU 48]) (mL [mU 48]) (mL [mU 48]) (mL [mU 48])) (mN (mL [mU 48]) (mL [mU 48]) (mL [mU 32]) (mL [mU 48])) (mN (mL [mU 48]) (T4.e 0) (T4.e 0) (T4.e 0)) (T4.e 1))))⟩)
noncomputable def storeB4 : AB := (.cells 1 57 57 0 false 5 ⟨some [mU 48], (m3 (mN (mN (mN (T4.e 0) (mL [mU 48]) (mL [mU 48]) (mL [mU 68])) (mN (mL [mU 0]) (mL [mU 0]) (mL [mU 12]) (mL [mU 48])) (mN (mL [mU 48]) (mL [mU 48]) (mL [mU 48]) (mL [mU 48])) (mN (mL [mU 0]) (mL [mU 0]) (mL [mU 0]) (mL [mU 0]))) (mN (mN (mL [mU 32]) (mL [mU 32]) (mL [mU 32]) (mL [mU 32])) (mN (mL [mU 32]) (mL [mU 32]) (mL [mU 32]) (mL [mU 32])) (mN (mL [mU 32]) (mL [mU 32]) (mL [mU 32]) (mL [mU 32])) (mN (mL [mU 32]) (mL [mU 32]) (mL [mU 32]) (mL [mU 32]))) (mN (mN (mL [mU 32]) (mL [mU 48]) (mL [mU 48]) (mL [mU 32])) (mN (mL [mU 32]) (mL [mU 32]) (mL [mU 48]) (mL [mU 48])) (mN (mL [mU 123]) (mL [mU 32]) (mL [mU 32]) (mL [mU 48])) (mN (mL [mU 48]) (mL [mU 48]) (mL [mU 48]) (mL [mU 48]))) (mN (mN (mL [mU 48]) (mL [mU 48]) (mL [mU 48]) (mL [mU 48])) (mN (mL [mU 48]) (mL [mU 48]) (mL [mU 32]) (mL [mU 48])) (mN (mL [mU 48]) (T4.e 0) (T4.e 0) (T4.e 0)) (T4.e 1))))⟩)
/-- the items, but for what their values are -/
noncomputable def itemsB : AB := (.cells 22 440 440 0 true 173 ⟨some [.str 1 65, mI 77, mM, mU 4, mU 0, .str 5 245773187411, mI 4, mI 0, .bool true, .bool false, .bool false, .bool false, .bool false, mI 4, mI 0, mI 1, mI 1, mM, mM, mM, mM, .nils], (m3 (mN (mN (mN (T4.e 0) (mL [.str 1 66, .unk, .unk, .unk, .unk, .unk, .unk, .unk, .unk, .unk, .unk, .unk, .unk, mI 3, mI 4, mI 1, mI 1, mM]) (mL [.str 1 67, .unk, .unk, .unk, .unk, .unk, .unk, .unk, .unk, .unk, .unk, .unk, .unk, mI 5, mI 7, mI 1, mI 1, mM]) (mL [.str 1 68, .unk, .unk, .unk, .unk, .unk, .unk, .unk, .unk, .unk, .unk, .unk, .unk, mI 4, mI 12, mI 1, mI 1, mM])) (mN (mL [.str 1 69, .unk, .unk, .unk, .unk, .unk, .unk, .unk, .unk, .unk, .unk, .unk, .unk, mI 6, mI 16, mI 1, mI 1, mM]) (mL [.str 1 84, .unk, .unk, .unk, .unk, .unk, .unk, .unk, .unk, .unk, .unk, .unk, .unk, mI 8, mI 22, mI 1, mI 1, mM]) (mL [.str 1 85, .unk, .unk, .unk, .unk, .unk, .unk, .unk, .unk, .unk, .unk, .unk, .unk, mI 3, mI 30, mI 1, mI 1, mM]) (mL [.str 1 71, .unk, .unk, .unk, .unk, .unk, .unk, .unk, .unk, .unk, .unk, .unk, .unk, mI 5, mI 33, mI 1, mI 1, mM])) (mN (mL [.str 2 16711, .unk, .unk, .unk, .unk, .unk, .unk, .unk, .unk, .unk, .unk, .unk, .unk, mI 2, mI 33, mI 1, mI 1, mM]) (mL [.str 2 16967, .unk, .unk, .unk, .unk, .unk, .unk, .unk, .unk, .unk, .unk, .unk, .unk, mI 3, mI 35, mI 1, mI 1, mM]) (mL [.str 1 72, .unk, .unk, .unk, .unk, .unk, .unk, .unk, .unk, .unk, .unk, .unk, .unk, mI 5, mI 38, mI 1, mI 1, mM]) (mL [.str 2 16711, .unk, .unk, .unk, .unk, .unk, .unk, .unk, .unk, .unk, .unk, .unk, .unk, mI 3, mI 38, mI 1, mI 1, mM])) (mN (mL [.str 2 16967, .unk, .unk, .unk, .unk, .unk, .unk, .unk, .unk, .unk, .unk, .unk, .unk, mI 2, mI 41, mI 1, mI 1, mM]) (mL [.str 3 4342100, .unk, .unk, .unk, .unk, .unk, .unk, .unk, .unk, .unk, .unk, .unk, .unk, mI 8, mI 43, mI 1, mI 1, mM]) (mL [.str 1 78, .unk, .unk, .unk, .unk, .unk, .unk, .unk, .unk, .unk, .unk, .unk, .unk, mI 2, mI 43, mI 4, mI 4, mM]) (mL [.str 1 73, .unk, .unk, .unk, .unk, .unk, .unk, .unk, .unk, .unk, .unk, .unk, .unk, mI 3, mI 51, mI 1, mI 1, mM]))) (mN (mN (mL [.str 1 75, .unk, .unk, .unk, .unk, .unk, .unk, .unk, .unk, .unk, .unk, .unk, .unk, mI 1, mI 54, mI 1, mI 1, mM]) (mL [.str 4 1146048327, .unk, .unk, .unk, .unk, .unk, .unk, .unk, .unk, .unk, .unk, .unk, .unk, mI 1, mI 54, mI 1, mI 1, mM]) (mL [.str 5 383532548421, .unk, .unk, .unk, .unk, .unk, .unk, .unk, .unk, .unk, .unk, .unk, .unk, mI 1, mI 54, mI 1, mI 1, mM]) (mL [.str 1 90, .unk, .unk, .unk, .unk, .unk, .unk, .unk, .unk, .unk, .unk, .unk, .unk, mI 2, mI 55, mI 1, mI 1, mM])) (T4.e 1) (T4.e 1) (T4.e 1)) (T4.e 2) (T4.e 2)))⟩)
/-- several kept calls without blocks, one after the other -/
noncomputable def memoAll (t : T4 FnD TD) (f : Nat) (ms : List Memo2) : Bool := List.rec (motive := fun _ => Bool) true (fun m _ ih => andB (runF t 60 f m.args (m.h0 gls 16) (memoK0 m) (fun _ _ => false)) ih) ms
noncomputable def run2_true : Bool := mkTblZ Tryz.prog [] (607, 392) 137 fnsL tab1 (fun t => runF t 60 7 [] hs isTrueK (fun _ _ => false))
noncomputable def tab2 : T4 FnD TD := T4.set TD 7 (trueD) tab1
noncomputable def doa0 : MemoW where
  args := [.ptr 21 7 0, .agg [.str 3 4473921, .unk, .unk, .sl 17 4 0 2 2 true, .nils], mI 0]
  ins := [some storeB0, some (.cells 2 4 4 0 true 207 ⟨some [mS0, .sl 18 5 0 1 1 true], (m1 (mN (T4.e 0) (mL [.str 2 20308, .sl 19 5 0 1 1 true]) (T4.e 0) (T4.e 0)))⟩), some (.cells 5 5 5 0 true 102 (mR [mU 2, .str 1 49, .unk, .unk, .unk])), some (.cells 5 5 5 0 true 102 (mR [mU 1, .str 1 65, .unk, .unk, .unk])), some itemsB]
  src := [(0, 0), (1, 2), (0, 4), (3, 1), (3, 3), (1, 0)]
  s := 7
  fz := 0
  opn := false
  el := 123
  row := [.sl 20 440 0 20 20 true, mI 57, .sl 16 57 0 57 57 true, .nils, .sym .u8 1000, .nili, .bool false]
  ps := 4
  res := .agg [.bool true, .nils, mS0, .bool false, mI 0]
  k := 552
  nb := storeB1
  pos := 2
  ver := 57
  off := 0
  len := 57
  mc := 57
  fz1 := 0
  opn1 := false
noncomputable def run3_doa0 : Bool := mkTblZ Tryz.prog [] (607, 392) 137 fnsA tab2 (fun t => runF t 60 161 doa0.args (doa0.h0 gls 16) (memoKW doa0 16) (fun _ _ => false))
noncomputable def dom0 : MemoW where
  args := [.ptr 21 7 0, .agg [.str 4 1163284301, .unk, .unk, .sl 17 4 0 2 2 true, .nils], mI 0]
  ins := [some storeB0, some (.cells 2 4 4 0 true 207 ⟨some [mS0, .sl 18 5 0 1 1 true], (m1 (mN (T4.e 0) (mL [.str 2 20308, .sl 19 5 0 1 1 true]) (T4.e 0) (T4.e 0)))⟩), some (.cells 5 5 5 0 true 102 (mR [mU 2, .str 1 48, .unk, .unk, .unk])), some (.cells 5 5 5 0 true 102 (mR [mU 1, .str 1 65, .unk, .unk, .unk])), some itemsB]
  src := [(0, 0), (1, 2), (0, 4), (3, 1), (3, 3), (1, 0)]
  s := 7
  fz := 0
  opn := false
  el := 123
  row := [.sl 20 440 0 20 20 true, mI 57, .sl 16 57 0 57 57 true, .nils, .sym .u8 1000, .nili, .bool false]
  ps := 4
  res := .agg [.bool true, .nils, mS0, .bool false, mI 0]
  k := 308
  nb := storeB0
  pos := 2
  ver := 57
  off := 0
  len := 57
  mc := 57
  fz1 := 0
  opn1 := false
noncomputable def run3_dom0 : Bool := mkTblZ Tryz.prog [] (607, 392) 137 fnsA tab2 (fun t => runF t 60 161 dom0.args (dom0.h0 gls 16) (memoKW dom0 16) (fun _ _ => false))
noncomputable def doa1 : MemoW where
  args := [.ptr 21 7 0, .agg [.str 3 4473921, .unk, .unk, .sl 17 4 0 2 2 true, .nils], mI 0]
  ins := [some storeB1, some (.cells 2 4 4 0 true 207 ⟨some [mS0, .sl 18 5 0 1 1 true], (m1 (mN (T4.e 0) (mL [.str 2 20308, .sl 19 5 0 1 1 true]) (T4.e 0) (T4.e 0)))⟩), some (.cells 5 5 5 0 true 102 (mR [mU 2, .str 1 49, .unk, .unk, .unk])), some (.cells 5 5 5 0 true 102 (mR [mU 1, .str 1 65, .unk, .unk, .unk])), some itemsB]
  src := [(0, 0), (1, 2), (0, 4), (3, 1), (3, 3), (1, 0)]
  s := 7
  fz := 0
  opn := false
  el := 123
  row := [.sl 20 440 0 20 20 true, mI 57, .sl 16 57 0 57 57 true, .nils, .sym .u8 1000, .nili, .bool false]
  ps := 4
  res := .agg [.bool true, .nils, mS0, .bool false, mI 0]
  k := 552
  nb := storeB2
  pos := 2
  ver := 57
  off := 0
  len := 57
  mc := 57
  fz1 := 0
  opn1 := false
noncomputable def run3_doa1 : Bool := mkTblZ Tryz.prog [] (607, 392) 137 fnsA tab2 (fun t => runF t 60 161 doa1.args (doa1.h0 gls 16) (memoKW doa1 16) (fun _ _ => false))
noncomputable def dom1 : MemoW where
  args := [.ptr 21 7 0, .agg [.str 4 1163284301, .unk, .unk, .sl 17 4 0 2 2 true, .nils], mI 0]
  ins := [some storeB1, some (.cells 2 4 4 0 true 207 ⟨some [mS0, .sl 18 5 0 1 1 true], (m1 (mN (T4.e 0) (mL [.str 2 20308, .sl 19 5 0 1 1 true]) (T4.e 0) (T4.e 0)))⟩), some (.cells 5 5 5 0 true 102 (mR [mU 2, .str 1 48, .unk, .unk, .unk])), some (.cells 5 5 5 0 true 102 (mR [mU 1, .str 1 65, .unk, .unk, .unk])), some itemsB]
  src := [(0, 0), (1, 2), (0, 4), (3, 1), (3, 3), (1, 0)]
  s := 7
  fz := 0
  opn := false
  el := 123
  row := [.sl 20 440 0 20 20 true, mI 57, .sl 16 57 0 57 57 true, .nils, .sym .u8 1000, .nili, .bool false]
  ps := 4
  res := .agg [.bool true, .nils, mS0, .bool false, mI 0]
  k := 308
  nb := storeB0
  pos := 2
  ver := 57
  off := 0
  len := 57
  mc := 57
  fz1 := 0
  opn1 := false
noncomputable def run3_dom1 : Bool := mkTblZ Tryz.prog [] (607, 392) 137 fnsA tab2 (fun t => runF t 60 161 dom1.args (dom1.h0 gls 16) (memoKW dom1 16) (fun _ _ => false))
noncomputable def doa2 : MemoW where
  args := [.ptr 21 7 0, .agg [.str 3 4473921, .unk, .unk, .sl 17 4 0 2 2 true, .nils], mI 0]
  ins := [some storeB2, some (.cells 2 4 4 0 true 207 ⟨some [mS0, .sl 18 5 0 1 1 true], (m1 (mN (T4.e 0) (mL [.str 2 20308, .sl 19 5 0 1 1 true]) (T4.e 0) (T4.e 0)))⟩), some (.cells 5 5 5 0 true 102 (mR [mU 2, .str 1 49, .unk, .unk, .unk])), some (.cells 5 5 5 0 true 102 (mR [mU 1, .str 1 65, .unk, .unk, .unk])), some itemsB]
  src := [(0, 0), (1, 2), (0, 4), (3, 1), (3, 3), (1, 0)]
  s := 7
  fz := 0
  opn := false
  el := 123
  row := [.sl 20 440 0 20 20 true, mI 57, .sl 16 57 0 57 57 true, .nils, .sym .u8 1000, .nili, .bool false]
  ps := 4
  res := .agg [.bool true, .nils, mS0, .bool false, mI 0]
  k := 552
  nb := storeB3
  pos := 2
  ver := 57
  off := 0
  len := 57
  mc := 57
  fz1 := 0
  opn1 := false
noncomputable def run3_doa2 : Bool := mkTblZ Tryz.prog [] (607, 392) 137 fnsA tab2 (fun t => runF t 60 161 doa2.args (doa2.h0 gls 16) (memoKW doa2 16) (fun _ _ => false))
noncomputable def dom2 : MemoW where
  args := [.ptr 21 7 0, .agg [.str 4 1163284301, .unk, .unk, .sl 17 4 0 2 2 true, .nils], mI 0]
  ins := [some storeB2, some (.cells 2 4 4 0 true 207 ⟨some [mS0, .sl 18 5 0 1 1 true], (m1 (mN (T4.e 0) (mL [.str 2 20308, .sl 19 5 0 1 1 true]) (T4.e 0) (T4.e 0)))⟩), some (.cells 5 5 5 0 true 102 (mR [mU 2, .str 1 48, .unk, .unk, .unk])), some (.cells 5 5 5 0 true 102 (mR [mU 1, .str 1 65, .unk, .unk, .unk])), some itemsB]
  src := [(0, 0), (1, 2), (0, 4), (3, 1), (3, 3), (1, 0)]
  s := 7
  fz := 0
  opn := false
  el := 123
  row := [.sl 20 440 0 20 20 true, mI 57, .sl 16 57 0 57 57 true, .nils, .sym .u8 1000, .nili, .bool false]
  ps := 4
  res := .agg [.bool true, .nils, mS0, .bool false, mI 0]
  k := 308
  nb := storeB0
  pos := 2
  ver := 57
  off := 0
  len := 57
  mc := 57
  fz1 := 0
  opn1 := false
noncomputable def run3_dom2 : Bool := mkTblZ Tryz.prog [] (607, 392) 137 fnsA tab2 (fun t => runF t 60 161 dom2.args (dom2.h0 gls 16) (memoKW dom2 16) (fun _ _ => false))
noncomputable def doa3 : MemoW where
  args := [.ptr 21 7 0, .agg [.str 3 4473921, .unk, .unk, .sl 17 4 0 2 2 true, .nils], mI 0]
  ins := [some storeB3, some (.cells 2 4 4 0 true 207 ⟨some [mS0, .sl 18 5 0 1 1 true], (m1 (mN (T4.e 0) (mL [.str 2 20308, .sl 19 5 0 1 1 true]) (T4.e 0) (T4.e 0)))⟩), some (.cells 5 5 5 0 true 102 (mR [mU 2, .str 1 49, .unk, .unk, .unk])), some (.cells 5 5 5 0 true 102 (mR [mU 1, .str 1 65, .unk, .unk, .unk])), some itemsB]
  src := [(0, 0), (1, 2), (0, 4), (3, 1), (3, 3), (1, 0)]
  s := 7
  fz := 0
  opn := false
  el := 123
  row := [.sl 20 440 0 20 20 true, mI 57, .sl 16 57 0 57 57 true, .nils, .sym .u8 1000, .nili, .bool false]
  ps := 4
  res := .agg [.bool true, .nils, mS0, .bool false, mI 0]
  k := 552
  nb := storeB4
  pos := 2
  ver := 57
  off := 0
  len := 57
  mc := 57
  fz1 := 0
  opn1 := false
noncomputable def run3_doa3 : Bool := mkTblZ Tryz.prog [] (607, 392) 137 fnsA tab2 (fun t => runF t 60 161 doa3.args (doa3.h0 gls 16) (memoKW doa3 16) (fun _ _ => false))
noncomputable def dom3 : MemoW where
  args := [.ptr 21 7 0, .agg [.str 4 1163284301, .unk, .unk, .sl 17 4 0 2 2 true, .nils], mI 0]
  ins := [some storeB3, some (.cells 2 4 4 0 true 207 ⟨some [mS0, .sl 18 5 0 1 1 true], (m1 (mN (T4.e 0) (mL [.str 2 20308, .sl 19 5 0 1 1 true]) (T4.e 0) (T4.e 0)))⟩), some (.cells 5 5 5 0 true 102 (mR [mU 2, .str 1 48, .unk, .unk, .unk])), some (.cells 5 5 5 0 true 102 (mR [mU 1, .str 1 65, .unk, .unk, .unk])), some itemsB]
  src := [(0, 0), (1, 2), (0, 4), (3, 1), (3, 3), (1, 0)]
  s := 7
  fz := 0
  opn := false
  el := 123
  row := [.sl 20 440 0 20 20 true, mI 57, .sl 16 57 0 57 57 true, .nils, .sym .u8 1000, .nili, .bool false]
  ps := 4
  res := .agg [.bool true, .nils, mS0, .bool false, mI 0]
  k := 308
  nb := storeB0
  pos := 2
  ver := 57
  off := 0
  len := 57
  mc := 57
  fz1 := 0
  opn1 := false
noncomputable def run3_dom3 : Bool := mkTblZ Tryz.prog [] (607, 392) 137 fnsA tab2 (fun t => runF t 60 161 dom3.args (dom3.h0 gls 16) (memoKW dom3 16) (fun _ _ => false))
noncomputable def doa4 : MemoW where
  args := [.ptr 21 7 0, .agg [.str 3 4473921, .unk, .unk, .sl 17 4 0 2 2 true, .nils], mI 0]
  ins := [some storeB4, some (.cells 2 4 4 0 true 207 ⟨some [mS0, .sl 18 5 0 1 1 true], (m1 (mN (T4.e 0) (mL [.str 2 20308, .sl 19 5 0 1 1 true]) (T4.e 0) (T4.e 0)))⟩), some (.cells 5 5 5 0 true 102 (mR [mU 2, .str 1 49, .unk, .unk, .unk])), some (.cells 5 5 5 0 true 102 (mR [mU 1, .str 1 65, .unk, .unk, .unk])), some itemsB]
  src := [(0, 0), (1, 2), (0, 4), (3, 1), (3, 3), (1, 0)]
  s := 7
  fz := 0
  opn := false
  el := 123
  row := [.sl 20 440 0 20 20 true, mI 57, .sl 16 57 0 57 57 true, .nils, .sym .u8 1000, .nili, .bool false]
  ps := 4
  res := .agg [.bool true, .nils, mS0, .bool false, mI 0]
  k := 552
  nb := (.cells 1 57 57 0 false 5 ⟨some [mU 48], (m3 (mN (mN (mN (T4.e 0) (mL [mU 48]) (mL [mU 48]) (mL [mU 69])) (mN (mL [mU 0]) (mL [mU 0]) (mL [mU 12]) (mL [mU 48])) (mN (mL [mU 48]) (mL [mU 48]) (mL [mU 48]) (mL [mU 48])) (mN (mL [mU 0]) (mL [mU 0]) (mL [mU 0]) (mL [mU 0]))) (mN (mN (mL [mU 32]) (mL [mU 32]) (mL [mU 32]) (mL [mU 32])) (mN (mL [mU 32]) (mL [mU 32]) (mL [mU 32]) (mL [mU 32])) (mN (mL [mU 32]) (mL [mU 32]) (mL [mU 32]) (mL [mU 32])) (mN (mL [mU 32]) (mL [mU 32]) (mL [mU 32]) (mL [mU 32]))) (mN (mN (mL [mU 32]) (mL [mU 48]) (mL [mU 48]) (mL [mU 32])) (mN (mL [mU 32]) (mL [mU 32]) (mL [mU 48]) (mL [mU 48])) (mN (mL [mU 123]) (mL [mU 32]) (mL [mU 32]) (mL [mU 48])) (mN (mL [mU 48]) (mL [mU 48]) (mL [mU 48]) (mL [mU 48]))) (mN (mN (mL [mU 48]) (mL [mU 48]) (mL [mU 48]) (mL [mU 48])) (mN (mL [mU 48]) (mL [mU 48]) (mL [mU 32]) (mL [mU 48])) (mN (mL [mU 48]) (T4.e 0) (T4.e 0) (T4.e 0)) (T4.e 1))))⟩)
  pos := 2
  ver := 57
  off := 0
  len := 57
  mc := 57
  fz1 := 0
  opn1 := false
noncomputable def run3_doa4 : Bool := mkTblZ Tryz.prog [] (607, 392) 137 fnsA tab2 (fun t => runF t 60 161 doa4.args (doa4.h0 gls 16) (memoKW doa4 16) (fun _ _ => false))
noncomputable def dom4 : MemoW where
  args := [.ptr 21 7 0, .agg [.str 4 1163284301, .unk, .unk, .sl 17 4 0 2 2 true, .nils], mI 0]
  ins := [some storeB4, some (.cells 2 4 4 0 true 207 ⟨some [mS0, .sl 18 5 0 1 1 true], (m1 (mN (T4.e 0) (mL [.str 2 20308, .sl 19 5 0 1 1 true]) (T4.e 0) (T4.e 0)))⟩), some (.cells 5 5 5 0 true 102 (mR [mU 2, .str 1 48, .unk, .unk, .unk])), some (.cells 5 5 5 0 true 102 (mR [mU 1, .str 1 65, .unk, .unk, .unk])), some itemsB]
  src := [(0, 0), (1, 2), (0, 4), (3, 1), (3, 3), (1, 0)]
  s := 7
  fz := 0
  opn := false
  el := 123
  row := [.sl 20 440 0 20 20 true, mI 57, .sl 16 57 0 57 57 true, .nils, .sym .u8 1000, .nili, .bool false]
  ps := 4
  res := .agg [.bool true, .nils, mS0, .bool false, mI 0]
  k := 308
  nb := storeB0
  pos := 2
  ver := 57
  off := 0
  len := 57
  mc := 57
  fz1 := 0
  opn1 := false
noncomputable def run3_dom4 : Bool := mkTblZ Tryz.prog [] (607, 392) 137 fnsA tab2 (fun t => runF t 60 161 dom4.args (dom4.h0 gls 16) (memoKW dom4 16) (fun _ _ => false))
noncomputable def doChain (d : FnD) : FnD := memoDW doa0 16 (memoDW dom0 16 (memoDW doa1 16 (memoDW dom1 16 (memoDW doa2 16 (memoDW dom2 16 (memoDW doa3 16 (memoDW dom3 16 (memoDW doa4 16 (memoDW dom4 16 (d))))))))))
noncomputable def withDo (t : T4 FnD TD) (k : T4 FnD TD → Bool) : Bool := T4.getK TD 161 t fun d => T4.setK TD 161 (doChain d) t k
noncomputable def rk0 (l : List FnE) (t : T4 FnD TD) (f : Nat) (m : Memo2) : Bool := mkTblZ Tryz.prog [] (607, 392) 137 l t (fun t => runF t 60 f m.args (m.h0 gls 16) (memoK0 m) (fun _ _ => false))
noncomputable def rkW (l : List FnE) (t : T4 FnD TD) (f : Nat) (m : Memo2) : Bool := mkTblZ Tryz.prog [] (607, 392) 137 l t (fun t => withDo t fun t => runF t 60 f m.args (m.h0 gls 16) (memoK0 m) (fun _ _ => false))
noncomputable def tab3 : T4 FnD TD := tab2
noncomputable def dat : Memo2 where
  args := []
  ins := []
  src := []
  c := 2
  n := 3
  tot := 64
  res := .sl 2048 380 0 20 20 false
  out := (mN (mN (mN (mN (mN (mL 4) (mL 62) (mL 63) (T4.e 0)) (T4.e 1) (T4.e 1) (T4.e 1)) (T4.e 2) (T4.e 2) (T4.e 2)) (T4.e 3) (T4.e 3) (T4.e 3)) (T4.e 4) (T4.e 4) (T4.e 4))
  sub := (mN (mN (mN (mN (mN (mL (.cells 19 380 380 0 true 150 ⟨some [mI 77, .str 1 65, mS0, .str 5 176968710483, mU 0, .bool false, mI 0, mI 0, .nils, .bool false, .bool false, .bool false, .bool false, .bool false, .nils, .nils, .nils, mI 0, mI 0], (m3 (mN (mN (mN (T4.e 0) (mL [mI 77, .str 1 66, mS0, .str 5 176968710483, mU 1, .bool true, mI 0, mI 0, .nils, .bool false, .bool false, .bool false, .bool false, .bool false, .nils, .nils, .nils, mI 0, mI 0]) (mL [mI 77, .str 1 67, mS0, .str 7 16107115893696569, mU 0, .bool false, mI 0, mI 0, .nils, .bool false, .bool false, .bool false, .bool false, .bool false, .nils, .nils, .nils, mI 0, mI 0]) (mL [mI 77, .str 1 68, mS0, .str 5 177002264915, mU 2, .bool true, mI 0, mI 0, .nils, .bool false, .bool false, .bool false, .bool false, .bool false, .nils, .nils, .nils, mI 0, mI 0])) (mN (mL [mI 77, .str 1 69, mS0, .str 6 62917751429722, mU 0, .bool false, mI 0, mI 0, .nils, .bool false, .bool false, .bool false, .bool false, .bool false, .nils, .nils, .nils, mI 0, mI 0]) (mL [mI 77, .str 1 84, mS0, .str 4 691546200, mU 0, .bool false, mI 0, mI 0, .nils, .bool false, .bool false, .bool false, .bool false, .bool false, .nils, .nils, .nils, mI 0, mI 0]) (mL [mI 77, .str 1 85, mS0, .str 4 691218520, mU 0, .bool false, mI 0, mI 0, .nils, .bool false, .bool false, .bool false, .bool true, .bool false, .nils, .nils, .nils, mI 0, mI 0]) (mL [mI 1, .str 1 71, mS0, mS0, mU 0, .bool false, mI 0, mI 0, .nils, .bool false, .bool false, .bool false, .bool false, .bool false, .nils, .nils, .nils, mI 0, mI 0])) (mN (mL [mI 2, .str 2 16711, mS0, .str 4 691152953, mU 0, .bool false, mI 0, mI 0, .nils, .bool false, .bool false, .bool false, .bool false, .bool false, .nils, .nils, .nils, mI 0, mI 0]) (mL [mI 2, .str 2 16967, mS0, .str 4 691218520, mU 0, .bool false, mI 0, mI 0, .nils, .bool false, .bool false, .bool false, .bool false, .bool false, .nils, .nils, .nils, mI 0, mI 0]) (mL [mI 1, .str 1 72, mS0, mS0, mU 0, .bool false, mI 0, mI 0, .nils, .bool false, .bool false, .bool false, .bool false, .bool false, .nils, .nils, .nils, mI 0, mI 0]) (mL [mI 2, .str 2 16711, mS0, .str 5 176951933267, mU 0, .bool false, mI 0, mI 0, .nils, .bool false, .bool false, .bool false, .bool false, .bool false, .nils, .nils, .nils, mI 0, mI 0])) (mN (mL [mI 2, .str 2 16967, mS0, .str 4 691152984, mU 0, .bool false, mI 0, mI 0, .nils, .bool false, .bool false, .bool false, .bool false, .bool false, .nils, .nils, .nils, mI 0, mI 0]) (mL [mI 1, .str 3 4342100, mS0, mS0, mU 0, .bool false, mI 0, mI 0, .nils, .bool false, .bool false, .bool false, .bool false, .bool false, .nils, .nils, .nils, mI 0, mI 0]) (mL [mI 2, .str 1 78, mS0, .str 4 691152953, mU 0, .bool false, mI 4, mI 0, .nils, .bool false, .bool false, .bool false, .bool false, .bool false, .nils, .nils, .nils, mI 0, mI 0]) (mL [mI 77, .str 1 73, mS0, .str 4 691218489, mU 0, .bool false, mI 0, mI 0, .nils, .bool false, .bool false, .bool false, .bool false, .bool false, .nils, .nils, .nils, mI 0, mI 0]))) (mN (mN (mL [mI 77, .str 1 75, mS0, .str 1 88, mU 0, .bool false, mI 0, mI 0, .nils, .bool false, .bool false, .bool false, .bool false, .bool false, .nils, .nils, .nils, mI 0, mI 0]) (mL [mI 88, .str 4 1146048327, mS0, mS0, mU 0, .bool false, mI 0, mI 0, .nils, .bool false, .bool false, .bool false, .bool false, .bool false, .sl 2049 5 0 1 1 true, .nils, .nils, mI 0, mI 0]) (mL [mI 88, .str 5 383532548421, mS0, mS0, mU 0, .bool false, mI 0, mI 0, .nils, .bool false, .bool false, .bool false, .bool false, .bool false, .sl 2050 15 0 3 3 true, .nils, .nils, mI 0, mI 0]) (mL [mI 77, .str 1 90, mS0, .str 4 691152953, mU 0, .bool false, mI 0, mI 0, .nils, .bool false, .bool false, .bool false, .bool false, .bool false, .nils, .nils, .nils, mI 0, mI 0])) (T4.e 1) (T4.e 1) (T4.e 1)) (T4.e 2) (T4.e 2)))⟩)) (mL (.cells 5 5 0 0 false 102 (mR [mU 3, .str 1 89, mI 0, mI 0, .bool false]))) (mL (.cells 5 15 0 0 false 102 ⟨some [mU 3, .str 1 65, mI 0, mI 0, .bool false], (m1 (mN (T4.e 0) (mL [mU 1, .str 4 1431455828, mI 0, mI 0, .bool false]) (mL [mU 3, .str 1 70, mI 0, mI 0, .bool false]) (T4.e 0)))⟩)) (T4.e 0)) (T4.e 1) (T4.e 1) (T4.e 1)) (T4.e 2) (T4.e 2) (T4.e 2)) (T4.e 3) (T4.e 3) (T4.e 3)) (T4.e 4) (T4.e 4) (T4.e 4))
  refs := []
noncomputable def run4_dat : Bool := mkTblZ Tryz.prog [] (607, 392) 137 fnsD tab3 (fun t => runF t 60 22 dat.args (dat.h0 gls 16) (memoK2 dat 16) (fun _ _ => false))
noncomputable def tab4 : T4 FnD TD := T4.set TD 22 (memoD2 dat 16 (failD)) tab3
noncomputable def lay : Memo2 where
  args := [.sl 16 380 0 20 20 true]
  ins := [some (.cells 19 380 380 0 true 150 ⟨some [mI 77, .str 1 65, mS0, .str 5 176968710483, mU 0, .bool false, mI 0, mI 0, .nils, .bool false, .bool false, .bool false, .bool false, .bool false, .nils, .nils, .nils, mI 0, mI 0], (m3 (mN (mN (mN (T4.e 0) (mL [mI 77, .str 1 66, mS0, .str 5 176968710483, mU 1, .bool true, mI 0, mI 0, .nils, .bool false, .bool false, .bool false, .bool false, .bool false, .nils, .nils, .nils, mI 0, mI 0]) (mL [mI 77, .str 1 67, mS0, .str 7 16107115893696569, mU 0, .bool false, mI 0, mI 0, .nils, .bool false, .bool false, .bool false, .bool false, .bool false, .nils, .nils, .nils, mI 0, mI 0]) (mL [mI 77, .str 1 68, mS0, .str 5 177002264915, mU 2, .bool true, mI 0, mI 0, .nils, .bool false, .bool false, .bool false, .bool false, .bool false, .nils, .nils, .nils, mI 0, mI 0])) (mN (mL [mI 77, .str 1 69, mS0, .str 6 62917751429722, mU 0, .bool false, mI 0, mI 0, .nils, .bool false, .bool false, .bool false, .bool false, .bool false, .nils, .nils, .nils, mI 0, mI 0]) (mL [mI 77, .str 1 84, mS0, .str 4 691546200, mU 0, .bool false, mI 0, mI 0, .nils, .bool false, .bool false, .bool false, .bool false, .bool false, .nils, .nils, .nils, mI 0, mI 0]) (mL [mI 77, .str 1 85, mS0, .str 4 691218520, mU 0, .bool false, mI 0, mI 0, .nils, .bool false, .bool false, .bool false, .bool true, .bool false, .nils, .nils, .nils, mI 0, mI 0]) (mL [mI 1, .str 1 71, mS0, mS0, mU 0, .bool false, mI 0, mI 0, .nils, .bool false, .bool false, .bool false, .bool false, .bool false, .nils, .nils, .nils, mI 0, mI 0])) (mN (mL [mI 2, .str 2 16711, mS0, .str 4 691152953, mU 0, .bool false, mI 0, mI 0, .nils, .bool false, .bool false, .bool false, .bool false, .bool false, .nils, .nils, .nils, mI 0, mI 0]) (mL [mI 2, .str 2 16967, mS0, .str 4 691218520, mU 0, .bool false, mI 0, mI 0, .nils, .bool false, .bool false, .bool false, .bool false, .bool false, .nils, .nils, .nils, mI 0, mI 0]) (mL [mI 1, .str 1 72, mS0, mS0, mU 0, .bool false, mI 0, mI 0, .nils, .bool false, .bool false, .bool false, .bool false, .bool false, .nils, .nils, .nils, mI 0, mI 0]) (mL [mI 2, .str 2 16711, mS0, .str 5 176951933267, mU 0, .bool false, mI 0, mI 0, .nils, .bool false, .bool false, .bool false, .bool false, .bool false, .nils, .nils, .nils, mI 0, mI 0])) (mN (mL [mI 2, .str 2 16967, mS0, .str 4 691152984, mU 0, .bool false, mI 0, mI 0, .nils, .bool false, .bool false, .bool false, .bool false, .bool false, .nils, .nils, .nils, mI 0, mI 0]) (mL [mI 1, .str 3 4342100, mS0, mS0, mU 0, .bool false, mI 0, mI 0, .nils, .bool false, .bool false, .bool false, .bool false, .bool false, .nils, .nils, .nils, mI 0, mI 0]) (mL [mI 2, .str 1 78, mS0, .str 4 691152953, mU 0, .bool false, mI 4, mI 0, .nils, .bool false, .bool false, .bool false, .bool false, .bool false, .nils, .nils, .nils, mI 0, mI 0]) (mL [mI 77, .str 1 73, mS0, .str 4 691218489, mU 0, .bool false, mI 0, mI 0, .nils, .bool false, .bool false, .bool false, .bool false, .bool false, .nils, .nils, .nils, mI 0, mI 0]))) (mN (mN (mL [mI 77, .str 1 75, mS0, .str 1 88, mU 0, .bool false, mI 0, mI 0, .nils, .bool false, .bool false, .bool false, .bool false, .bool false, .nils, .nils, .nils, mI 0, mI 0]) (mL [mI 88, .str 4 1146048327, mS0, mS0, mU 0, .bool false, mI 0, mI 0, .nils, .bool false, .bool false, .bool false, .bool false, .bool false, .sl 17 5 0 1 1 true, .nils, .nils, mI 0, mI 0]) (mL [mI 88, .str 5 383532548421, mS0, mS0, mU 0, .bool false, mI 0, mI 0, .nils, .bool false, .bool false, .bool false, .bool false, .bool false, .sl 18 15 0 3 3 true, .nils, .nils, mI 0, mI 0]) (mL [mI 77, .str 1 90, mS0, .str 4 691152953, mU 0, .bool false, mI 0, mI 0, .nils, .bool false, .bool false, .bool false, .bool false, .bool false, .nils, .nils, .nils, mI 0, mI 0])) (T4.e 1) (T4.e 1) (T4.e 1)) (T4.e 2) (T4.e 2)))⟩), some (.cells 5 5 0 0 false 102 (mR [mU 3, .str 1 89, mI 0, mI 0, .bool false])), some (.cells 5 15 0 0 false 102 ⟨some [mU 3, .str 1 65, mI 0, mI 0, .bool false], (m1 (mN (T4.e 0) (mL [mU 1, .str 4 1431455828, mI 0, mI 0, .bool false]) (mL [mU 3, .str 1 70, mI 0, mI 0, .bool false]) (T4.e 0)))⟩)]
  src := [(0, 0), (1, 337), (1, 356)]
  c := 10
  n := 3
  tot := 936
  res := .tup [.agg [.sl 10240 440 0 20 20 true, mI 57], .agg [mI 0, mI 0, mI 0]]
  out := (mN (mN (mN (mN (mN (mL 447) (mL 500) (mL 505) (T4.e 0)) (T4.e 1) (T4.e 1) (T4.e 1)) (T4.e 2) (T4.e 2) (T4.e 2)) (T4.e 3) (T4.e 3) (T4.e 3)) (T4.e 4) (T4.e 4) (T4.e 4))
  sub := (mN (mN (mN (mN (mN (mL (.cells 22 440 440 0 true 173 ⟨some [.str 1 65, mI 77, mM, mU 4, mU 0, .str 5 245773187411, mI 4, mI 0, .bool true, .bool false, .bool false, .bool false, .bool false, mI 4, mI 0, mI 1, mI 1, mM, mM, mM, mM, .nils], (m3 (mN (mN (mN (T4.e 0) (mL [.str 1 66, mI 77, mM, mU 4, mU 1, .str 5 245773187411, mI 4, mI 0, .bool true, .bool false, .bool false, .bool false, .bool false, mI 3, mI 4, mI 1, mI 1, mM, mM, mM, mM, .nils]) (mL [.str 1 67, mI 77, mM, mU 4, mU 0, .str 6 62918422509881, mI 5, mI 2, .bool false, .bool false, .bool false, .bool false, .bool false, mI 5, mI 7, mI 1, mI 1, mM, mM, mM, mM, .nils]) (mL [.str 1 68, mI 77, mM, mU 4, mU 2, .str 7 16106991608478035, mI 6, mI 0, .bool true, .bool false, .bool false, .bool false, .bool false, mI 4, mI 12, mI 1, mI 1, mM, mM, mM, mM, .nils])) (mN (mL [.str 1 69, mI 77, mM, mU 5, mU 0, .str 6 62917751429722, mI 5, mI 2, .bool false, .bool false, .bool false, .bool false, .bool false, mI 6, mI 16, mI 1, mI 1, mM, mM, mM, mM, .nils]) (mL [.str 1 84, mI 77, mM, mU 2, mU 0, .str 8 6365935209750747224, mI 0, mI 0, .bool false, .bool false, .bool false, .bool false, .bool false, mI 8, mI 22, mI 1, mI 1, mM, mM, mM, mM, .nils]) (mL [.str 1 85, mI 77, mM, mU 2, mU 0, .str 3 5789784, mI 0, mI 0, .bool false, .bool false, .bool false, .bool true, .bool false, mI 3, mI 30, mI 1, mI 1, mM, mM, mM, mM, .nils]) (mL [.str 1 71, mI 1, mM, mU 0, mU 0, mS0, mI 0, mI 0, .bool false, .bool false, .bool false, .bool false, .bool false, mI 5, mI 33, mI 1, mI 1, mM, mM, mM, mM, .nils])) (mN (mL [.str 2 16711, mI 2, mI 7, mU 4, mU 0, .str 2 14649, mI 2, mI 0, .bool false, .bool false, .bool false, .bool false, .bool false, mI 2, mI 33, mI 1, mI 1, mM, mM, mM, mM, .nils]) (mL [.str 2 16967, mI 2, mI 7, mU 2, mU 0, .str 3 5789784, mI 0, mI 0, .bool false, .bool false, .bool false, .bool false, .bool false, mI 3, mI 35, mI 1, mI 1, mM, mM, mM, mM, .nils]) (mL [.str 1 72, mI 1, mM, mU 0, mU 0, mS0, mI 0, mI 0, .bool false, .bool false, .bool false, .bool false, .bool false, mI 5, mI 38, mI 1, mI 1, mM, mM, mM, mM, .nils]) (mL [.str 2 16711, mI 2, mI 10, mU 4, mU 0, .str 4 960051539, mI 3, mI 0, .bool true, .bool false, .bool false, .bool false, .bool false, mI 3, mI 38, mI 1, mI 1, mM, mM, mM, mM, .nils])) (mN (mL [.str 2 16967, mI 2, mI 10, mU 2, mU 0, .str 2 22616, mI 0, mI 0, .bool false, .bool false, .bool false, .bool false, .bool false, mI 2, mI 41, mI 1, mI 1, mM, mM, mM, mM, .nils]) (mL [.str 3 4342100, mI 1, mM, mU 0, mU 0, mS0, mI 0, mI 0, .bool false, .bool false, .bool false, .bool false, .bool false, mI 8, mI 43, mI 1, mI 1, mM, mM, mM, mM, .nils]) (mL [.str 1 78, mI 2, mI 13, mU 4, mU 0, .str 2 14649, mI 2, mI 0, .bool false, .bool false, .bool false, .bool false, .bool false, mI 2, mI 43, mI 4, mI 4, mM, mM, mM, mM, .nils]) (mL [.str 1 73, mI 77, mM, mU 4, mU 0, .str 3 3750201, mI 3, mI 0, .bool false, .bool false, .bool false, .bool false, .bool false, mI 3, mI 51, mI 1, mI 1, mM, mM, mM, mM, .nils]))) (mN (mN (mL [.str 1 75, mI 77, mM, mU 2, mU 0, .str 1 88, mI 0, mI 0, .bool false, .bool false, .bool false, .bool false, .bool false, mI 1, mI 54, mI 1, mI 1, mM, mM, mM, mM, .nils]) (mL [.str 4 1146048327, mI 88, mI 16, mU 2, mU 0, .str 1 88, mI 0, mI 0, .bool false, .bool false, .bool false, .bool false, .bool false, mI 1, mI 54, mI 1, mI 1, mM, mM, mM, mM, .sl 10241 5 0 1 1 true]) (mL [.str 5 383532548421, mI 88, mI 16, mU 2, mU 0, .str 1 88, mI 0, mI 0, .bool false, .bool false, .bool false, .bool false, .bool false, mI 1, mI 54, mI 1, mI 1, mM, mM, mM, mM, .sl 10242 15 0 3 3 true]) (mL [.str 1 90, mI 77, mM, mU 4, mU 0, .str 2 14649, mI 2, mI 0, .bool false, .bool false, .bool false, .bool false, .bool false, mI 2, mI 55, mI 1, mI 1, mM, mM, mM, mM, .nils])) (T4.e 1) (T4.e 1) (T4.e 1)) (T4.e 2) (T4.e 2)))⟩)) (mL (.cells 5 5 0 0 true 102 (mR [mU 3, .str 1 89, mI 0, mI 0, .bool false]))) (mL (.cells 5 15 0 0 true 102 ⟨some [mU 3, .str 1 65, mI 0, mI 0, .bool false], (m1 (mN (T4.e 0) (mL [mU 1, .str 4 1431455828, mI 0, mI 0, .bool false]) (mL [mU 3, .str 1 70, mI 0, mI 0, .bool false]) (T4.e 0)))⟩)) (T4.e 0)) (T4.e 1) (T4.e 1) (T4.e 1)) (T4.e 2) (T4.e 2) (T4.e 2)) (T4.e 3) (T4.e 3) (T4.e 3)) (T4.e 4) (T4.e 4) (T4.e 4))
  refs := []
noncomputable def run5_lay : Bool := mkTblZ Tryz.prog [] (607, 392) 137 fnsB tab4 (fun t => runF t 60 26 lay.args (lay.h0 gls 16) (memoK2 lay 16) (fun _ _ => false))
noncomputable def tab5 : T4 FnD TD := T4.set TD 26 (memoD2 lay 16 (failD)) tab4
noncomputable def ou0 : Memo2 where
  args := [mU 0, .agg [mU 17, mU 200], mU 91]
  ins := []
  src := []
  c := 0
  n := 0
  tot := 0
  res := .bool true
  out := (T4.e 5)
  sub := (T4.e 5)
  refs := []
noncomputable def ou1 : Memo2 where
  args := [mU 1, .agg [mU 154, mU 200], mU 222]
  ins := []
  src := []
  c := 0
  n := 0
  tot := 0
  res := .bool true
  out := (T4.e 5)
  sub := (T4.e 5)
  refs := []
noncomputable def ou2 : Memo2 where
  args := [mU 2, .agg [mU 50, mU 200], mU 187]
  ins := []
  src := []
  c := 0
  n := 0
  tot := 0
  res := .bool true
  out := (T4.e 5)
  sub := (T4.e 5)
  refs := []
noncomputable def ou3 : Memo2 where
  args := [mU 3, .agg [mU 151, mU 200], mU 221]
  ins := []
  src := []
  c := 0
  n := 0
  tot := 0
  res := .bool true
  out := (T4.e 5)
  sub := (T4.e 5)
  refs := []
noncomputable def ou4 : Memo2 where
  args := [mU 4, .agg [mU 118, mU 200], mU 124]
  ins := []
  src := []
  c := 0
  n := 0
  tot := 0
  res := .bool true
  out := (T4.e 5)
  sub := (T4.e 5)
  refs := []
noncomputable def ou5 : Memo2 where
  args := [mU 5, .agg [mU 66, mU 200], mU 107]
  ins := []
  src := []
  c := 0
  n := 0
  tot := 0
  res := .bool true
  out := (T4.e 5)
  sub := (T4.e 5)
  refs := []
noncomputable def ou6 : Memo2 where
  args := [mU 6, .agg [mU 163, mU 200], mU 139]
  ins := []
  src := []
  c := 0
  n := 0
  tot := 0
  res := .bool true
  out := (T4.e 5)
  sub := (T4.e 5)
  refs := []
noncomputable def ou7 : Memo2 where
  args := [mU 7, .agg [mU 93, mU 200], mU 31]
  ins := []
  src := []
  c := 0
  n := 0
  tot := 0
  res := .bool true
  out := (T4.e 5)
  sub := (T4.e 5)
  refs := []
noncomputable def ou8 : Memo2 where
  args := [mU 8, .agg [mU 42, mU 200], mU 184]
  ins := []
  src := []
  c := 0
  n := 0
  tot := 0
  res := .bool true
  out := (T4.e 5)
  sub := (T4.e 5)
  refs := []
noncomputable def ou9 : Memo2 where
  args := [mU 9, .agg [mU 181, mU 200], mU 145]
  ins := []
  src := []
  c := 0
  n := 0
  tot := 0
  res := .bool true
  out := (T4.e 5)
  sub := (T4.e 5)
  refs := []
noncomputable def ou10 : Memo2 where
  args := [mU 10, .agg [mU 50, mU 200], mU 187]
  ins := []
  src := []
  c := 0
  n := 0
  tot := 0
  res := .bool true
  out := (T4.e 5)
  sub := (T4.e 5)
  refs := []
noncomputable def ou11 : Memo2 where
  args := [mU 11, .agg [mU 71, mU 200], mU 194]
  ins := []
  src := []
  c := 0
  n := 0
  tot := 0
  res := .bool true
  out := (T4.e 5)
  sub := (T4.e 5)
  refs := []
noncomputable def ou12 : Memo2 where
  args := [mU 12, .agg [mU 65, mU 200], mU 192]
  ins := []
  src := []
  c := 0
  n := 0
  tot := 0
  res := .bool true
  out := (T4.e 5)
  sub := (T4.e 5)
  refs := []
noncomputable def ou13 : Memo2 where
  args := [mU 13, .agg [mU 117, mU 200], mU 39]
  ins := []
  src := []
  c := 0
  n := 0
  tot := 0
  res := .bool true
  out := (T4.e 5)
  sub := (T4.e 5)
  refs := []
noncomputable def ou14 : Memo2 where
  args := [mU 14, .agg [mU 49, mU 200], mU 16]
  ins := []
  src := []
  c := 0
  n := 0
  tot := 0
  res := .bool true
  out := (T4.e 5)
  sub := (T4.e 5)
  refs := []
noncomputable def ou15 : Memo2 where
  args := [mU 15, .agg [mU 81, mU 200], mU 197]
  ins := []
  src := []
  c := 0
  n := 0
  tot := 0
  res := .bool true
  out := (T4.e 5)
  sub := (T4.e 5)
  refs := []
noncomputable def ou16 : Memo2 where
  args := [mU 16, .agg [mU 105, mU 200], mU 120]
  ins := []
  src := []
  c := 0
  n := 0
  tot := 0
  res := .bool true
  out := (T4.e 5)
  sub := (T4.e 5)
  refs := []
noncomputable def ou17 : Memo2 where
  args := [mU 17, .agg [mU 221, mU 200], mU 159]
  ins := []
  src := []
  c := 0
  n := 0
  tot := 0
  res := .bool true
  out := (T4.e 5)
  sub := (T4.e 5)
  refs := []
noncomputable def ou18 : Memo2 where
  args := [mU 18, .agg [mU 45, mU 200], mU 185]
  ins := []
  src := []
  c := 0
  n := 0
  tot := 0
  res := .bool true
  out := (T4.e 5)
  sub := (T4.e 5)
  refs := []
noncomputable def ou19 : Memo2 where
  args := [mU 19, .agg [mU 26, mU 200], mU 94]
  ins := []
  src := []
  c := 0
  n := 0
  tot := 0
  res := .bool true
  out := (T4.e 5)
  sub := (T4.e 5)
  refs := []
noncomputable def ou20 : Memo2 where
  args := [mU 20, .agg [mU 181, mU 200], mU 60]
  ins := []
  src := []
  c := 0
  n := 0
  tot := 0
  res := .bool true
  out := (T4.e 5)
  sub := (T4.e 5)
  refs := []
noncomputable def ou21 : Memo2 where
  args := [mU 21, .agg [mU 193, mU 200], mU 64]
  ins := []
  src := []
  c := 0
  n := 0
  tot := 0
  res := .bool true
  out := (T4.e 5)
  sub := (T4.e 5)
  refs := []
noncomputable def ou22 : Memo2 where
  args := [mU 22, .agg [mU 13, mU 200], mU 175]
  ins := []
  src := []
  c := 0
  n := 0
  tot := 0
  res := .bool true
  out := (T4.e 5)
  sub := (T4.e 5)
  refs := []
noncomputable def ou23 : Memo2 where
  args := [mU 23, .agg [mU 117, mU 200], mU 39]
  ins := []
  src := []
  c := 0
  n := 0
  tot := 0
  res := .bool true
  out := (T4.e 5)
  sub := (T4.e 5)
  refs := []
noncomputable def ou24 : Memo2 where
  args := [mU 24, .agg [mU 177, mU 200], mU 229]
  ins := []
  src := []
  c := 0
  n := 0
  tot := 0
  res := .bool true
  out := (T4.e 5)
  sub := (T4.e 5)
  refs := []
noncomputable def ou25 : Memo2 where
  args := [mU 25, .agg [mU 1, mU 200], mU 85]
  ins := []
  src := []
  c := 0
  n := 0
  tot := 0
  res := .bool true
  out := (T4.e 5)
  sub := (T4.e 5)
  refs := []
noncomputable def ou26 : Memo2 where
  args := [mU 26, .agg [mU 66, mU 200], mU 22]
  ins := []
  src := []
  c := 0
  n := 0
  tot := 0
  res := .bool true
  out := (T4.e 5)
  sub := (T4.e 5)
  refs := []
noncomputable def ou27 : Memo2 where
  args := [mU 27, .agg [mU 166, mU 200], mU 55]
  ins := []
  src := []
  c := 0
  n := 0
  tot := 0
  res := .bool true
  out := (T4.e 5)
  sub := (T4.e 5)
  refs := []
noncomputable def ou28 : Memo2 where
  args := [mU 28, .agg [mU 241, mU 200], mU 251]
  ins := []
  src := []
  c := 0
  n := 0
  tot := 0
  res := .bool true
  out := (T4.e 5)
  sub := (T4.e 5)
  refs := []
noncomputable def ou29 : Memo2 where
  args := [mU 29, .agg [mU 234, mU 200], mU 78]
  ins := []
  src := []
  c := 0
  n := 0
  tot := 0
  res := .bool true
  out := (T4.e 5)
  sub := (T4.e 5)
  refs := []
noncomputable def ou30 : Memo2 where
  args := [mU 30, .agg [mU 133, mU 200], mU 44]
  ins := []
  src := []
  c := 0
  n := 0
  tot := 0
  res := .bool true
  out := (T4.e 5)
  sub := (T4.e 5)
  refs := []
noncomputable def ou31 : Memo2 where
  args := [mU 31, .agg [mU 221, mU 200], mU 73]
  ins := []
  src := []
  c := 0
  n := 0
  tot := 0
  res := .bool true
  out := (T4.e 5)
  sub := (T4.e 5)
  refs := []
noncomputable def ou32 : Memo2 where
  args := [mU 32, .agg [mU 177, mU 200], mU 229]
  ins := []
  src := []
  c := 0
  n := 0
  tot := 0
  res := .bool true
  out := (T4.e 5)
  sub := (T4.e 5)
  refs := []
noncomputable def ou33 : Memo2 where
  args := [mU 33, .agg [mU 125, mU 200], mU 127]
  ins := []
  src := []
  c := 0
  n := 0
  tot := 0
  res := .bool true
  out := (T4.e 5)
  sub := (T4.e 5)
  refs := []
noncomputable def ou34 : Memo2 where
  args := [mU 34, .agg [mU 25, mU 200], mU 179]
  ins := []
  src := []
  c := 0
  n := 0
  tot := 0
  res := .bool true
  out := (T4.e 5)
  sub := (T4.e 5)
  refs := []
noncomputable def ou35 : Memo2 where
  args := [mU 35, .agg [mU 245, mU 200], mU 167]
  ins := []
  src := []
  c := 0
  n := 0
  tot := 0
  res := .bool true
  out := (T4.e 5)
  sub := (T4.e 5)
  refs := []
noncomputable def ou36 : Memo2 where
  args := [mU 36, .agg [mU 13, mU 200], mU 4]
  ins := []
  src := []
  c := 0
  n := 0
  tot := 0
  res := .bool true
  out := (T4.e 5)
  sub := (T4.e 5)
  refs := []
noncomputable def ou37 : Memo2 where
  args := [mU 37, .agg [mU 6, mU 200], mU 2]
  ins := []
  src := []
  c := 0
  n := 0
  tot := 0
  res := .bool true
  out := (T4.e 5)
  sub := (T4.e 5)
  refs := []
noncomputable def ou38 : Memo2 where
  args := [mU 38, .agg [mU 54, mU 200], mU 18]
  ins := []
  src := []
  c := 0
  n := 0
  tot := 0
  res := .bool true
  out := (T4.e 5)
  sub := (T4.e 5)
  refs := []
noncomputable def ou39 : Memo2 where
  args := [mU 39, .agg [mU 197, mU 200], mU 151]
  ins := []
  src := []
  c := 0
  n := 0
  tot := 0
  res := .bool true
  out := (T4.e 5)
  sub := (T4.e 5)
  refs := []
noncomputable def run6_g0 : Bool := rk0 fnsO tab5 5 ou0
noncomputable def run6_g1 : Bool := rk0 fnsO tab5 5 ou1
noncomputable def run6_g2 : Bool := rk0 fnsO tab5 5 ou2
noncomputable def run6_g3 : Bool := rk0 fnsO tab5 5 ou3
noncomputable def run6_g4 : Bool := rk0 fnsO tab5 5 ou4
noncomputable def run6_g5 : Bool := rk0 fnsO tab5 5 ou5
noncomputable def run6_g6 : Bool := rk0 fnsO tab5 5 ou6
noncomputable def run6_g7 : Bool := rk0 fnsO tab5 5 ou7
noncomputable def run6_g8 : Bool := rk0 fnsO tab5 5 ou8
noncomputable def run6_g9 : Bool := rk0 fnsO tab5 5 ou9
noncomputable def run6_g10 : Bool := rk0 fnsO tab5 5 ou10
noncomputable def run6_g11 : Bool := rk0 fnsO tab5 5 ou11
noncomputable def run6_g12 : Bool := rk0 fnsO tab5 5 ou12
noncomputable def run6_g13 : Bool := rk0 fnsO tab5 5 ou13
noncomputable def run6_g14 : Bool := rk0 fnsO tab5 5 ou14
noncomputable def run6_g15 : Bool := rk0 fnsO tab5 5 ou15
noncomputable def run6_g16 : Bool := rk0 fnsO tab5 5 ou16
noncomputable def run6_g17 : Bool := rk0 fnsO tab5 5 ou17
noncomputable def run6_g18 : Bool := rk0 fnsO tab5 5 ou18
noncomputable def run6_g19 : Bool := rk0 fnsO tab5 5 ou19
noncomputable def run6_g20 : Bool := rk0 fnsO tab5 5 ou20
noncomputable def run6_g21 : Bool := rk0 fnsO tab5 5 ou21
noncomputable def run6_g22 : Bool := rk0 fnsO tab5 5 ou22
noncomputable def run6_g23 : Bool := rk0 fnsO tab5 5 ou23
noncomputable def run6_g24 : Bool := rk0 fnsO tab5 5 ou24
noncomputable def run6_g25 : Bool := rk0 fnsO tab5 5 ou25
noncomputable def run6_g26 : Bool := rk0 fnsO tab5 5 ou26
noncomputable def run6_g27 : Bool := rk0 fnsO tab5 5 ou27
noncomputable def run6_g28 : Bool := rk0 fnsO tab5 5 ou28
noncomputable def run6_g29 : Bool := rk0 fnsO tab5 5 ou29
noncomputable def run6_g30 : Bool := rk0 fnsO tab5 5 ou30
noncomputable def run6_g31 : Bool := rk0 fnsO tab5 5 ou31
noncomputable def run6_g32 : Bool := rk0 fnsO tab5 5 ou32
noncomputable def run6_g33 : Bool := rk0 fnsO tab5 5 ou33
noncomputable def run6_g34 : Bool := rk0 fnsO tab5 5 ou34
noncomputable def run6_g35 : Bool := rk0 fnsO tab5 5 ou35
noncomputable def run6_g36 : Bool := rk0 fnsO tab5 5 ou36
noncomputable def run6_g37 : Bool := rk0 fnsO tab5 5 ou37
noncomputable def run6_g38 : Bool := rk0 fnsO tab5 5 ou38
noncomputable def run6_g39 : Bool := rk0 fnsO tab5 5 ou39
noncomputable def tab6 : T4 FnD TD := T4.set TD 5 (memoD0 ou0 16 (memoD0 ou1 16 (memoD0 ou2 16 (memoD0 ou3 16 (memoD0 ou4 16 (memoD0 ou5 16 (memoD0 ou6 16 (memoD0 ou7 16 (memoD0 ou8 16 (memoD0 ou9 16 (memoD0 ou10 16 (memoD0 ou11 16 (memoD0 ou12 16 (memoD0 ou13 16 (memoD0 ou14 16 (memoD0 ou15 16 (memoD0 ou16 16 (memoD0 ou17 16 (memoD0 ou18 16 (memoD0 ou19 16 (memoD0 ou20 16 (memoD0 ou21 16 (memoD0 ou22 16 (memoD0 ou23 16 (memoD0 ou24 16 (memoD0 ou25 16 (memoD0 ou26 16 (memoD0 ou27 16 (memoD0 ou28 16 (memoD0 ou29 16 (memoD0 ou30 16 (memoD0 ou31 16 (memoD0 ou32 16 (memoD0 ou33 16 (memoD0 ou34 16 (memoD0 ou35 16 (memoD0 ou36 16 (memoD0 ou37 16 (memoD0 ou38 16 (memoD0 ou39 16 (failD))))))))))))))))))))))))))))))))))))))))) tab5
noncomputable def unE : Memo2 where
  args := [.sl 16 3 0 3 3 true]
  ins := [some (.cells 1 3 0 0 false 9 ⟨some [.str 10 217824798530369104073811], (m1 (mN (T4.e 0) (mL [.str 11 55762609651150460613249348]) (mL [.str 11 55762628097894534322800964]) (T4.e 0)))⟩)]
  src := [(0, 0)]
  c := 2
  n := 19
  tot := 9644
  res := .tup [.agg [.str 4 1313423693, .nils, .sl 2048 380 0 20 20 false, .nils, .nils, .nils, .nils, .nils, .sl 2052 15 0 3 3 false, .sl 2055 440 0 20 20 true, mI 57, .sl 2060 15 0 3 3 true], .bool true]
  out := (mN (mN (mN (mN (mN (mL 1024) (mL 1025) (mL 1026) (mL 1031)) (mN (mL 1038) (mL 1042) (mL 1052) (mL 9216)) (mN (mL 9217) (mL 9218) (mL 9262) (mL 9269)) (mN (mL 9272) (mL 9282) (mL 9310) (mL 9316))) (mN (mN (mL 9328) (mL 9356) (mL 9362) (T4.e 0)) (T4.e 1) (T4.e 1) (T4.e 1)) (T4.e 2) (T4.e 2)) (T4.e 3) (T4.e 3) (T4.e 3)) (T4.e 4) (T4.e 4) (T4.e 4))
  sub := (mN (mN (mN (mN (mN (mL (.cells 19 380 380 0 true 150 ⟨some [mI 77, .str 1 65, mS0, .str 5 176968710483, mU 0, .bool false, mI 0, mI 0, .nils, .bool false, .bool false, .bool false, .bool false, .bool false, .nils, .nils, .nils, mI 0, mI 0], (m3 (mN (mN (mN (T4.e 0) (mL [mI 77, .str 1 66, mS0, .str 5 176968710483, mU 1, .bool true, mI 0, mI 0, .nils, .bool false, .bool false, .bool false, .bool false, .bool false, .nils, .nils, .nils, mI 0, mI 0]) (mL [mI 77, .str 1 67, mS0, .str 7 16107115893696569, mU 0, .bool false, mI 0, mI 0, .nils, .bool false, .bool false, .bool false, .bool false, .bool false, .nils, .nils, .nils, mI 0, mI 0]) (mL [mI 77, .str 1 68, mS0, .str 5 177002264915, mU 2, .bool true, mI 0, mI 0, .nils, .bool false, .bool false, .bool false, .bool false, .bool false, .nils, .nils, .nils, mI 0, mI 0])) (mN (mL [mI 77, .str 1 69, mS0, .str 6 62917751429722, mU 0, .bool false, mI 0, mI 0, .nils, .bool false, .bool false, .bool false, .bool false, .bool false, .nils, .nils, .nils, mI 0, mI 0]) (mL [mI 77, .str 1 84, mS0, .str 4 691546200, mU 0, .bool false, mI 0, mI 0, .nils, .bool false, .bool false, .bool false, .bool false, .bool false, .nils, .nils, .nils, mI 0, mI 0]) (mL [mI 77, .str 1 85, mS0, .str 4 691218520, mU 0, .bool false, mI 0, mI 0, .nils, .bool false, .bool false, .bool false, .bool true, .bool false, .nils, .nils, .nils, mI 0, mI 0]) (mL [mI 1, .str 1 71, mS0, mS0, mU 0, .bool false, mI 0, mI 0, .nils, .bool false, .bool false, .bool false, .bool false, .bool false, .nils, .nils, .nils, mI 0, mI 0])) (mN (mL [mI 2, .str 2 16711, mS0, .str 4 691152953, mU 0, .bool false, mI 0, mI 0, .nils, .bool false, .bool false, .bool false, .bool false, .bool false, .nils, .nils, .nils, mI 0, mI 0]) (mL [mI 2, .str 2 16967, mS0, .str 4 691218520, mU 0, .bool false, mI 0, mI 0, .nils, .bool false, .bool false, .bool false, .bool false, .bool false, .nils, .nils, .nils, mI 0, mI 0]) (mL [mI 1, .str 1 72, mS0, mS0, mU 0, .bool false, mI 0, mI 0, .nils, .bool false, .bool false, .bool false, .bool false, .bool false, .nils, .nils, .nils, mI 0, mI 0]) (mL [mI 2, .str 2 16711, mS0, .str 5 176951933267, mU 0, .bool false, mI 0, mI 0, .nils, .bool false, .bool false, .bool false, .bool false, .bool false, .nils, .nils, .nils, mI 0, mI 0])) (mN (mL [mI 2, .str 2 16967, mS0, .str 4 691152984, mU 0, .bool false, mI 0, mI 0, .nils, .bool false, .bool false, .bool false, .bool false, .bool false, .nils, .nils, .nils, mI 0, mI 0]) (mL [mI 1, .str 3 4342100, mS0, mS0, mU 0, .bool false, mI 0, mI 0, .nils, .bool false, .bool false, .bool false, .bool false, .bool false, .nils, .nils, .nils, mI 0, mI 0]) (mL [mI 2, .str 1 78, mS0, .str 4 691152953, mU 0, .bool false, mI 4, mI 0, .nils, .bool false, .bool false, .bool false, .bool false, .bool false, .nils, .nils, .nils, mI 0, mI 0]) (mL [mI 77, .str 1 73, mS0, .str 4 691218489, mU 0, .bool false, mI 0, mI 0, .nils, .bool false, .bool false, .bool false, .bool false, .bool false, .nils, .nils, .nils, mI 0, mI 0]))) (mN (mN (mL [mI 77, .str 1 75, mS0, .str 1 88, mU 0, .bool false, mI 0, mI 0, .nils, .bool false, .bool false, .bool false, .bool false, .bool false, .nils, .nils, .nils, mI 0, mI 0]) (mL [mI 88, .str 4 1146048327, mS0, mS0, mU 0, .bool false, mI 0, mI 0, .nils, .bool false, .bool false, .bool false, .bool false, .bool false, .sl 2049 5 0 1 1 true, .nils, .nils, mI 0, mI 0]) (mL [mI 88, .str 5 383532548421, mS0, mS0, mU 0, .bool false, mI 0, mI 0, .nils, .bool false, .bool false, .bool false, .bool false, .bool false, .sl 2050 15 0 3 3 true, .nils, .nils, mI 0, mI 0]) (mL [mI 77, .str 1 90, mS0, .str 4 691152953, mU 0, .bool false, mI 0, mI 0, .nils, .bool false, .bool false, .bool false, .bool false, .bool false, .nils, .nils, .nils, mI 0, mI 0])) (T4.e 1) (T4.e 1) (T4.e 1)) (T4.e 2) (T4.e 2)))⟩)) (mL (.cells 5 5 0 0 false 102 (mR [mU 3, .str 1 89, mI 0, mI 0, .bool false]))) (mL (.cells 5 15 0 0 false 102 ⟨some [mU 3, .str 1 65, mI 0, mI 0, .bool false], (m1 (mN (T4.e 0) (mL [mU 1, .str 4 1431455828, mI 0, mI 0, .bool false]) (mL [mU 3, .str 1 70, mI 0, mI 0, .bool false]) (T4.e 0)))⟩)) (mL (.cells 5 15 15 0 true 102 ⟨some [mU 1, .str 4 1347376211, mI 1, mI 8, .bool false], (m1 (mN (T4.e 0) (mL [mU 1, .str 3 5133650, mI 2, mI 8, .bool false]) (mL [mU 6, .str 1 46, mI 3, mI 8, .bool false]) (T4.e 0)))⟩))) (mN (mL (.cells 5 15 0 0 true 53 ⟨some [mS0, .str 2 12368, .sl 2051 15 0 3 3 false, mI 0, mI 8], (m1 (mN (T4.e 0) (mL [mS0, .str 2 12624, .sl 2053 15 0 3 3 false, mI 1000, mI 8]) (mL [mS0, .str 2 12880, .sl 2054 15 0 3 3 false, mI 2000, mI 8]) (T4.e 0)))⟩)) (mL (.cells 5 15 15 0 true 102 ⟨some [mU 1, .str 7 25123068948203844, mI 1001, mI 8, .bool false], (m1 (mN (T4.e 0) (mL [mU 2, .str 1 49, mI 1002, mI 8, .bool false]) (mL [mU 6, .str 1 46, mI 1003, mI 8, .bool false]) (T4.e 0)))⟩)) (mL (.cells 5 15 15 0 true 102 ⟨some [mU 1, .str 7 25123068948203844, mI 2001, mI 8, .bool false], (m1 (mN (T4.e 0) (mL [mU 2, .str 1 50, mI 2002, mI 8, .bool false]) (mL [mU 6, .str 1 46, mI 2003, mI 8, .bool false]) (T4.e 0)))⟩)) (mL (.cells 22 440 440 0 true 173 ⟨some [.str 1 65, mI 77, mM, mU 4, mU 0, .str 5 245773187411, mI 4, mI 0, .bool true, .bool false, .bool false, .bool false, .bool false, mI 4, mI 0, mI 1, mI 1, mM, mM, mM, mM, .nils], (m3 (mN (mN (mN (T4.e 0) (mL [.str 1 66, mI 77, mM, mU 4, mU 1, .str 5 245773187411, mI 4, mI 0, .bool true, .bool false, .bool false, .bool false, .bool false, mI 3, mI 4, mI 1, mI 1, mM, mM, mM, mM, .nils]) (mL [.str 1 67, mI 77, mM, mU 4, mU 0, .str 6 62918422509881, mI 5, mI 2, .bool false, .bool false, .bool false, .bool false, .bool false, mI 5, mI 7, mI 1, mI 1, mM, mM, mM, mM, .nils]) (mL [.str 1 68, mI 77, mM, mU 4, mU 2, .str 7 16106991608478035, mI 6, mI 0, .bool true, .bool false, .bool false, .bool false, .bool false, mI 4, mI 12, mI 1, mI 1, mM, mM, mM, mM, .nils])) (mN (mL [.str 1 69, mI 77, mM, mU 5, mU 0, .str 6 62917751429722, mI 5, mI 2, .bool false, .bool false, .bool false, .bool false, .bool false, mI 6, mI 16, mI 1, mI 1, mM, mM, mM, mM, .nils]) (mL [.str 1 84, mI 77, mM, mU 2, mU 0, .str 8 6365935209750747224, mI 0, mI 0, .bool false, .bool false, .bool false, .bool false, .bool false, mI 8, mI 22, mI 1, mI 1, mM, mM, mM, mM, .nils]) (mL [.str 1 85, mI 77, mM, mU 2, mU 0, .str 3 5789784, mI 0, mI 0, .bool false, .bool false, .bool false, .bool true, .bool false, mI 3, mI 30, mI 1, mI 1, mM, mM, mM, mM, .nils]) (mL [.str 1 71, mI 1, mM, mU 0, mU 0, mS0, mI 0, mI 0, .bool false, .bool false, .bool false, .bool false, .bool false, mI 5, mI 33, mI 1, mI 1, mM, mM, mM, mM, .nils])) (mN (mL [.str 2 16711, mI 2, mI 7, mU 4, mU 0, .str 2 14649, mI 2, mI 0, .bool false, .bool false, .bool false, .bool false, .bool false, mI 2, mI 33, mI 1, mI 1, mM, mM, mM, mM, .nils]) (mL [.str 2 16967, mI 2, mI 7, mU 2, mU 0, .str 3 5789784, mI 0, mI 0, .bool false, .bool false, .bool false, .bool false, .bool false, mI 3, mI 35, mI 1, mI 1, mM, mM, mM, mM, .nils]) (mL [.str 1 72, mI 1, mM, mU 0, mU 0, mS0, mI 0, mI 0, .bool false, .bool false, .bool false, .bool false, .bool false, mI 5, mI 38, mI 1, mI 1, mM, mM, mM, mM, .nils]) (mL [.str 2 16711, mI 2, mI 10, mU 4, mU 0, .str 4 960051539, mI 3, mI 0, .bool true, .bool false, .bool false, .bool false, .bool false, mI 3, mI 38, mI 1, mI 1, mM, mM, mM, mM, .nils])) (mN (mL [.str 2 16967, mI 2, mI 10, mU 2, mU 0, .str 2 22616, mI 0, mI 0, .bool false, .bool false, .bool false, .bool false, .bool false, mI 2, mI 41, mI 1, mI 1, mM, mM, mM, mM, .nils]) (mL [.str 3 4342100, mI 1, mM, mU 0, mU 0, mS0, mI 0, mI 0, .bool false, .bool false, .bool false, .bool false, .bool false, mI 8, mI 43, mI 1, mI 1, mM, mM, mM, mM, .nils]) (mL [.str 1 78, mI 2, mI 13, mU 4, mU 0, .str 2 14649, mI 2, mI 0, .bool false, .bool false, .bool false, .bool false, .bool false, mI 2, mI 43, mI 4, mI 4, mM, mM, mM, mM, .nils]) (mL [.str 1 73, mI 77, mM, mU 4, mU 0, .str 3 3750201, mI 3, mI 0, .bool false, .bool false, .bool false, .bool false, .bool false, mI 3, mI 51, mI 1, mI 1, mM, mM, mM, mM, .nils]))) (mN (mN (mL [.str 1 75, mI 77, mM, mU 2, mU 0, .str 1 88, mI 0, mI 0, .bool false, .bool false, .bool false, .bool false, .bool false, mI 1, mI 54, mI 1, mI 1, mM, mM, mM, mM, .nils]) (mL [.str 4 1146048327, mI 88, mI 16, mU 2, mU 0, .str 1 88, mI 0, mI 0, .bool false, .bool false, .bool false, .bool false, .bool false, mI 1, mI 54, mI 1, mI 1, mM, mM, mM, mM, .sl 2056 5 0 1 1 true]) (mL [.str 5 383532548421, mI 88, mI 16, mU 2, mU 0, .str 1 88, mI 0, mI 0, .bool false, .bool false, .bool false, .bool false, .bool false, mI 1, mI 54, mI 1, mI 1, mM, mM, mM, mM, .sl 2057 15 0 3 3 true]) (mL [.str 1 90, mI 77, mM, mU 4, mU 0, .str 2 14649, mI 2, mI 0, .bool false, .bool false, .bool false, .bool false, .bool false, mI 2, mI 55, mI 1, mI 1, mM, mM, mM, mM, .nils])) (T4.e 1) (T4.e 1) (T4.e 1)) (T4.e 2) (T4.e 2)))⟩))) (mN (mL (.cells 5 5 0 0 true 102 (mR [mU 3, .str 1 89, mI 0, mI 0, .bool false]))) (mL (.cells 5 15 0 0 true 102 ⟨some [mU 3, .str 1 65, mI 0, mI 0, .bool false], (m1 (mN (T4.e 0) (mL [mU 1, .str 4 1431455828, mI 0, mI 0, .bool false]) (mL [mU 3, .str 1 70, mI 0, mI 0, .bool false]) (T4.e 0)))⟩)) (mL (.cells 2 4 4 0 true 207 ⟨some [mS0, .nils], (m1 (mN (T4.e 0) (mL [.str 3 5133650, .nils]) (T4.e 0) (T4.e 0)))⟩)) (mL (.cells 5 5 0 0 true 72 (mR [.str 4 1347376211, mI 1, mI 8, .sl 2058 4 0 2 2 true, .nils])))) (mN (mL (.cells 5 15 0 0 true 75 ⟨some [mS0, .str 2 12368, mI 0, mI 8, .sl 2059 5 0 1 1 true], (m1 (mN (T4.e 0) (mL [mS0, .str 2 12624, mI 1000, mI 8, .sl 2063 5 0 1 1 true]) (mL [mS0, .str 2 12880, mI 2000, mI 8, .sl 2066 5 0 1 1 true]) (T4.e 0)))⟩)) (mL (.cells 2 2 2 0 false 207 (mR [mS0, .sl 2062 5 0 1 1 true]))) (mL (.cells 5 5 0 0 true 102 (mR [mU 2, .str 1 49, mI 1002, mI 8, .bool false]))) (mL (.cells 5 5 0 0 true 72 (mR [.str 7 25123068948203844, mI 1001, mI 8, .sl 2061 2 0 1 1 true, .nils]))))) (mN (mN (mL (.cells 2 2 2 0 false 207 (mR [mS0, .sl 2065 5 0 1 1 true]))) (mL (.cells 5 5 0 0 true 102 (mR [mU 2, .str 1 50, mI 2002, mI 8, .bool false]))) (mL (.cells 5 5 0 0 true 72 (mR [.str 7 25123068948203844, mI 2001, mI 8, .sl 2064 2 0 1 1 true, .nils]))) (T4.e 0)) (T4.e 1) (T4.e 1) (T4.e 1)) (T4.e 2) (T4.e 2)) (T4.e 3) (T4.e 3) (T4.e 3)) (T4.e 4) (T4.e 4) (T4.e 4))
  refs := []
noncomputable def run7_unE : Bool := mkTblZ Tryz.prog [] (607, 392) 137 fnsU tab6 (fun t => runF t 60 9 unE.args (unE.h0 gls 16) (memoK2 unE 16) (fun _ _ => false))
noncomputable def tab7 : T4 FnD TD := T4.set TD 9 (memoD2 unE 16 (failD)) tab6
noncomputable def er0 : Memo2 where
  args := [mU 0, mU 0]
  ins := []
  src := []
  c := 0
  n := 0
  tot := 0
  res := .bool true
  out := (T4.e 5)
  sub := (T4.e 5)
  refs := []
noncomputable def er1 : Memo2 where
  args := [mU 1, mU 0]
  ins := []
  src := []
  c := 0
  n := 0
  tot := 0
  res := .bool true
  out := (T4.e 5)
  sub := (T4.e 5)
  refs := []
noncomputable def er2 : Memo2 where
  args := [mU 2, mU 0]
  ins := []
  src := []
  c := 0
  n := 0
  tot := 0
  res := .bool true
  out := (T4.e 5)
  sub := (T4.e 5)
  refs := []
noncomputable def er3 : Memo2 where
  args := [mU 3, mU 0]
  ins := []
  src := []
  c := 0
  n := 0
  tot := 0
  res := .bool true
  out := (T4.e 5)
  sub := (T4.e 5)
  refs := []
noncomputable def er4 : Memo2 where
  args := [mU 4, mU 1]
  ins := []
  src := []
  c := 0
  n := 0
  tot := 0
  res := .bool true
  out := (T4.e 5)
  sub := (T4.e 5)
  refs := []
noncomputable def er5 : Memo2 where
  args := [mU 5, mU 1]
  ins := []
  src := []
  c := 0
  n := 0
  tot := 0
  res := .bool true
  out := (T4.e 5)
  sub := (T4.e 5)
  refs := []
noncomputable def er6 : Memo2 where
  args := [mU 6, mU 1]
  ins := []
  src := []
  c := 0
  n := 0
  tot := 0
  res := .bool true
  out := (T4.e 5)
  sub := (T4.e 5)
  refs := []
noncomputable def er7 : Memo2 where
  args := [mU 7, mU 1]
  ins := []
  src := []
  c := 0
  n := 0
  tot := 0
  res := .bool true
  out := (T4.e 5)
  sub := (T4.e 5)
  refs := []
noncomputable def er8 : Memo2 where
  args := [mU 8, mU 2]
  ins := []
  src := []
  c := 0
  n := 0
  tot := 0
  res := .bool true
  out := (T4.e 5)
  sub := (T4.e 5)
  refs := []
noncomputable def er9 : Memo2 where
  args := [mU 9, mU 2]
  ins := []
  src := []
  c := 0
  n := 0
  tot := 0
  res := .bool true
  out := (T4.e 5)
  sub := (T4.e 5)
  refs := []
noncomputable def er10 : Memo2 where
  args := [mU 10, mU 2]
  ins := []
  src := []
  c := 0
  n := 0
  tot := 0
  res := .bool true
  out := (T4.e 5)
  sub := (T4.e 5)
  refs := []
noncomputable def er11 : Memo2 where
  args := [mU 11, mU 2]
  ins := []
  src := []
  c := 0
  n := 0
  tot := 0
  res := .bool true
  out := (T4.e 5)
  sub := (T4.e 5)
  refs := []
noncomputable def er12 : Memo2 where
  args := [mU 12, mU 3]
  ins := []
  src := []
  c := 0
  n := 0
  tot := 0
  res := .bool true
  out := (T4.e 5)
  sub := (T4.e 5)
  refs := []
noncomputable def er13 : Memo2 where
  args := [mU 13, mU 3]
  ins := []
  src := []
  c := 0
  n := 0
  tot := 0
  res := .bool true
  out := (T4.e 5)
  sub := (T4.e 5)
  refs := []
noncomputable def er14 : Memo2 where
  args := [mU 14, mU 3]
  ins := []
  src := []
  c := 0
  n := 0
  tot := 0
  res := .bool true
  out := (T4.e 5)
  sub := (T4.e 5)
  refs := []
noncomputable def er15 : Memo2 where
  args := [mU 15, mU 3]
  ins := []
  src := []
  c := 0
  n := 0
  tot := 0
  res := .bool true
  out := (T4.e 5)
  sub := (T4.e 5)
  refs := []
noncomputable def er16 : Memo2 where
  args := [mU 16, mU 4]
  ins := []
  src := []
  c := 0
  n := 0
  tot := 0
  res := .bool true
  out := (T4.e 5)
  sub := (T4.e 5)
  refs := []
noncomputable def er17 : Memo2 where
  args := [mU 17, mU 4]
  ins := []
  src := []
  c := 0
  n := 0
  tot := 0
  res := .bool true
  out := (T4.e 5)
  sub := (T4.e 5)
  refs := []
noncomputable def er18 : Memo2 where
  args := [mU 18, mU 4]
  ins := []
  src := []
  c := 0
  n := 0
  tot := 0
  res := .bool true
  out := (T4.e 5)
  sub := (T4.e 5)
  refs := []
noncomputable def er19 : Memo2 where
  args := [mU 19, mU 4]
  ins := []
  src := []
  c := 0
  n := 0
  tot := 0
  res := .bool true
  out := (T4.e 5)
  sub := (T4.e 5)
  refs := []
noncomputable def er20 : Memo2 where
  args := [mU 20, mU 5]
  ins := []
  src := []
  c := 0
  n := 0
  tot := 0
  res := .bool true
  out := (T4.e 5)
  sub := (T4.e 5)
  refs := []
noncomputable def er21 : Memo2 where
  args := [mU 21, mU 5]
  ins := []
  src := []
  c := 0
  n := 0
  tot := 0
  res := .bool true
  out := (T4.e 5)
  sub := (T4.e 5)
  refs := []
noncomputable def er22 : Memo2 where
  args := [mU 22, mU 5]
  ins := []
  src := []
  c := 0
  n := 0
  tot := 0
  res := .bool true
  out := (T4.e 5)
  sub := (T4.e 5)
  refs := []
noncomputable def er23 : Memo2 where
  args := [mU 23, mU 5]
  ins := []
  src := []
  c := 0
  n := 0
  tot := 0
  res := .bool true
  out := (T4.e 5)
  sub := (T4.e 5)
  refs := []
noncomputable def er24 : Memo2 where
  args := [mU 24, mU 6]
  ins := []
  src := []
  c := 0
  n := 0
  tot := 0
  res := .bool true
  out := (T4.e 5)
  sub := (T4.e 5)
  refs := []
noncomputable def er25 : Memo2 where
  args := [mU 25, mU 6]
  ins := []
  src := []
  c := 0
  n := 0
  tot := 0
  res := .bool true
  out := (T4.e 5)
  sub := (T4.e 5)
  refs := []
noncomputable def er26 : Memo2 where
  args := [mU 26, mU 6]
  ins := []
  src := []
  c := 0
  n := 0
  tot := 0
  res := .bool true
  out := (T4.e 5)
  sub := (T4.e 5)
  refs := []
noncomputable def er27 : Memo2 where
  args := [mU 27, mU 6]
  ins := []
  src := []
  c := 0
  n := 0
  tot := 0
  res := .bool true
  out := (T4.e 5)
  sub := (T4.e 5)
  refs := []
noncomputable def er28 : Memo2 where
  args := [mU 28, mU 7]
  ins := []
  src := []
  c := 0
  n := 0
  tot := 0
  res := .bool true
  out := (T4.e 5)
  sub := (T4.e 5)
  refs := []
noncomputable def er29 : Memo2 where
  args := [mU 29, mU 7]
  ins := []
  src := []
  c := 0
  n := 0
  tot := 0
  res := .bool true
  out := (T4.e 5)
  sub := (T4.e 5)
  refs := []
noncomputable def er30 : Memo2 where
  args := [mU 30, mU 7]
  ins := []
  src := []
  c := 0
  n := 0
  tot := 0
  res := .bool true
  out := (T4.e 5)
  sub := (T4.e 5)
  refs := []
noncomputable def er31 : Memo2 where
  args := [mU 31, mU 7]
  ins := []
  src := []
  c := 0
  n := 0
  tot := 0
  res := .bool true
  out := (T4.e 5)
  sub := (T4.e 5)
  refs := []
noncomputable def er32 : Memo2 where
  args := [mU 32, mU 8]
  ins := []
  src := []
  c := 0
  n := 0
  tot := 0
  res := .bool true
  out := (T4.e 5)
  sub := (T4.e 5)
  refs := []
noncomputable def er33 : Memo2 where
  args := [mU 33, mU 8]
  ins := []
  src := []
  c := 0
  n := 0
  tot := 0
  res := .bool true
  out := (T4.e 5)
  sub := (T4.e 5)
  refs := []
noncomputable def er34 : Memo2 where
  args := [mU 34, mU 8]
  ins := []
  src := []
  c := 0
  n := 0
  tot := 0
  res := .bool true
  out := (T4.e 5)
  sub := (T4.e 5)
  refs := []
noncomputable def er35 : Memo2 where
  args := [mU 35, mU 8]
  ins := []
  src := []
  c := 0
  n := 0
  tot := 0
  res := .bool true
  out := (T4.e 5)
  sub := (T4.e 5)
  refs := []
noncomputable def er36 : Memo2 where
  args := [mU 36, mU 9]
  ins := []
  src := []
  c := 0
  n := 0
  tot := 0
  res := .bool true
  out := (T4.e 5)
  sub := (T4.e 5)
  refs := []
noncomputable def er37 : Memo2 where
  args := [mU 37, mU 9]
  ins := []
  src := []
  c := 0
  n := 0
  tot := 0
  res := .bool true
  out := (T4.e 5)
  sub := (T4.e 5)
  refs := []
noncomputable def er38 : Memo2 where
  args := [mU 38, mU 9]
  ins := []
  src := []
  c := 0
  n := 0
  tot := 0
  res := .bool true
  out := (T4.e 5)
  sub := (T4.e 5)
  refs := []
noncomputable def er39 : Memo2 where
  args := [mU 39, mU 9]
  ins := []
  src := []
  c := 0
  n := 0
  tot := 0
  res := .bool true
  out := (T4.e 5)
  sub := (T4.e 5)
  refs := []
noncomputable def run8_g0 : Bool := mkTblZ Tryz.prog [] (607, 392) 137 fnsE tab7 (fun t => memoAll t 6 [er0, er1, er2, er3])
noncomputable def run8_g1 : Bool := mkTblZ Tryz.prog [] (607, 392) 137 fnsE tab7 (fun t => memoAll t 6 [er4, er5, er6, er7])
noncomputable def run8_g2 : Bool := mkTblZ Tryz.prog [] (607, 392) 137 fnsE tab7 (fun t => memoAll t 6 [er8, er9, er10, er11])
noncomputable def run8_g3 : Bool := mkTblZ Tryz.prog [] (607, 392) 137 fnsE tab7 (fun t => memoAll t 6 [er12, er13, er14, er15])
noncomputable def run8_g4 : Bool := mkTblZ Tryz.prog [] (607, 392) 137 fnsE tab7 (fun t => memoAll t 6 [er16, er17, er18, er19])
noncomputable def run8_g5 : Bool := mkTblZ Tryz.prog [] (607, 392) 137 fnsE tab7 (fun t => memoAll t 6 [er20, er21, er22, er23])
noncomputable def run8_g6 : Bool := mkTblZ Tryz.prog [] (607, 392) 137 fnsE tab7 (fun t => memoAll t 6 [er24, er25, er26, er27])
noncomputable def run8_g7 : Bool := mkTblZ Tryz.prog [] (607, 392) 137 fnsE tab7 (fun t => memoAll t 6 [er28, er29, er30, er31])
noncomputable def run8_g8 : Bool := mkTblZ Tryz.prog [] (607, 392) 137 fnsE tab7 (fun t => memoAll t 6 [er32, er33, er34, er35])
noncomputable def run8_g9 : Bool := mkTblZ Tryz.prog [] (607, 392) 137 fnsE tab7 (fun t => memoAll t 6 [er36, er37, er38, er39])
noncomputable def tab8 : T4 FnD TD := T4.set TD 6 (memoD0 er0 16 (memoD0 er1 16 (memoD0 er2 16 (memoD0 er3 16 (memoD0 er4 16 (memoD0 er5 16 (memoD0 er6 16 (memoD0 er7 16 (memoD0 er8 16 (memoD0 er9 16 (memoD0 er10 16 (memoD0 er11 16 (memoD0 er12 16 (memoD0 er13 16 (memoD0 er14 16 (memoD0 er15 16 (memoD0 er16 16 (memoD0 er17 16 (memoD0 er18 16 (memoD0 er19 16 (memoD0 er20 16 (memoD0 er21 16 (memoD0 er22 16 (memoD0 er23 16 (memoD0 er24 16 (memoD0 er25 16 (memoD0 er26 16 (memoD0 er27 16 (memoD0 er28 16 (memoD0 er29 16 (memoD0 er30 16 (memoD0 er31 16 (memoD0 er32 16 (memoD0 er33 16 (memoD0 er34 16 (memoD0 er35 16 (memoD0 er36 16 (memoD0 er37 16 (memoD0 er38 16 (memoD0 er39 16 (failD))))))))))))))))))))))))))))))))))))))))) tab7
noncomputable def mac : Memo2 where
  args := [.agg [.sl 16 440 0 20 20 true, mI 57], .nils, .nili]
  ins := [some (.cells 22 440 440 0 true 173 ⟨some [.str 1 65, mI 77, mM, mU 4, mU 0, .str 5 245773187411, mI 4, mI 0, .bool true, .bool false, .bool false, .bool false, .bool false, mI 4, mI 0, mI 1, mI 1, mM, mM, mM, mM, .nils], (m3 (mN (mN (mN (T4.e 0) (mL [.str 1 66, mI 77, mM, mU 4, mU 1, .str 5 245773187411, mI 4, mI 0, .bool true, .bool false, .bool false, .bool false, .bool false, mI 3, mI 4, mI 1, mI 1, mM, mM, mM, mM, .nils]) (mL [.str 1 67, mI 77, mM, mU 4, mU 0, .str 6 62918422509881, mI 5, mI 2, .bool false, .bool false, .bool false, .bool false, .bool false, mI 5, mI 7, mI 1, mI 1, mM, mM, mM, mM, .nils]) (mL [.str 1 68, mI 77, mM, mU 4, mU 2, .str 7 16106991608478035, mI 6, mI 0, .bool true, .bool false, .bool false, .bool false, .bool false, mI 4, mI 12, mI 1, mI 1, mM, mM, mM, mM, .nils])) (mN (mL [.str 1 69, mI 77, mM, mU 5, mU 0, .str 6 62917751429722, mI 5, mI 2, .bool false, .bool false, .bool false, .bool false, .bool false, mI 6, mI 16, mI 1, mI 1, mM, mM, mM, mM, .nils]) (mL [.str 1 84, mI 77, mM, mU 2, mU 0, .str 8 6365935209750747224, mI 0, mI 0, .bool false, .bool false, .bool false, .bool false, .bool false, mI 8, mI 22, mI 1, mI 1, mM, mM, mM, mM, .nils]) (mL [.str 1 85, mI 77, mM, mU 2, mU 0, .str 3 5789784, mI 0, mI 0, .bool false, .bool false, .bool false, .bool true, .bool false, mI 3, mI 30, mI 1, mI 1, mM, mM, mM, mM, .nils]) (mL [.str 1 71, mI 1, mM, mU 0, mU 0, mS0, mI 0, mI 0, .bool false, .bool false, .bool false, .bool false, .bool false, mI 5, mI 33, mI 1, mI 1, mM, mM, mM, mM, .nils])) (mN (mL [.str 2 16711, mI 2, mI 7, mU 4, mU 0, .str 2 14649, mI 2, mI 0, .bool false, .bool false, .bool false, .bool false, .bool false, mI 2, mI 33, mI 1, mI 1, mM, mM, mM, mM, .nils]) (mL [.str 2 16967, mI 2, mI 7, mU 2, mU 0, .str 3 5789784, mI 0, mI 0, .bool false, .bool false, .bool false, .bool false, .bool false, mI 3, mI 35, mI 1, mI 1, mM, mM, mM, mM, .nils]) (mL [.str 1 72, mI 1, mM, mU 0, mU 0, mS0, mI 0, mI 0, .bool false, .bool false, .bool false, .bool false, .bool false, mI 5, mI 38, mI 1, mI 1, mM, mM, mM, mM, .nils]) (mL [.str 2 16711, mI 2, mI 10, mU 4, mU 0, .str 4 960051539, mI 3, mI 0, .bool true, .bool false, .bool false, .bool false, .bool false, mI 3, mI 38, mI 1, mI 1, mM, mM, mM, mM, .nils])) (mN (mL [.str 2 16967, mI 2, mI 10, mU 2, mU 0, .str 2 22616, mI 0, mI 0, .bool false, .bool false, .bool false, .bool false, .bool false, mI 2, mI 41, mI 1, mI 1, mM, mM, mM, mM, .nils]) (mL [.str 3 4342100, mI 1, mM, mU 0, mU 0, mS0, mI 0, mI 0, .bool false, .bool false, .bool false, .bool false, .bool false, mI 8, mI 43, mI 1, mI 1, mM, mM, mM, mM, .nils]) (mL [.str 1 78, mI 2, mI 13, mU 4, mU 0, .str 2 14649, mI 2, mI 0, .bool false, .bool false, .bool false, .bool false, .bool false, mI 2, mI 43, mI 4, mI 4, mM, mM, mM, mM, .nils]) (mL [.str 1 73, mI 77, mM, mU 4, mU 0, .str 3 3750201, mI 3, mI 0, .bool false, .bool false, .bool false, .bool false, .bool false, mI 3, mI 51, mI 1, mI 1, mM, mM, mM, mM, .nils]))) (mN (mN (mL [.str 1 75, mI 77, mM, mU 2, mU 0, .str 1 88, mI 0, mI 0, .bool false, .bool false, .bool false, .bool false, .bool false, mI 1, mI 54, mI 1, mI 1, mM, mM, mM, mM, .nils]) (mL [.str 4 1146048327, mI 88, mI 16, mU 2, mU 0, .str 1 88, mI 0, mI 0, .bool false, .bool false, .bool false, .bool false, .bool false, mI 1, mI 54, mI 1, mI 1, mM, mM, mM, mM, .sl 17 5 0 1 1 true]) (mL [.str 5 383532548421, mI 88, mI 16, mU 2, mU 0, .str 1 88, mI 0, mI 0, .bool false, .bool false, .bool false, .bool false, .bool false, mI 1, mI 54, mI 1, mI 1, mM, mM, mM, mM, .sl 18 15 0 3 3 true]) (mL [.str 1 90, mI 77, mM, mU 4, mU 0, .str 2 14649, mI 2, mI 0, .bool false, .bool false, .bool false, .bool false, .bool false, mI 2, mI 55, mI 1, mI 1, mM, mM, mM, mM, .nils])) (T4.e 1) (T4.e 1) (T4.e 1)) (T4.e 2) (T4.e 2)))⟩), some (.cells 5 5 0 0 true 102 (mR [mU 3, .str 1 89, mI 0, mI 0, .bool false])), some (.cells 5 15 0 0 true 102 ⟨some [mU 3, .str 1 65, mI 0, mI 0, .bool false], (m1 (mN (T4.e 0) (mL [mU 1, .str 4 1431455828, mI 0, mI 0, .bool false]) (mL [mU 3, .str 1 70, mI 0, mI 0, .bool false]) (T4.e 0)))⟩)]
  src := [(0, 0), (1, 395), (1, 417)]
  c := 32
  n := 2
  tot := 867
  res := .tup [.ptr 32769 7 0, mI 0]
  out := (mN (mN (mN (mN (mN (mL 458) (mL 866) (T4.e 0) (T4.e 0)) (T4.e 1) (T4.e 1) (T4.e 1)) (T4.e 2) (T4.e 2) (T4.e 2)) (T4.e 3) (T4.e 3) (T4.e 3)) (T4.e 4) (T4.e 4) (T4.e 4))
  sub := (mN (mN (mN (mN (mN (mL storeB0) (mL (.cells 7 7 0 0 false 123 (mR [.sl 10240 440 0 20 20 true, mI 57, .sl 32768 57 0 57 57 true, .nils, .nils, .nili, .bool false]))) (T4.e 0) (T4.e 0)) (T4.e 1) (T4.e 1) (T4.e 1)) (T4.e 2) (T4.e 2) (T4.e 2)) (T4.e 3) (T4.e 3) (T4.e 3)) (T4.e 4) (T4.e 4) (T4.e 4))
  refs := [(10240, 0)]
noncomputable def mac2 : Memo2 where
  args := [.agg [.sl 16 440 0 20 20 true, mI 57], .nils, .nili]
  ins := [some (.cells 22 440 440 0 true 173 ⟨some [.str 1 65, mI 77, mM, mU 4, mU 0, .str 5 245773187411, mI 4, mI 0, .bool true, .bool false, .bool false, .bool false, .bool false, mI 4, mI 0, mI 1, mI 1, mM, mM, mM, mM, .nils], (m3 (mN (mN (mN (T4.e 0) (mL [.str 1 66, mI 77, mM, mU 4, mU 1, .str 5 245773187411, mI 4, mI 0, .bool true, .bool false, .bool false, .bool false, .bool false, mI 3, mI 4, mI 1, mI 1, mM, mM, mM, mM, .nils]) (mL [.str 1 67, mI 77, mM, mU 4, mU 0, .str 6 62918422509881, mI 5, mI 2, .bool false, .bool false, .bool false, .bool false, .bool false, mI 5, mI 7, mI 1, mI 1, mM, mM, mM, mM, .nils]) (mL [.str 1 68, mI 77, mM, mU 4, mU 2, .str 7 16106991608478035, mI 6, mI 0, .bool true, .bool false, .bool false, .bool false, .bool false, mI 4, mI 12, mI 1, mI 1, mM, mM, mM, mM, .nils])) (mN (mL [.str 1 69, mI 77, mM, mU 5, mU 0, .str 6 62917751429722, mI 5, mI 2, .bool false, .bool false, .bool false, .bool false, .bool false, mI 6, mI 16, mI 1, mI 1, mM, mM, mM, mM, .nils]) (mL [.str 1 84, mI 77, mM, mU 2, mU 0, .str 8 6365935209750747224, mI 0, mI 0, .bool false, .bool false, .bool false, .bool false, .bool false, mI 8, mI 22, mI 1, mI 1, mM, mM, mM, mM, .nils]) (mL [.str 1 85, mI 77, mM, mU 2, mU 0, .str 3 5789784, mI 0, mI 0, .bool false, .bool false, .bool false, .bool true, .bool false, mI 3, mI 30, mI 1, mI 1, mM, mM, mM, mM, .nils]) (mL [.str 1 71, mI 1, mM, mU 0, mU 0, mS0, mI 0, mI 0, .bool false, .bool false, .bool false, .bool false, .bool false, mI 5, mI 33, mI 1, mI 1, mM, mM, mM, mM, .nils])) (mN (mL [.str 2 16711, mI 2, mI 7, mU 4, mU 0, .str 2 14649, mI 2, mI 0, .bool false, .bool false, .bool false, .bool false, .bool false, mI 2, mI 33, mI 1, mI 1, mM, mM, mM, mM, .nils]) (mL [.str 2 16967, mI 2, mI 7, mU 2, mU 0, .str 3 5789784, mI 0, mI 0, .bool false, .bool false, .bool false, .bool false, .bool false, mI 3, mI 35, mI 1, mI 1, mM, mM, mM, mM, .nils]) (mL [.str 1 72, mI 1, mM, mU 0, mU 0, mS0, mI 0, mI 0, .bool false, .bool false, .bool false, .bool false, .bool false, mI 5, mI 38, mI 1, mI 1, mM, mM, mM, mM, .nils]) (mL [.str 2 16711, mI 2, mI 10, mU 4, mU 0, .str 4 960051539, mI 3, mI 0, .bool true, .bool false, .bool false, .bool false, .bool false, mI 3, mI 38, mI 1, mI 1, mM, mM, mM, mM, .nils])) (mN (mL [.str 2 16967, mI 2, mI 10, mU 2, mU 0, .str 2 22616, mI 0, mI 0, .bool false, .bool false, .bool false, .bool false, .bool false, mI 2, mI 41, mI 1, mI 1, mM, mM, mM, mM, .nils]) (mL [.str 3 4342100, mI 1, mM, mU 0, mU 0, mS0, mI 0, mI 0, .bool false, .bool false, .bool false, .bool false, .bool false, mI 8, mI 43, mI 1, mI 1, mM, mM, mM, mM, .nils]) (mL [.str 1 78, mI 2, mI 13, mU 4, mU 0, .str 2 14649, mI 2, mI 0, .bool false, .bool false, .bool false, .bool false, .bool false, mI 2, mI 43, mI 4, mI 4, mM, mM, mM, mM, .nils]) (mL [.str 1 73, mI 77, mM, mU 4, mU 0, .str 3 3750201, mI 3, mI 0, .bool false, .bool false, .bool false, .bool false, .bool false, mI 3, mI 51, mI 1, mI 1, mM, mM, mM, mM, .nils]))) (mN (mN (mL [.str 1 75, mI 77, mM, mU 2, mU 0, .str 1 88, mI 0, mI 0, .bool false, .bool false, .bool false, .bool false, .bool false, mI 1, mI 54, mI 1, mI 1, mM, mM, mM, mM, .nils]) (mL [.str 4 1146048327, mI 88, mI 16, mU 2, mU 0, .str 1 88, mI 0, mI 0, .bool false, .bool false, .bool false, .bool false, .bool false, mI 1, mI 54, mI 1, mI 1, mM, mM, mM, mM, .sl 17 5 0 1 1 true]) (mL [.str 5 383532548421, mI 88, mI 16, mU 2, mU 0, .str 1 88, mI 0, mI 0, .bool false, .bool false, .bool false, .bool false, .bool false, mI 1, mI 54, mI 1, mI 1, mM, mM, mM, mM, .sl 18 15 0 3 3 true]) (mL [.str 1 90, mI 77, mM, mU 4, mU 0, .str 2 14649, mI 2, mI 0, .bool false, .bool false, .bool false, .bool false, .bool false, mI 2, mI 55, mI 1, mI 1, mM, mM, mM, mM, .nils])) (T4.e 1) (T4.e 1) (T4.e 1)) (T4.e 2) (T4.e 2)))⟩), some (.cells 5 5 0 0 true 102 (mR [mU 3, .str 1 89, mI 0, mI 0, .bool false])), some (.cells 5 15 0 0 true 102 ⟨some [mU 3, .str 1 65, mI 0, mI 0, .bool false], (m1 (mN (T4.e 0) (mL [mU 1, .str 4 1431455828, mI 0, mI 0, .bool false]) (mL [mU 3, .str 1 70, mI 0, mI 0, .bool false]) (T4.e 0)))⟩)]
  src := [(0, 0), (1, 395), (1, 417)]
  c := 120
  n := 2
  tot := 867
  res := .tup [.ptr 122881 7 0, mI 0]
  out := (mN (mN (mN (mN (mN (mL 458) (mL 866) (T4.e 0) (T4.e 0)) (T4.e 1) (T4.e 1) (T4.e 1)) (T4.e 2) (T4.e 2) (T4.e 2)) (T4.e 3) (T4.e 3) (T4.e 3)) (T4.e 4) (T4.e 4) (T4.e 4))
  sub := (mN (mN (mN (mN (mN (mL storeB0) (mL (.cells 7 7 0 0 false 123 (mR [.sl 10240 440 0 20 20 true, mI 57, .sl 122880 57 0 57 57 true, .nils, .nils, .nili, .bool false]))) (T4.e 0) (T4.e 0)) (T4.e 1) (T4.e 1) (T4.e 1)) (T4.e 2) (T4.e 2) (T4.e 2)) (T4.e 3) (T4.e 3) (T4.e 3)) (T4.e 4) (T4.e 4) (T4.e 4))
  refs := [(10240, 0)]
noncomputable def run9_mac : Bool := mkTblZ Tryz.prog [] (607, 392) 137 fnsM tab8 (fun t => runF t 60 15 mac.args (mac.h0 gls 16) (memoK2 mac 16) (fun _ _ => false))
noncomputable def run9_mac2 : Bool := mkTblZ Tryz.prog [] (607, 392) 137 fnsM tab8 (fun t => runF t 60 15 mac2.args (mac2.h0 gls 16) (memoK2 mac2 16) (fun _ _ => false))
noncomputable def tab9 : T4 FnD TD := T4.set TD 15 (memoD2 mac 16 (memoD2 mac2 16 (failD))) tab8
noncomputable def sum01 : Memo2 where
  args := [.ptr 16 7 0]
  ins := [some (.cells 7 7 7 0 false 123 (mR [.unk, .unk, .sl 17 57 0 57 57 true, .unk, .unk, .unk, .unk])), some storeB0]
  src := [(0, 0), (1, 2)]
  c := 0
  n := 0
  tot := 0
  res := .int .u64 (.ofNat 15808027175135238841)
  out := (T4.e 5)
  sub := (T4.e 5)
  refs := []
noncomputable def sum11 : Memo2 where
  args := [.ptr 16 7 0]
  ins := [some (.cells 7 7 7 0 false 123 (mR [.unk, .unk, .sl 17 57 0 57 57 true, .unk, .unk, .unk, .unk])), some storeB1]
  src := [(0, 0), (1, 2)]
  c := 0
  n := 0
  tot := 0
  res := .int .u64 (.ofNat 18333183604557101727)
  out := (T4.e 5)
  sub := (T4.e 5)
  refs := []
noncomputable def sum21 : Memo2 where
  args := [.ptr 16 7 0]
  ins := [some (.cells 7 7 7 0 false 123 (mR [.unk, .unk, .sl 17 57 0 57 57 true, .unk, .unk, .unk, .unk])), some storeB2]
  src := [(0, 0), (1, 2)]
  c := 0
  n := 0
  tot := 0
  res := .int .u64 (.ofNat 18068646555197747384)
  out := (T4.e 5)
  sub := (T4.e 5)
  refs := []
noncomputable def sum31 : Memo2 where
  args := [.ptr 16 7 0]
  ins := [some (.cells 7 7 7 0 false 123 (mR [.unk, .unk, .sl 17 57 0 57 57 true, .unk, .unk, .unk, .unk])), some storeB3]
  src := [(0, 0), (1, 2)]
  c := 0
  n := 0
  tot := 0
  res := .int .u64 (.ofNat 753689152019481601)
  out := (T4.e 5)
  sub := (T4.e 5)
  refs := []
noncomputable def sum41 : Memo2 where
  args := [.ptr 16 7 0]
  ins := [some (.cells 7 7 7 0 false 123 (mR [.unk, .unk, .sl 17 57 0 57 57 true, .unk, .unk, .unk, .unk])), some storeB4]
  src := [(0, 0), (1, 2)]
  c := 0
  n := 0
  tot := 0
  res := .int .u64 (.ofNat 10501556711164117130)
  out := (T4.e 5)
  sub := (T4.e 5)
  refs := []
noncomputable def run10_g0 : Bool := mkTblZ Tryz.prog [] (607, 392) 137 fnsS tab9 (fun t => memoAll t 38 [sum01, sum11, sum21, sum31, sum41])
noncomputable def tab10 : T4 FnD TD := T4.set TD 38 (memoDF sum01 16 (memoDF sum11 16 (memoDF sum21 16 (memoDF sum31 16 (memoDF sum41 16 (failD)))))) tab9
noncomputable def rng0 : Memo2 where
  args := [.agg [.unk, .unk, .unk, .unk, .unk, .unk, .unk, .unk, .unk, .unk, .unk, .sl 16 20 0 4 4 true], .sl 17 5 0 1 1 true]
  ins := [some (.cells 5 20 0 0 true 75 ⟨some [mS0, .str 2 12368, .unk, .unk, .unk], (m1 (mN (T4.e 0) (mL [mS0, .str 2 12624, .unk, .unk, .unk]) (mL [mS0, .str 2 12880, .unk, .unk, .unk]) (mL [mS0, .str 2 13136, .unk, .unk, .unk])))⟩), some (.cells 5 5 0 0 true 102 (mR [mU 1, .str 2 12368, .unk, .unk, .unk]))]
  src := [(0, 11), (0, 12)]
  c := 0
  n := 0
  tot := 10
  res := .tup [mI 0, mI 0, mI 0]
  out := (T4.e 5)
  sub := (T4.e 5)
  refs := []
noncomputable def rng1 : Memo2 where
  args := [.agg [.unk, .unk, .unk, .unk, .unk, .unk, .unk, .unk, .unk, .unk, .unk, .sl 16 20 0 4 4 true], .sl 17 5 0 1 1 true]
  ins := [some (.cells 5 20 0 0 true 75 ⟨some [mS0, .str 2 12368, .unk, .unk, .unk], (m1 (mN (T4.e 0) (mL [mS0, .str 2 12624, .unk, .unk, .unk]) (mL [mS0, .str 2 12880, .unk, .unk, .unk]) (mL [mS0, .str 2 13136, .unk, .unk, .unk])))⟩), some (.cells 5 5 0 0 true 102 (mR [mU 1, .str 2 12624, .unk, .unk, .unk]))]
  src := [(0, 11), (0, 12)]
  c := 0
  n := 0
  tot := 10
  res := .tup [mI 1, mI 1, mI 0]
  out := (T4.e 5)
  sub := (T4.e 5)
  refs := []
noncomputable def rng2 : Memo2 where
  args := [.agg [.unk, .unk, .unk, .unk, .unk, .unk, .unk, .unk, .unk, .unk, .unk, .sl 16 20 0 4 4 true], .sl 17 5 0 1 1 true]
  ins := [some (.cells 5 20 0 0 true 75 ⟨some [mS0, .str 2 12368, .unk, .unk, .unk], (m1 (mN (T4.e 0) (mL [mS0, .str 2 12624, .unk, .unk, .unk]) (mL [mS0, .str 2 12880, .unk, .unk, .unk]) (mL [mS0, .str 2 13136, .unk, .unk, .unk])))⟩), some (.cells 5 5 0 0 true 102 (mR [mU 1, .str 2 12880, .unk, .unk, .unk]))]
  src := [(0, 11), (0, 12)]
  c := 0
  n := 0
  tot := 10
  res := .tup [mI 2, mI 2, mI 0]
  out := (T4.e 5)
  sub := (T4.e 5)
  refs := []
noncomputable def rng3 : Memo2 where
  args := [.agg [.unk, .unk, .unk, .unk, .unk, .unk, .unk, .unk, .unk, .unk, .unk, .sl 16 20 0 4 4 true], .sl 17 5 0 1 1 true]
  ins := [some (.cells 5 20 0 0 true 75 ⟨some [mS0, .str 2 12368, .unk, .unk, .unk], (m1 (mN (T4.e 0) (mL [mS0, .str 2 12624, .unk, .unk, .unk]) (mL [mS0, .str 2 12880, .unk, .unk, .unk]) (mL [mS0, .str 2 13136, .unk, .unk, .unk])))⟩), some (.cells 5 5 0 0 true 102 (mR [mU 1, .str 2 13136, .unk, .unk, .unk]))]
  src := [(0, 11), (0, 12)]
  c := 0
  n := 0
  tot := 10
  res := .tup [mI 3, mI 3, mI 0]
  out := (T4.e 5)
  sub := (T4.e 5)
  refs := []
noncomputable def rng4 : Memo2 where
  args := [.agg [.unk, .unk, .unk, .unk, .unk, .unk, .unk, .unk, .unk, .unk, .unk, .sl 16 20 0 4 4 true], .sl 17 10 0 1 2 true]
  ins := [some (.cells 5 20 0 0 true 75 ⟨some [mS0, .str 2 12368, .unk, .unk, .unk], (m1 (mN (T4.e 0) (mL [mS0, .str 2 12624, .unk, .unk, .unk]) (mL [mS0, .str 2 12880, .unk, .unk, .unk]) (mL [mS0, .str 2 13136, .unk, .unk, .unk])))⟩), some (.cells 5 10 0 0 true 102 ⟨some [mU 1, .str 2 12368, .unk, .unk, .unk], (m1 (mN (T4.e 0) (mL [.unk, .unk, .unk, .unk, .unk]) (T4.e 0) (T4.e 0)))⟩)]
  src := [(0, 11), (0, 12)]
  c := 0
  n := 0
  tot := 10
  res := .tup [mI 0, mI 0, mI 0]
  out := (T4.e 5)
  sub := (T4.e 5)
  refs := []
noncomputable def rng5 : Memo2 where
  args := [.agg [.unk, .unk, .unk, .unk, .unk, .unk, .unk, .unk, .unk, .unk, .unk, .sl 16 20 0 4 4 true], .sl 17 10 0 1 2 true]
  ins := [some (.cells 5 20 0 0 true 75 ⟨some [mS0, .str 2 12368, .unk, .unk, .unk], (m1 (mN (T4.e 0) (mL [mS0, .str 2 12624, .unk, .unk, .unk]) (mL [mS0, .str 2 12880, .unk, .unk, .unk]) (mL [mS0, .str 2 13136, .unk, .unk, .unk])))⟩), some (.cells 5 10 0 0 true 102 ⟨some [mU 1, .str 2 12624, .unk, .unk, .unk], (m1 (mN (T4.e 0) (mL [.unk, .unk, .unk, .unk, .unk]) (T4.e 0) (T4.e 0)))⟩)]
  src := [(0, 11), (0, 12)]
  c := 0
  n := 0
  tot := 10
  res := .tup [mI 1, mI 1, mI 0]
  out := (T4.e 5)
  sub := (T4.e 5)
  refs := []
noncomputable def rng6 : Memo2 where
  args := [.agg [.unk, .unk, .unk, .unk, .unk, .unk, .unk, .unk, .unk, .unk, .unk, .sl 16 20 0 4 4 true], .sl 17 10 0 1 2 true]
  ins := [some (.cells 5 20 0 0 true 75 ⟨some [mS0, .str 2 12368, .unk, .unk, .unk], (m1 (mN (T4.e 0) (mL [mS0, .str 2 12624, .unk, .unk, .unk]) (mL [mS0, .str 2 12880, .unk, .unk, .unk]) (mL [mS0, .str 2 13136, .unk, .unk, .unk])))⟩), some (.cells 5 10 0 0 true 102 ⟨some [mU 1, .str 2 12880, .unk, .unk, .unk], (m1 (mN (T4.e 0) (mL [.unk, .unk, .unk, .unk, .unk]) (T4.e 0) (T4.e 0)))⟩)]
  src := [(0, 11), (0, 12)]
  c := 0
  n := 0
  tot := 10
  res := .tup [mI 2, mI 2, mI 0]
  out := (T4.e 5)
  sub := (T4.e 5)
  refs := []
noncomputable def rng7 : Memo2 where
  args := [.agg [.unk, .unk, .unk, .unk, .unk, .unk, .unk, .unk, .unk, .unk, .unk, .sl 16 20 0 4 4 true], .sl 17 10 0 1 2 true]
  ins := [some (.cells 5 20 0 0 true 75 ⟨some [mS0, .str 2 12368, .unk, .unk, .unk], (m1 (mN (T4.e 0) (mL [mS0, .str 2 12624, .unk, .unk, .unk]) (mL [mS0, .str 2 12880, .unk, .unk, .unk]) (mL [mS0, .str 2 13136, .unk, .unk, .unk])))⟩), some (.cells 5 10 0 0 true 102 ⟨some [mU 1, .str 2 13136, .unk, .unk, .unk], (m1 (mN (T4.e 0) (mL [.unk, .unk, .unk, .unk, .unk]) (T4.e 0) (T4.e 0)))⟩)]
  src := [(0, 11), (0, 12)]
  c := 0
  n := 0
  tot := 10
  res := .tup [mI 3, mI 3, mI 0]
  out := (T4.e 5)
  sub := (T4.e 5)
  refs := []
noncomputable def rng8 : Memo2 where
  args := [.agg [.unk, .unk, .unk, .unk, .unk, .unk, .unk, .unk, .unk, .unk, .unk, .sl 16 20 0 4 4 true], .sl 17 10 5 1 1 true]
  ins := [some (.cells 5 20 0 0 true 75 ⟨some [mS0, .str 2 12368, .unk, .unk, .unk], (m1 (mN (T4.e 0) (mL [mS0, .str 2 12624, .unk, .unk, .unk]) (mL [mS0, .str 2 12880, .unk, .unk, .unk]) (mL [mS0, .str 2 13136, .unk, .unk, .unk])))⟩), some (.cells 5 10 0 0 true 102 ⟨some [.unk, .unk, .unk, .unk, .unk], (m1 (mN (T4.e 0) (mL [mU 1, .str 2 12368, .unk, .unk, .unk]) (T4.e 0) (T4.e 0)))⟩)]
  src := [(0, 11), (0, 12)]
  c := 0
  n := 0
  tot := 10
  res := .tup [mI 0, mI 0, mI 0]
  out := (T4.e 5)
  sub := (T4.e 5)
  refs := []
noncomputable def rng9 : Memo2 where
  args := [.agg [.unk, .unk, .unk, .unk, .unk, .unk, .unk, .unk, .unk, .unk, .unk, .sl 16 20 0 4 4 true], .sl 17 10 5 1 1 true]
  ins := [some (.cells 5 20 0 0 true 75 ⟨some [mS0, .str 2 12368, .unk, .unk, .unk], (m1 (mN (T4.e 0) (mL [mS0, .str 2 12624, .unk, .unk, .unk]) (mL [mS0, .str 2 12880, .unk, .unk, .unk]) (mL [mS0, .str 2 13136, .unk, .unk, .unk])))⟩), some (.cells 5 10 0 0 true 102 ⟨some [.unk, .unk, .unk, .unk, .unk], (m1 (mN (T4.e 0) (mL [mU 1, .str 2 12624, .unk, .unk, .unk]) (T4.e 0) (T4.e 0)))⟩)]
  src := [(0, 11), (0, 12)]
  c := 0
  n := 0
  tot := 10
  res := .tup [mI 1, mI 1, mI 0]
  out := (T4.e 5)
  sub := (T4.e 5)
  refs := []
noncomputable def rng10 : Memo2 where
  args := [.agg [.unk, .unk, .unk, .unk, .unk, .unk, .unk, .unk, .unk, .unk, .unk, .sl 16 20 0 4 4 true], .sl 17 10 5 1 1 true]
  ins := [some (.cells 5 20 0 0 true 75 ⟨some [mS0, .str 2 12368, .unk, .unk, .unk], (m1 (mN (T4.e 0) (mL [mS0, .str 2 12624, .unk, .unk, .unk]) (mL [mS0, .str 2 12880, .unk, .unk, .unk]) (mL [mS0, .str 2 13136, .unk, .unk, .unk])))⟩), some (.cells 5 10 0 0 true 102 ⟨some [.unk, .unk, .unk, .unk, .unk], (m1 (mN (T4.e 0) (mL [mU 1, .str 2 12880, .unk, .unk, .unk]) (T4.e 0) (T4.e 0)))⟩)]
  src := [(0, 11), (0, 12)]
  c := 0
  n := 0
  tot := 10
  res := .tup [mI 2, mI 2, mI 0]
  out := (T4.e 5)
  sub := (T4.e 5)
  refs := []
noncomputable def rng11 : Memo2 where
  args := [.agg [.unk, .unk, .unk, .unk, .unk, .unk, .unk, .unk, .unk, .unk, .unk, .sl 16 20 0 4 4 true], .sl 17 10 5 1 1 true]
  ins := [some (.cells 5 20 0 0 true 75 ⟨some [mS0, .str 2 12368, .unk, .unk, .unk], (m1 (mN (T4.e 0) (mL [mS0, .str 2 12624, .unk, .unk, .unk]) (mL [mS0, .str 2 12880, .unk, .unk, .unk]) (mL [mS0, .str 2 13136, .unk, .unk, .unk])))⟩), some (.cells 5 10 0 0 true 102 ⟨some [.unk, .unk, .unk, .unk, .unk], (m1 (mN (T4.e 0) (mL [mU 1, .str 2 13136, .unk, .unk, .unk]) (T4.e 0) (T4.e 0)))⟩)]
  src := [(0, 11), (0, 12)]
  c := 0
  n := 0
  tot := 10
  res := .tup [mI 3, mI 3, mI 0]
  out := (T4.e 5)
  sub := (T4.e 5)
  refs := []
noncomputable def run11_g0 : Bool := mkTblZ Tryz.prog [] (607, 392) 137 fnsG tab10 (fun t => memoAll t 179 [rng0, rng1, rng2, rng3, rng4, rng5, rng6, rng7, rng8, rng9, rng10, rng11])
noncomputable def tab11 : T4 FnD TD := T4.set TD 179 (memoDF rng0 16 (memoDF rng1 16 (memoDF rng2 16 (memoDF rng3 16 (memoDF rng4 16 (memoDF rng5 16 (memoDF rng6 16 (memoDF rng7 16 (memoDF rng8 16 (memoDF rng9 16 (memoDF rng10 16 (memoDF rng11 16 (failD))))))))))))) tab10
noncomputable def tst0 : Memo2 where
  args := [.ptr 16 7 0, .sl 17 15 0 3 3 true]
  ins := [some (.cells 7 7 7 0 false 123 (mR [.sl 19 440 0 20 20 true, mI 57, .sl 18 57 0 57 57 true, .unk, .unk, .unk, .unk])), some (.cells 5 15 0 0 true 102 ⟨some [mU 1, .str 1 65, .unk, .unk, .unk], (m1 (mN (T4.e 0) (mL [mU 5, .str 1 62, .unk, .unk, .unk]) (mL [mU 2, .str 1 49, .unk, .unk, .unk]) (T4.e 0)))⟩), some (.cells 1 57 57 0 false 5 ⟨some [mU 48], (m1 (mN (T4.e 0) (mL [mU 48]) (mL [mU 48]) (mL [mU 123])))⟩), some itemsB]
  src := [(0, 0), (0, 1), (1, 2), (1, 0)]
  c := 0
  n := 0
  tot := 0
  res := .tup [.bool false, mI 0]
  out := (T4.e 5)
  sub := (T4.e 5)
  refs := []
noncomputable def tst1 : Memo2 where
  args := [.ptr 16 7 0, .sl 17 15 0 3 3 true]
  ins := [some (.cells 7 7 7 0 false 123 (mR [.sl 19 440 0 20 20 true, mI 57, .sl 18 57 0 57 57 true, .unk, .unk, .unk, .unk])), some (.cells 5 15 0 0 true 102 ⟨some [mU 1, .str 1 65, .unk, .unk, .unk], (m1 (mN (T4.e 0) (mL [mU 5, .str 1 62, .unk, .unk, .unk]) (mL [mU 2, .str 1 49, .unk, .unk, .unk]) (T4.e 0)))⟩), some (.cells 1 57 57 0 false 5 ⟨some [mU 48], (m1 (mN (T4.e 0) (mL [mU 48]) (mL [mU 48]) (mL [mU 65])))⟩), some itemsB]
  src := [(0, 0), (0, 1), (1, 2), (1, 0)]
  c := 0
  n := 0
  tot := 0
  res := .tup [.bool false, mI 0]
  out := (T4.e 5)
  sub := (T4.e 5)
  refs := []
noncomputable def tst2 : Memo2 where
  args := [.ptr 16 7 0, .sl 17 15 0 3 3 true]
  ins := [some (.cells 7 7 7 0 false 123 (mR [.sl 19 440 0 20 20 true, mI 57, .sl 18 57 0 57 57 true, .unk, .unk, .unk, .unk])), some (.cells 5 15 0 0 true 102 ⟨some [mU 1, .str 1 65, .unk, .unk, .unk], (m1 (mN (T4.e 0) (mL [mU 5, .str 1 62, .unk, .unk, .unk]) (mL [mU 2, .str 1 49, .unk, .unk, .unk]) (T4.e 0)))⟩), some (.cells 1 57 57 0 false 5 ⟨some [mU 48], (m1 (mN (T4.e 0) (mL [mU 48]) (mL [mU 48]) (mL [mU 66])))⟩), some itemsB]
  src := [(0, 0), (0, 1), (1, 2), (1, 0)]
  c := 0
  n := 0
  tot := 0
  res := .tup [.bool true, mI 0]
  out := (T4.e 5)
  sub := (T4.e 5)
  refs := []
noncomputable def tst3 : Memo2 where
  args := [.ptr 16 7 0, .sl 17 15 0 3 3 true]
  ins := [some (.cells 7 7 7 0 false 123 (mR [.sl 19 440 0 20 20 true, mI 57, .sl 18 57 0 57 57 true, .unk, .unk, .unk, .unk])), some (.cells 5 15 0 0 true 102 ⟨some [mU 1, .str 1 65, .unk, .unk, .unk], (m1 (mN (T4.e 0) (mL [mU 5, .str 1 62, .unk, .unk, .unk]) (mL [mU 2, .str 1 49, .unk, .unk, .unk]) (T4.e 0)))⟩), some (.cells 1 57 57 0 false 5 ⟨some [mU 48], (m1 (mN (T4.e 0) (mL [mU 48]) (mL [mU 48]) (mL [mU 67])))⟩), some itemsB]
  src := [(0, 0), (0, 1), (1, 2), (1, 0)]
  c := 0
  n := 0
  tot := 0
  res := .tup [.bool true, mI 0]
  out := (T4.e 5)
  sub := (T4.e 5)
  refs := []
noncomputable def tst4 : Memo2 where
  args := [.ptr 16 7 0, .sl 17 15 0 3 3 true]
  ins := [some (.cells 7 7 7 0 false 123 (mR [.sl 19 440 0 20 20 true, mI 57, .sl 18 57 0 57 57 true, .unk, .unk, .unk, .unk])), some (.cells 5 15 0 0 true 102 ⟨some [mU 1, .str 1 65, .unk, .unk, .unk], (m1 (mN (T4.e 0) (mL [mU 5, .str 1 62, .unk, .unk, .unk]) (mL [mU 2, .str 1 49, .unk, .unk, .unk]) (T4.e 0)))⟩), some (.cells 1 57 57 0 false 5 ⟨some [mU 48], (m1 (mN (T4.e 0) (mL [mU 48]) (mL [mU 48]) (mL [mU 68])))⟩), some itemsB]
  src := [(0, 0), (0, 1), (1, 2), (1, 0)]
  c := 0
  n := 0
  tot := 0
  res := .tup [.bool true, mI 0]
  out := (T4.e 5)
  sub := (T4.e 5)
  refs := []
noncomputable def tst5 : Memo2 where
  args := [.ptr 16 7 0, .sl 17 15 0 3 3 true]
  ins := [some (.cells 7 7 7 0 false 123 (mR [.sl 19 440 0 20 20 true, mI 57, .sl 18 57 0 57 57 true, .unk, .unk, .unk, .unk])), some (.cells 5 15 0 0 true 102 ⟨some [mU 1, .str 1 65, .unk, .unk, .unk], (m1 (mN (T4.e 0) (mL [mU 5, .str 1 62, .unk, .unk, .unk]) (mL [mU 2, .str 1 51, .unk, .unk, .unk]) (T4.e 0)))⟩), some (.cells 1 57 57 0 false 5 ⟨some [mU 48], (m1 (mN (T4.e 0) (mL [mU 48]) (mL [mU 48]) (mL [mU 123])))⟩), some itemsB]
  src := [(0, 0), (0, 1), (1, 2), (1, 0)]
  c := 0
  n := 0
  tot := 0
  res := .tup [.bool false, mI 0]
  out := (T4.e 5)
  sub := (T4.e 5)
  refs := []
noncomputable def tst6 : Memo2 where
  args := [.ptr 16 7 0, .sl 17 15 0 3 3 true]
  ins := [some (.cells 7 7 7 0 false 123 (mR [.sl 19 440 0 20 20 true, mI 57, .sl 18 57 0 57 57 true, .unk, .unk, .unk, .unk])), some (.cells 5 15 0 0 true 102 ⟨some [mU 1, .str 1 65, .unk, .unk, .unk], (m1 (mN (T4.e 0) (mL [mU 5, .str 1 62, .unk, .unk, .unk]) (mL [mU 2, .str 1 51, .unk, .unk, .unk]) (T4.e 0)))⟩), some (.cells 1 57 57 0 false 5 ⟨some [mU 48], (m1 (mN (T4.e 0) (mL [mU 48]) (mL [mU 48]) (mL [mU 66])))⟩), some itemsB]
  src := [(0, 0), (0, 1), (1, 2), (1, 0)]
  c := 0
  n := 0
  tot := 0
  res := .tup [.bool false, mI 0]
  out := (T4.e 5)
  sub := (T4.e 5)
  refs := []
noncomputable def tst7 : Memo2 where
  args := [.ptr 16 7 0, .sl 17 15 0 3 3 true]
  ins := [some (.cells 7 7 7 0 false 123 (mR [.sl 19 440 0 20 20 true, mI 57, .sl 18 57 0 57 57 true, .unk, .unk, .unk, .unk])), some (.cells 5 15 0 0 true 102 ⟨some [mU 1, .str 1 65, .unk, .unk, .unk], (m1 (mN (T4.e 0) (mL [mU 5, .str 1 62, .unk, .unk, .unk]) (mL [mU 2, .str 1 51, .unk, .unk, .unk]) (T4.e 0)))⟩), some (.cells 1 57 57 0 false 5 ⟨some [mU 48], (m1 (mN (T4.e 0) (mL [mU 48]) (mL [mU 48]) (mL [mU 67])))⟩), some itemsB]
  src := [(0, 0), (0, 1), (1, 2), (1, 0)]
  c := 0
  n := 0
  tot := 0
  res := .tup [.bool false, mI 0]
  out := (T4.e 5)
  sub := (T4.e 5)
  refs := []
noncomputable def tst8 : Memo2 where
  args := [.ptr 16 7 0, .sl 17 15 0 3 3 true]
  ins := [some (.cells 7 7 7 0 false 123 (mR [.sl 19 440 0 20 20 true, mI 57, .sl 18 57 0 57 57 true, .unk, .unk, .unk, .unk])), some (.cells 5 15 0 0 true 102 ⟨some [mU 1, .str 1 65, .unk, .unk, .unk], (m1 (mN (T4.e 0) (mL [mU 5, .str 1 62, .unk, .unk, .unk]) (mL [mU 2, .str 1 51, .unk, .unk, .unk]) (T4.e 0)))⟩), some (.cells 1 57 57 0 false 5 ⟨some [mU 48], (m1 (mN (T4.e 0) (mL [mU 48]) (mL [mU 48]) (mL [mU 68])))⟩), some itemsB]
  src := [(0, 0), (0, 1), (1, 2), (1, 0)]
  c := 0
  n := 0
  tot := 0
  res := .tup [.bool true, mI 0]
  out := (T4.e 5)
  sub := (T4.e 5)
  refs := []
noncomputable def tst9 : Memo2 where
  args := [.ptr 16 7 0, .sl 17 15 0 3 3 true]
  ins := [some (.cells 7 7 7 0 false 123 (mR [.sl 19 440 0 20 20 true, mI 57, .sl 18 57 0 57 57 true, .unk, .unk, .unk, .unk])), some (.cells 5 15 0 0 true 102 ⟨some [mU 1, .str 1 65, .unk, .unk, .unk], (m1 (mN (T4.e 0) (mL [mU 5, .str 1 62, .unk, .unk, .unk]) (mL [mU 2, .str 1 52, .unk, .unk, .unk]) (T4.e 0)))⟩), some (.cells 1 57 57 0 false 5 ⟨some [mU 48], (m1 (mN (T4.e 0) (mL [mU 48]) (mL [mU 48]) (mL [mU 123])))⟩), some itemsB]
  src := [(0, 0), (0, 1), (1, 2), (1, 0)]
  c := 0
  n := 0
  tot := 0
  res := .tup [.bool false, mI 0]
  out := (T4.e 5)
  sub := (T4.e 5)
  refs := []
noncomputable def tst10 : Memo2 where
  args := [.ptr 16 7 0, .sl 17 15 0 3 3 true]
  ins := [some (.cells 7 7 7 0 false 123 (mR [.sl 19 440 0 20 20 true, mI 57, .sl 18 57 0 57 57 true, .unk, .unk, .unk, .unk])), some (.cells 5 15 0 0 true 102 ⟨some [mU 1, .str 1 65, .unk, .unk, .unk], (m1 (mN (T4.e 0) (mL [mU 5, .str 1 62, .unk, .unk, .unk]) (mL [mU 2, .str 1 52, .unk, .unk, .unk]) (T4.e 0)))⟩), some (.cells 1 57 57 0 false 5 ⟨some [mU 48], (m1 (mN (T4.e 0) (mL [mU 48]) (mL [mU 48]) (mL [mU 65])))⟩), some itemsB]
  src := [(0, 0), (0, 1), (1, 2), (1, 0)]
  c := 0
  n := 0
  tot := 0
  res := .tup [.bool false, mI 0]
  out := (T4.e 5)
  sub := (T4.e 5)
  refs := []
noncomputable def tst11 : Memo2 where
  args := [.ptr 16 7 0, .sl 17 15 0 3 3 true]
  ins := [some (.cells 7 7 7 0 false 123 (mR [.sl 19 440 0 20 20 true, mI 57, .sl 18 57 0 57 57 true, .unk, .unk, .unk, .unk])), some (.cells 5 15 0 0 true 102 ⟨some [mU 1, .str 1 65, .unk, .unk, .unk], (m1 (mN (T4.e 0) (mL [mU 5, .str 1 62, .unk, .unk, .unk]) (mL [mU 2, .str 1 52, .unk, .unk, .unk]) (T4.e 0)))⟩), some (.cells 1 57 57 0 false 5 ⟨some [mU 48], (m1 (mN (T4.e 0) (mL [mU 48]) (mL [mU 48]) (mL [mU 66])))⟩), some itemsB]
  src := [(0, 0), (0, 1), (1, 2), (1, 0)]
  c := 0
  n := 0
  tot := 0
  res := .tup [.bool false, mI 0]
  out := (T4.e 5)
  sub := (T4.e 5)
  refs := []
noncomputable def tst12 : Memo2 where
  args := [.ptr 16 7 0, .sl 17 15 0 3 3 true]
  ins := [some (.cells 7 7 7 0 false 123 (mR [.sl 19 440 0 20 20 true, mI 57, .sl 18 57 0 57 57 true, .unk, .unk, .unk, .unk])), some (.cells 5 15 0 0 true 102 ⟨some [mU 1, .str 1 65, .unk, .unk, .unk], (m1 (mN (T4.e 0) (mL [mU 5, .str 1 62, .unk, .unk, .unk]) (mL [mU 2, .str 1 52, .unk, .unk, .unk]) (T4.e 0)))⟩), some (.cells 1 57 57 0 false 5 ⟨some [mU 48], (m1 (mN (T4.e 0) (mL [mU 48]) (mL [mU 48]) (mL [mU 68])))⟩), some itemsB]
  src := [(0, 0), (0, 1), (1, 2), (1, 0)]
  c := 0
  n := 0
  tot := 0
  res := .tup [.bool false, mI 0]
  out := (T4.e 5)
  sub := (T4.e 5)
  refs := []
noncomputable def run12_g0 : Bool := mkTblZ Tryz.prog [] (607, 392) 137 fnsT tab11 (fun t => memoAll t 84 [tst0, tst1, tst2, tst3, tst4, tst5, tst6])
noncomputable def run12_g1 : Bool := mkTblZ Tryz.prog [] (607, 392) 137 fnsT tab11 (fun t => memoAll t 84 [tst7, tst8, tst9, tst10, tst11, tst12])
noncomputable def tab12 : T4 FnD TD := T4.set TD 84 (memoDF tst0 16 (memoDF tst1 16 (memoDF tst2 16 (memoDF tst3 16 (memoDF tst4 16 (memoDF tst5 16 (memoDF tst6 16 (memoDF tst7 16 (memoDF tst8 16 (memoDF tst9 16 (memoDF tst10 16 (memoDF tst11 16 (memoDF tst12 16 (failD)))))))))))))) tab11
noncomputable def num0 : Memo2 where
  args := [.ptr 16 7 0, .sl 17 5 0 1 1 true]
  ins := [some (.cells 7 7 7 0 false 123 (mR [.unk, .unk, .unk, .unk, .unk, .unk, .unk])), some (.cells 5 5 0 0 true 102 (mR [mU 2, .str 1 50, .unk, .unk, .unk]))]
  src := [(0, 0), (0, 1)]
  c := 0
  n := 0
  tot := 0
  res := .tup [mI 2, mI 0]
  out := (T4.e 5)
  sub := (T4.e 5)
  refs := []
noncomputable def num1 : Memo2 where
  args := [.ptr 16 7 0, .sl 17 5 0 1 1 true]
  ins := [some (.cells 7 7 7 0 false 123 (mR [.sl 19 440 0 20 20 true, mI 57, .sl 18 57 0 57 57 true, .unk, .unk, .unk, .unk])), some (.cells 5 5 0 0 true 102 (mR [mU 1, .str 1 65, .unk, .unk, .unk])), some (.cells 1 57 57 0 false 5 ⟨some [mU 48], (m1 (mN (T4.e 0) (mL [mU 48]) (mL [mU 48]) (mL [mU 66])))⟩), some itemsB]
  src := [(0, 0), (0, 1), (1, 2), (1, 0)]
  c := 0
  n := 0
  tot := 0
  res := .tup [mI 2, mI 0]
  out := (T4.e 5)
  sub := (T4.e 5)
  refs := []
noncomputable def num2 : Memo2 where
  args := [.ptr 16 7 0, .sl 17 5 0 1 1 true]
  ins := [some (.cells 7 7 7 0 false 123 (mR [.sl 19 440 0 20 20 true, mI 57, .sl 18 57 0 57 57 true, .unk, .unk, .unk, .unk])), some (.cells 5 5 0 0 true 102 (mR [mU 1, .str 1 65, .unk, .unk, .unk])), some (.cells 1 57 57 0 false 5 ⟨some [mU 48], (m1 (mN (T4.e 0) (mL [mU 48]) (mL [mU 48]) (mL [mU 67])))⟩), some itemsB]
  src := [(0, 0), (0, 1), (1, 2), (1, 0)]
  c := 0
  n := 0
  tot := 0
  res := .tup [mI 3, mI 0]
  out := (T4.e 5)
  sub := (T4.e 5)
  refs := []
noncomputable def num3 : Memo2 where
  args := [.ptr 16 7 0, .sl 17 5 0 1 1 true]
  ins := [some (.cells 7 7 7 0 false 123 (mR [.sl 19 440 0 20 20 true, mI 57, .sl 18 57 0 57 57 true, .unk, .unk, .unk, .unk])), some (.cells 5 5 0 0 true 102 (mR [mU 1, .str 1 65, .unk, .unk, .unk])), some (.cells 1 57 57 0 false 5 ⟨some [mU 48], (m1 (mN (T4.e 0) (mL [mU 48]) (mL [mU 48]) (mL [mU 68])))⟩), some itemsB]
  src := [(0, 0), (0, 1), (1, 2), (1, 0)]
  c := 0
  n := 0
  tot := 0
  res := .tup [mI 4, mI 0]
  out := (T4.e 5)
  sub := (T4.e 5)
  refs := []
noncomputable def run13_g0 : Bool := mkTblZ Tryz.prog [] (607, 392) 137 fnsT tab12 (fun t => memoAll t 171 [num0, num1, num2, num3])
noncomputable def tab13 : T4 FnD TD := T4.set TD 171 (memoDF num0 16 (memoDF num1 16 (memoDF num2 16 (memoDF num3 16 (failD))))) tab12
noncomputable def ct0 : Memo2 where
  args := [.sl 16 4 0 4 4 false, .int .u16 (.ofNat 400)]
  ins := [some (.cells 1 4 0 0 true 23 ⟨some [.sl 17 2 0 2 2 false], (m1 (mN (T4.e 0) (mL [.sl 18 3 0 3 3 false]) (mL [.sl 19 2 0 2 2 false]) (mL [.sl 20 1 0 1 1 false])))⟩), some (.cells 1 2 0 0 true 5 ⟨some [mU 1], (m1 (mN (T4.e 0) (mL [mU 42]) (T4.e 0) (T4.e 0)))⟩), some (.cells 1 3 0 0 true 5 ⟨some [mU 33], (m1 (mN (T4.e 0) (mL [mU 17]) (mL [mU 125]) (T4.e 0)))⟩), some (.cells 1 2 0 0 true 5 ⟨some [mU 28], (m1 (mN (T4.e 0) (mL [mU 31]) (T4.e 0) (T4.e 0)))⟩), some (.cells 1 1 0 0 true 5 (mR [mU 218]))]
  src := [(0, 0), (1, 0), (1, 1), (1, 2), (1, 3)]
  c := 0
  n := 0
  tot := 0
  res := .bool true
  out := (T4.e 5)
  sub := (T4.e 5)
  refs := []
noncomputable def ct1 : Memo2 where
  args := [.sl 16 4 0 4 4 false, .int .u16 (.ofNat 400)]
  ins := [some (.cells 1 4 0 0 true 23 ⟨some [.sl 17 2 0 2 2 false], (m1 (mN (T4.e 0) (mL [.sl 18 2 0 2 2 false]) (mL [.sl 19 1 0 1 1 false]) (mL [.sl 20 2 0 2 2 false])))⟩), some (.cells 1 2 0 0 true 5 ⟨some [mU 17], (m1 (mN (T4.e 0) (mL [mU 187]) (T4.e 0) (T4.e 0)))⟩), some (.cells 1 2 0 0 true 5 ⟨some [mU 152], (m1 (mN (T4.e 0) (mL [mU 144]) (T4.e 0) (T4.e 0)))⟩), some (.cells 1 1 0 0 true 5 (mR [mU 175])), some (.cells 1 2 0 0 true 5 ⟨some [mU 142], (m1 (mN (T4.e 0) (mL [mU 34]) (T4.e 0) (T4.e 0)))⟩)]
  src := [(0, 0), (1, 0), (1, 1), (1, 2), (1, 3)]
  c := 0
  n := 0
  tot := 0
  res := .bool true
  out := (T4.e 5)
  sub := (T4.e 5)
  refs := []
noncomputable def ct2 : Memo2 where
  args := [.sl 16 4 0 4 4 false, .int .u16 (.ofNat 400)]
  ins := [some (.cells 1 4 0 0 true 23 ⟨some [.sl 17 2 0 2 2 false], (m1 (mN (T4.e 0) (mL [.sl 18 2 0 2 2 false]) (mL [.sl 19 2 0 2 2 false]) (mL [.sl 20 2 0 2 2 false])))⟩), some (.cells 1 2 0 0 true 5 ⟨some [mU 154], (m1 (mN (T4.e 0) (mL [mU 37]) (T4.e 0) (T4.e 0)))⟩), some (.cells 1 2 0 0 true 5 ⟨some [mU 132], (m1 (mN (T4.e 0) (mL [mU 245]) (T4.e 0) (T4.e 0)))⟩), some (.cells 1 2 0 0 true 5 ⟨some [mU 211], (m1 (mN (T4.e 0) (mL [mU 140]) (T4.e 0) (T4.e 0)))⟩), some (.cells 1 2 0 0 true 5 ⟨some [mU 127], (m1 (mN (T4.e 0) (mL [mU 174]) (T4.e 0) (T4.e 0)))⟩)]
  src := [(0, 0), (1, 0), (1, 1), (1, 2), (1, 3)]
  c := 0
  n := 0
  tot := 0
  res := .bool true
  out := (T4.e 5)
  sub := (T4.e 5)
  refs := []
noncomputable def ct3 : Memo2 where
  args := [.sl 16 4 0 4 4 false, .int .u16 (.ofNat 400)]
  ins := [some (.cells 1 4 0 0 true 23 ⟨some [.sl 17 2 0 2 2 false], (m1 (mN (T4.e 0) (mL [.sl 18 4 0 4 4 false]) (mL [.sl 19 1 0 1 1 false]) (mL [.sl 20 3 0 3 3 false])))⟩), some (.cells 1 2 0 0 true 5 ⟨some [mU 50], (m1 (mN (T4.e 0) (mL [mU 186]) (T4.e 0) (T4.e 0)))⟩), some (.cells 1 4 0 0 true 5 ⟨some [mU 144], (m1 (mN (T4.e 0) (mL [mU 13]) (mL [mU 233]) (mL [mU 118])))⟩), some (.cells 1 1 0 0 true 5 (mR [mU 161])), some (.cells 1 3 0 0 true 5 ⟨some [mU 82], (m1 (mN (T4.e 0) (mL [mU 152]) (mL [mU 112]) (T4.e 0)))⟩)]
  src := [(0, 0), (1, 0), (1, 1), (1, 2), (1, 3)]
  c := 0
  n := 0
  tot := 0
  res := .bool true
  out := (T4.e 5)
  sub := (T4.e 5)
  refs := []
noncomputable def ct4 : Memo2 where
  args := [.sl 16 4 0 4 4 false, .int .u16 (.ofNat 400)]
  ins := [some (.cells 1 4 0 0 true 23 ⟨some [.sl 17 1 0 1 1 false], (m1 (mN (T4.e 0) (mL [.sl 18 1 0 1 1 false]) (mL [.sl 19 4 0 4 4 false]) (mL [.sl 20 2 0 2 2 false])))⟩), some (.cells 1 1 0 0 true 5 (mR [mU 151])), some (.cells 1 1 0 0 true 5 (mR [mU 200])), some (.cells 1 4 0 0 true 5 ⟨some [mU 211], (m1 (mN (T4.e 0) (mL [mU 140]) (mL [mU 12]) (mL [mU 69])))⟩), some (.cells 1 2 0 0 true 5 ⟨some [mU 45], (m1 (mN (T4.e 0) (mL [mU 168]) (T4.e 0) (T4.e 0)))⟩)]
  src := [(0, 0), (1, 0), (1, 1), (1, 2), (1, 3)]
  c := 0
  n := 0
  tot := 0
  res := .bool true
  out := (T4.e 5)
  sub := (T4.e 5)
  refs := []
noncomputable def ct5 : Memo2 where
  args := [.sl 16 4 0 4 4 false, .int .u16 (.ofNat 400)]
  ins := [some (.cells 1 4 0 0 true 23 ⟨some [.sl 17 1 0 1 1 false], (m1 (mN (T4.e 0) (mL [.sl 18 1 0 1 1 false]) (mL [.sl 19 2 0 2 2 false]) (mL [.sl 20 2 0 2 2 false])))⟩), some (.cells 1 1 0 0 true 5 (mR [mU 118])), some (.cells 1 1 0 0 true 5 (mR [mU 200])), some (.cells 1 2 0 0 true 5 ⟨some [mU 95], (m1 (mN (T4.e 0) (mL [mU 59]) (T4.e 0) (T4.e 0)))⟩), some (.cells 1 2 0 0 true 5 ⟨some [mU 14], (m1 (mN (T4.e 0) (mL [mU 92]) (T4.e 0) (T4.e 0)))⟩)]
  src := [(0, 0), (1, 0), (1, 1), (1, 2), (1, 3)]
  c := 0
  n := 0
  tot := 0
  res := .bool true
  out := (T4.e 5)
  sub := (T4.e 5)
  refs := []
noncomputable def ct6 : Memo2 where
  args := [.sl 16 4 0 4 4 false, .int .u16 (.ofNat 400)]
  ins := [some (.cells 1 4 0 0 true 23 ⟨some [.sl 17 4 0 4 4 false], (m1 (mN (T4.e 0) (mL [.sl 18 2 0 2 2 false]) (mL [.sl 19 3 0 3 3 false]) (mL [.sl 20 3 0 3 3 false])))⟩), some (.cells 1 4 0 0 true 5 ⟨some [mU 66], (m1 (mN (T4.e 0) (mL [mU 7]) (mL [mU 250]) (mL [mU 195])))⟩), some (.cells 1 2 0 0 true 5 ⟨some [mU 191], (m1 (mN (T4.e 0) (mL [mU 120]) (T4.e 0) (T4.e 0)))⟩), some (.cells 1 3 0 0 true 5 ⟨some [mU 152], (m1 (mN (T4.e 0) (mL [mU 103]) (mL [mU 169]) (T4.e 0)))⟩), some (.cells 1 3 0 0 true 5 ⟨some [mU 2], (m1 (mN (T4.e 0) (mL [mU 24]) (mL [mU 216]) (T4.e 0)))⟩)]
  src := [(0, 0), (1, 0), (1, 1), (1, 2), (1, 3)]
  c := 0
  n := 0
  tot := 0
  res := .bool true
  out := (T4.e 5)
  sub := (T4.e 5)
  refs := []
noncomputable def ct7 : Memo2 where
  args := [.sl 16 4 0 4 4 false, .int .u16 (.ofNat 400)]
  ins := [some (.cells 1 4 0 0 true 23 ⟨some [.sl 17 2 0 2 2 false], (m1 (mN (T4.e 0) (mL [.sl 18 3 0 3 3 false]) (mL [.sl 19 1 0 1 1 false]) (mL [.sl 20 2 0 2 2 false])))⟩), some (.cells 1 2 0 0 true 5 ⟨some [mU 163], (m1 (mN (T4.e 0) (mL [mU 13]) (T4.e 0) (T4.e 0)))⟩), some (.cells 1 3 0 0 true 5 ⟨some [mU 109], (m1 (mN (T4.e 0) (mL [mU 44]) (mL [mU 241]) (T4.e 0)))⟩), some (.cells 1 1 0 0 true 5 (mR [mU 157])), some (.cells 1 2 0 0 true 5 ⟨some [mU 74], (m1 (mN (T4.e 0) (mL [mU 20]) (T4.e 0) (T4.e 0)))⟩)]
  src := [(0, 0), (1, 0), (1, 1), (1, 2), (1, 3)]
  c := 0
  n := 0
  tot := 0
  res := .bool true
  out := (T4.e 5)
  sub := (T4.e 5)
  refs := []
noncomputable def ct8 : Memo2 where
  args := [.sl 16 4 0 4 4 false, .int .u16 (.ofNat 400)]
  ins := [some (.cells 1 4 0 0 true 23 ⟨some [.sl 17 1 0 1 1 false], (m1 (mN (T4.e 0) (mL [.sl 18 3 0 3 3 false]) (mL [.sl 19 1 0 1 1 false]) (mL [.sl 20 2 0 2 2 false])))⟩), some (.cells 1 1 0 0 true 5 (mR [mU 93])), some (.cells 1 3 0 0 true 5 ⟨some [mU 8], (m1 (mN (T4.e 0) (mL [mU 78]) (mL [mU 62]) (T4.e 0)))⟩), some (.cells 1 1 0 0 true 5 (mR [mU 7])), some (.cells 1 2 0 0 true 5 ⟨some [mU 242], (m1 (mN (T4.e 0) (mL [mU 155]) (T4.e 0) (T4.e 0)))⟩)]
  src := [(0, 0), (1, 0), (1, 1), (1, 2), (1, 3)]
  c := 0
  n := 0
  tot := 0
  res := .bool true
  out := (T4.e 5)
  sub := (T4.e 5)
  refs := []
noncomputable def ct9 : Memo2 where
  args := [.sl 16 4 0 4 4 false, .int .u16 (.ofNat 400)]
  ins := [some (.cells 1 4 0 0 true 23 ⟨some [.sl 17 2 0 2 2 false], (m1 (mN (T4.e 0) (mL [.sl 18 4 0 4 4 false]) (mL [.sl 19 4 0 4 4 false]) (mL [.sl 20 2 0 2 2 false])))⟩), some (.cells 1 2 0 0 true 5 ⟨some [mU 42], (m1 (mN (T4.e 0) (mL [mU 242]) (T4.e 0) (T4.e 0)))⟩), some (.cells 1 4 0 0 true 5 ⟨some [mU 181], (m1 (mN (T4.e 0) (mL [mU 158]) (mL [mU 74]) (mL [mU 238])))⟩), some (.cells 1 4 0 0 true 5 ⟨some [mU 228], (m1 (mN (T4.e 0) (mL [mU 156]) (mL [mU 112]) (mL [mU 213])))⟩), some (.cells 1 2 0 0 true 5 ⟨some [mU 180], (m1 (mN (T4.e 0) (mL [mU 119]) (T4.e 0) (T4.e 0)))⟩)]
  src := [(0, 0), (1, 0), (1, 1), (1, 2), (1, 3)]
  c := 0
  n := 0
  tot := 0
  res := .bool true
  out := (T4.e 5)
  sub := (T4.e 5)
  refs := []
noncomputable def ct10 : Memo2 where
  args := [.sl 16 4 0 4 4 false, .int .u16 (.ofNat 400)]
  ins := [some (.cells 1 4 0 0 true 23 ⟨some [.sl 17 3 0 3 3 false], (m1 (mN (T4.e 0) (mL [.sl 18 2 0 2 2 false]) (mL [.sl 19 2 0 2 2 false]) (mL [.sl 20 2 0 2 2 false])))⟩), some (.cells 1 3 0 0 true 5 ⟨some [mU 181], (m1 (mN (T4.e 0) (mL [mU 222]) (mL [mU 118]) (T4.e 0)))⟩), some (.cells 1 2 0 0 true 5 ⟨some [mU 61], (m1 (mN (T4.e 0) (mL [mU 46]) (T4.e 0) (T4.e 0)))⟩), some (.cells 1 2 0 0 true 5 ⟨some [mU 208], (m1 (mN (T4.e 0) (mL [mU 96]) (T4.e 0) (T4.e 0)))⟩), some (.cells 1 2 0 0 true 5 ⟨some [mU 254], (m1 (mN (T4.e 0) (mL [mU 84]) (T4.e 0) (T4.e 0)))⟩)]
  src := [(0, 0), (1, 0), (1, 1), (1, 2), (1, 3)]
  c := 0
  n := 0
  tot := 0
  res := .bool true
  out := (T4.e 5)
  sub := (T4.e 5)
  refs := []
noncomputable def ct11 : Memo2 where
  args := [.sl 16 4 0 4 4 false, .int .u16 (.ofNat 400)]
  ins := [some (.cells 1 4 0 0 true 23 ⟨some [.sl 17 2 0 2 2 false], (m1 (mN (T4.e 0) (mL [.sl 18 3 0 3 3 false]) (mL [.sl 19 3 0 3 3 false]) (mL [.sl 20 3 0 3 3 false])))⟩), some (.cells 1 2 0 0 true 5 ⟨some [mU 50], (m1 (mN (T4.e 0) (mL [mU 210]) (T4.e 0) (T4.e 0)))⟩), some (.cells 1 3 0 0 true 5 ⟨some [mU 121], (m1 (mN (T4.e 0) (mL [mU 66]) (mL [mU 202]) (T4.e 0)))⟩), some (.cells 1 3 0 0 true 5 ⟨some [mU 181], (m1 (mN (T4.e 0) (mL [mU 3]) (mL [mU 1]) (T4.e 0)))⟩), some (.cells 1 3 0 0 true 5 ⟨some [mU 31], (m1 (mN (T4.e 0) (mL [mU 15]) (mL [mU 240]) (T4.e 0)))⟩)]
  src := [(0, 0), (1, 0), (1, 1), (1, 2), (1, 3)]
  c := 0
  n := 0
  tot := 0
  res := .bool true
  out := (T4.e 5)
  sub := (T4.e 5)
  refs := []
noncomputable def ct12 : Memo2 where
  args := [.sl 16 4 0 4 4 false, .int .u16 (.ofNat 400)]
  ins := [some (.cells 1 4 0 0 true 23 ⟨some [.sl 17 4 0 4 4 false], (m1 (mN (T4.e 0) (mL [.sl 18 3 0 3 3 false]) (mL [.sl 19 2 0 2 2 false]) (mL [.sl 20 1 0 1 1 false])))⟩), some (.cells 1 4 0 0 true 5 ⟨some [mU 71], (m1 (mN (T4.e 0) (mL [mU 209]) (mL [mU 135]) (mL [mU 99])))⟩), some (.cells 1 3 0 0 true 5 ⟨some [mU 77], (m1 (mN (T4.e 0) (mL [mU 76]) (mL [mU 45]) (T4.e 0)))⟩), some (.cells 1 2 0 0 true 5 ⟨some [mU 132], (m1 (mN (T4.e 0) (mL [mU 251]) (T4.e 0) (T4.e 0)))⟩), some (.cells 1 1 0 0 true 5 (mR [mU 170]))]
  src := [(0, 0), (1, 0), (1, 1), (1, 2), (1, 3)]
  c := 0
  n := 0
  tot := 0
  res := .bool true
  out := (T4.e 5)
  sub := (T4.e 5)
  refs := []
noncomputable def ct13 : Memo2 where
  args := [.sl 16 4 0 4 4 false, .int .u16 (.ofNat 400)]
  ins := [some (.cells 1 4 0 0 true 23 ⟨some [.sl 17 3 0 3 3 false], (m1 (mN (T4.e 0) (mL [.sl 18 2 0 2 2 false]) (mL [.sl 19 2 0 2 2 false]) (mL [.sl 20 1 0 1 1 false])))⟩), some (.cells 1 3 0 0 true 5 ⟨some [mU 65], (m1 (mN (T4.e 0) (mL [mU 69]) (mL [mU 78]) (T4.e 0)))⟩), some (.cells 1 2 0 0 true 5 ⟨some [mU 54], (m1 (mN (T4.e 0) (mL [mU 85]) (T4.e 0) (T4.e 0)))⟩), some (.cells 1 2 0 0 true 5 ⟨some [mU 208], (m1 (mN (T4.e 0) (mL [mU 71]) (T4.e 0) (T4.e 0)))⟩), some (.cells 1 1 0 0 true 5 (mR [mU 222]))]
  src := [(0, 0), (1, 0), (1, 1), (1, 2), (1, 3)]
  c := 0
  n := 0
  tot := 0
  res := .bool true
  out := (T4.e 5)
  sub := (T4.e 5)
  refs := []
noncomputable def ct14 : Memo2 where
  args := [.sl 16 4 0 4 4 false, .int .u16 (.ofNat 400)]
  ins := [some (.cells 1 4 0 0 true 23 ⟨some [.sl 17 1 0 1 1 false], (m1 (mN (T4.e 0) (mL [.sl 18 1 0 1 1 false]) (mL [.sl 19 2 0 2 2 false]) (mL [.sl 20 4 0 4 4 false])))⟩), some (.cells 1 1 0 0 true 5 (mR [mU 117])), some (.cells 1 1 0 0 true 5 (mR [mU 168])), some (.cells 1 2 0 0 true 5 ⟨some [mU 11], (m1 (mN (T4.e 0) (mL [mU 108]) (T4.e 0) (T4.e 0)))⟩), some (.cells 1 4 0 0 true 5 ⟨some [mU 91], (m1 (mN (T4.e 0) (mL [mU 174]) (mL [mU 236]) (mL [mU 156])))⟩)]
  src := [(0, 0), (1, 0), (1, 1), (1, 2), (1, 3)]
  c := 0
  n := 0
  tot := 0
  res := .bool true
  out := (T4.e 5)
  sub := (T4.e 5)
  refs := []
noncomputable def ct15 : Memo2 where
  args := [.sl 16 4 0 4 4 false, .int .u16 (.ofNat 400)]
  ins := [some (.cells 1 4 0 0 true 23 ⟨some [.sl 17 2 0 2 2 false], (m1 (mN (T4.e 0) (mL [.sl 18 1 0 1 1 false]) (mL [.sl 19 2 0 2 2 false]) (mL [.sl 20 1 0 1 1 false])))⟩), some (.cells 1 2 0 0 true 5 ⟨some [mU 49], (m1 (mN (T4.e 0) (mL [mU 109]) (T4.e 0) (T4.e 0)))⟩), some (.cells 1 1 0 0 true 5 (mR [mU 60])), some (.cells 1 2 0 0 true 5 ⟨some [mU 131], (m1 (mN (T4.e 0) (mL [mU 244]) (T4.e 0) (T4.e 0)))⟩), some (.cells 1 1 0 0 true 5 (mR [mU 118]))]
  src := [(0, 0), (1, 0), (1, 1), (1, 2), (1, 3)]
  c := 0
  n := 0
  tot := 0
  res := .bool true
  out := (T4.e 5)
  sub := (T4.e 5)
  refs := []
noncomputable def ct16 : Memo2 where
  args := [.sl 16 4 0 4 4 false, .int .u16 (.ofNat 400)]
  ins := [some (.cells 1 4 0 0 true 23 ⟨some [.sl 17 4 0 4 4 false], (m1 (mN (T4.e 0) (mL [.sl 18 2 0 2 2 false]) (mL [.sl 19 3 0 3 3 false]) (mL [.sl 20 1 0 1 1 false])))⟩), some (.cells 1 4 0 0 true 5 ⟨some [mU 81], (m1 (mN (T4.e 0) (mL [mU 7]) (mL [mU 134]) (mL [mU 255])))⟩), some (.cells 1 2 0 0 true 5 ⟨some [mU 95], (m1 (mN (T4.e 0) (mL [mU 192]) (T4.e 0) (T4.e 0)))⟩), some (.cells 1 3 0 0 true 5 ⟨some [mU 35], (m1 (mN (T4.e 0) (mL [mU 155]) (mL [mU 12]) (T4.e 0)))⟩), some (.cells 1 1 0 0 true 5 (mR [mU 139]))]
  src := [(0, 0), (1, 0), (1, 1), (1, 2), (1, 3)]
  c := 0
  n := 0
  tot := 0
  res := .bool true
  out := (T4.e 5)
  sub := (T4.e 5)
  refs := []
noncomputable def ct17 : Memo2 where
  args := [.sl 16 4 0 4 4 false, .int .u16 (.ofNat 400)]
  ins := [some (.cells 1 4 0 0 true 23 ⟨some [.sl 17 2 0 2 2 false], (m1 (mN (T4.e 0) (mL [.sl 18 3 0 3 3 false]) (mL [.sl 19 2 0 2 2 false]) (mL [.sl 20 1 0 1 1 false])))⟩), some (.cells 1 2 0 0 true 5 ⟨some [mU 105], (m1 (mN (T4.e 0) (mL [mU 53]) (T4.e 0) (T4.e 0)))⟩), some (.cells 1 3 0 0 true 5 ⟨some [mU 141], (m1 (mN (T4.e 0) (mL [mU 222]) (mL [mU 57]) (T4.e 0)))⟩), some (.cells 1 2 0 0 true 5 ⟨some [mU 39], (m1 (mN (T4.e 0) (mL [mU 47]) (T4.e 0) (T4.e 0)))⟩), some (.cells 1 1 0 0 true 5 (mR [mU 154]))]
  src := [(0, 0), (1, 0), (1, 1), (1, 2), (1, 3)]
  c := 0
  n := 0
  tot := 0
  res := .bool true
  out := (T4.e 5)
  sub := (T4.e 5)
  refs := []
noncomputable def ct18 : Memo2 where
  args := [.sl 16 4 0 4 4 false, .int .u16 (.ofNat 400)]
  ins := [some (.cells 1 4 0 0 true 23 ⟨some [.sl 17 1 0 1 1 false], (m1 (mN (T4.e 0) (mL [.sl 18 1 0 1 1 false]) (mL [.sl 19 1 0 1 1 false]) (mL [.sl 20 4 0 4 4 false])))⟩), some (.cells 1 1 0 0 true 5 (mR [mU 221])), some (.cells 1 1 0 0 true 5 (mR [mU 64])), some (.cells 1 1 0 0 true 5 (mR [mU 255])), some (.cells 1 4 0 0 true 5 ⟨some [mU 178], (m1 (mN (T4.e 0) (mL [mU 79]) (mL [mU 107]) (mL [mU 252])))⟩)]
  src := [(0, 0), (1, 0), (1, 1), (1, 2), (1, 3)]
  c := 0
  n := 0
  tot := 0
  res := .bool true
  out := (T4.e 5)
  sub := (T4.e 5)
  refs := []
noncomputable def ct19 : Memo2 where
  args := [.sl 16 4 0 4 4 false, .int .u16 (.ofNat 400)]
  ins := [some (.cells 1 4 0 0 true 23 ⟨some [.sl 17 2 0 2 2 false], (m1 (mN (T4.e 0) (mL [.sl 18 1 0 1 1 false]) (mL [.sl 19 2 0 2 2 false]) (mL [.sl 20 3 0 3 3 false])))⟩), some (.cells 1 2 0 0 true 5 ⟨some [mU 45], (m1 (mN (T4.e 0) (mL [mU 78]) (T4.e 0) (T4.e 0)))⟩), some (.cells 1 1 0 0 true 5 (mR [mU 148])), some (.cells 1 2 0 0 true 5 ⟨some [mU 19], (m1 (mN (T4.e 0) (mL [mU 123]) (T4.e 0) (T4.e 0)))⟩), some (.cells 1 3 0 0 true 5 ⟨some [mU 135], (m1 (mN (T4.e 0) (mL [mU 96]) (mL [mU 120]) (T4.e 0)))⟩)]
  src := [(0, 0), (1, 0), (1, 1), (1, 2), (1, 3)]
  c := 0
  n := 0
  tot := 0
  res := .bool true
  out := (T4.e 5)
  sub := (T4.e 5)
  refs := []
noncomputable def ct20 : Memo2 where
  args := [.sl 16 4 0 4 4 false, .int .u16 (.ofNat 400)]
  ins := [some (.cells 1 4 0 0 true 23 ⟨some [.sl 17 2 0 2 2 false], (m1 (mN (T4.e 0) (mL [.sl 18 3 0 3 3 false]) (mL [.sl 19 3 0 3 3 false]) (mL [.sl 20 3 0 3 3 false])))⟩), some (.cells 1 2 0 0 true 5 ⟨some [mU 26], (m1 (mN (T4.e 0) (mL [mU 186]) (T4.e 0) (T4.e 0)))⟩), some (.cells 1 3 0 0 true 5 ⟨some [mU 5], (m1 (mN (T4.e 0) (mL [mU 196]) (mL [mU 89]) (T4.e 0)))⟩), some (.cells 1 3 0 0 true 5 ⟨some [mU 5], (m1 (mN (T4.e 0) (mL [mU 109]) (mL [mU 121]) (T4.e 0)))⟩), some (.cells 1 3 0 0 true 5 ⟨some [mU 190], (m1 (mN (T4.e 0) (mL [mU 102]) (mL [mU 191]) (T4.e 0)))⟩)]
  src := [(0, 0), (1, 0), (1, 1), (1, 2), (1, 3)]
  c := 0
  n := 0
  tot := 0
  res := .bool true
  out := (T4.e 5)
  sub := (T4.e 5)
  refs := []
noncomputable def ct21 : Memo2 where
  args := [.sl 16 4 0 4 4 false, .int .u16 (.ofNat 400)]
  ins := [some (.cells 1 4 0 0 true 23 ⟨some [.sl 17 3 0 3 3 false], (m1 (mN (T4.e 0) (mL [.sl 18 3 0 3 3 false]) (mL [.sl 19 2 0 2 2 false]) (mL [.sl 20 1 0 1 1 false])))⟩), some (.cells 1 3 0 0 true 5 ⟨some [mU 181], (m1 (mN (T4.e 0) (mL [mU 197]) (mL [mU 18]) (T4.e 0)))⟩), some (.cells 1 3 0 0 true 5 ⟨some [mU 196], (m1 (mN (T4.e 0) (mL [mU 89]) (mL [mU 54]) (T4.e 0)))⟩), some (.cells 1 2 0 0 true 5 ⟨some [mU 155], (m1 (mN (T4.e 0) (mL [mU 127]) (T4.e 0) (T4.e 0)))⟩), some (.cells 1 1 0 0 true 5 (mR [mU 238]))]
  src := [(0, 0), (1, 0), (1, 1), (1, 2), (1, 3)]
  c := 0
  n := 0
  tot := 0
  res := .bool true
  out := (T4.e 5)
  sub := (T4.e 5)
  refs := []
noncomputable def ct22 : Memo2 where
  args := [.sl 16 4 0 4 4 false, .int .u16 (.ofNat 400)]
  ins := [some (.cells 1 4 0 0 true 23 ⟨some [.sl 17 3 0 3 3 false], (m1 (mN (T4.e 0) (mL [.sl 18 2 0 2 2 false]) (mL [.sl 19 2 0 2 2 false]) (mL [.sl 20 4 0 4 4 false])))⟩), some (.cells 1 3 0 0 true 5 ⟨some [mU 193], (m1 (mN (T4.e 0) (mL [mU 175]) (mL [mU 83]) (T4.e 0)))⟩), some (.cells 1 2 0 0 true 5 ⟨some [mU 93], (m1 (mN (T4.e 0) (mL [mU 130]) (T4.e 0) (T4.e 0)))⟩), some (.cells 1 2 0 0 true 5 ⟨some [mU 208], (m1 (mN (T4.e 0) (mL [mU 72]) (T4.e 0) (T4.e 0)))⟩), some (.cells 1 4 0 0 true 5 ⟨some [mU 139], (m1 (mN (T4.e 0) (mL [mU 126]) (mL [mU 96]) (mL [mU 28])))⟩)]
  src := [(0, 0), (1, 0), (1, 1), (1, 2), (1, 3)]
  c := 0
  n := 0
  tot := 0
  res := .bool true
  out := (T4.e 5)
  sub := (T4.e 5)
  refs := []
noncomputable def ct23 : Memo2 where
  args := [.sl 16 4 0 4 4 false, .int .u16 (.ofNat 400)]
  ins := [some (.cells 1 4 0 0 true 23 ⟨some [.sl 17 3 0 3 3 false], (m1 (mN (T4.e 0) (mL [.sl 18 1 0 1 1 false]) (mL [.sl 19 1 0 1 1 false]) (mL [.sl 20 2 0 2 2 false])))⟩), some (.cells 1 3 0 0 true 5 ⟨some [mU 13], (m1 (mN (T4.e 0) (mL [mU 202]) (mL [mU 127]) (T4.e 0)))⟩), some (.cells 1 1 0 0 true 5 (mR [mU 13])), some (.cells 1 1 0 0 true 5 (mR [mU 95])), some (.cells 1 2 0 0 true 5 ⟨some [mU 14], (m1 (mN (T4.e 0) (mL [mU 255]) (T4.e 0) (T4.e 0)))⟩)]
  src := [(0, 0), (1, 0), (1, 1), (1, 2), (1, 3)]
  c := 0
  n := 0
  tot := 0
  res := .bool true
  out := (T4.e 5)
  sub := (T4.e 5)
  refs := []
noncomputable def ct24 : Memo2 where
  args := [.sl 16 4 0 4 4 false, .int .u16 (.ofNat 400)]
  ins := [some (.cells 1 4 0 0 true 23 ⟨some [.sl 17 3 0 3 3 false], (m1 (mN (T4.e 0) (mL [.sl 18 3 0 3 3 false]) (mL [.sl 19 4 0 4 4 false]) (mL [.sl 20 1 0 1 1 false])))⟩), some (.cells 1 3 0 0 true 5 ⟨some [mU 117], (m1 (mN (T4.e 0) (mL [mU 6]) (mL [mU 243]) (T4.e 0)))⟩), some (.cells 1 3 0 0 true 5 ⟨some [mU 94], (m1 (mN (T4.e 0) (mL [mU 161]) (mL [mU 145]) (T4.e 0)))⟩), some (.cells 1 4 0 0 true 5 ⟨some [mU 160], (m1 (mN (T4.e 0) (mL [mU 213]) (mL [mU 181]) (mL [mU 141])))⟩), some (.cells 1 1 0 0 true 5 (mR [mU 67]))]
  src := [(0, 0), (1, 0), (1, 1), (1, 2), (1, 3)]
  c := 0
  n := 0
  tot := 0
  res := .bool true
  out := (T4.e 5)
  sub := (T4.e 5)
  refs := []
noncomputable def ct25 : Memo2 where
  args := [.sl 16 4 0 4 4 false, .int .u16 (.ofNat 400)]
  ins := [some (.cells 1 4 0 0 true 23 ⟨some [.sl 17 3 0 3 3 false], (m1 (mN (T4.e 0) (mL [.sl 18 3 0 3 3 false]) (mL [.sl 19 2 0 2 2 false]) (mL [.sl 20 3 0 3 3 false])))⟩), some (.cells 1 3 0 0 true 5 ⟨some [mU 177], (m1 (mN (T4.e 0) (mL [mU 191]) (mL [mU 159]) (T4.e 0)))⟩), some (.cells 1 3 0 0 true 5 ⟨some [mU 98], (m1 (mN (T4.e 0) (mL [mU 170]) (mL [mU 49]) (T4.e 0)))⟩), some (.cells 1 2 0 0 true 5 ⟨some [mU 231], (m1 (mN (T4.e 0) (mL [mU 204]) (T4.e 0) (T4.e 0)))⟩), some (.cells 1 3 0 0 true 5 ⟨some [mU 63], (m1 (mN (T4.e 0) (mL [mU 99]) (mL [mU 168]) (T4.e 0)))⟩)]
  src := [(0, 0), (1, 0), (1, 1), (1, 2), (1, 3)]
  c := 0
  n := 0
  tot := 0
  res := .bool true
  out := (T4.e 5)
  sub := (T4.e 5)
  refs := []
noncomputable def ct26 : Memo2 where
  args := [.sl 16 4 0 4 4 false, .int .u16 (.ofNat 400)]
  ins := [some (.cells 1 4 0 0 true 23 ⟨some [.sl 17 1 0 1 1 false], (m1 (mN (T4.e 0) (mL [.sl 18 4 0 4 4 false]) (mL [.sl 19 1 0 1 1 false]) (mL [.sl 20 2 0 2 2 false])))⟩), some (.cells 1 1 0 0 true 5 (mR [mU 1])), some (.cells 1 4 0 0 true 5 ⟨some [mU 16], (m1 (mN (T4.e 0) (mL [mU 188]) (mL [mU 213]) (mL [mU 102])))⟩), some (.cells 1 1 0 0 true 5 (mR [mU 129])), some (.cells 1 2 0 0 true 5 ⟨some [mU 66], (m1 (mN (T4.e 0) (mL [mU 146]) (T4.e 0) (T4.e 0)))⟩)]
  src := [(0, 0), (1, 0), (1, 1), (1, 2), (1, 3)]
  c := 0
  n := 0
  tot := 0
  res := .bool true
  out := (T4.e 5)
  sub := (T4.e 5)
  refs := []
noncomputable def ct27 : Memo2 where
  args := [.sl 16 4 0 4 4 false, .int .u16 (.ofNat 400)]
  ins := [some (.cells 1 4 0 0 true 23 ⟨some [.sl 17 2 0 2 2 false], (m1 (mN (T4.e 0) (mL [.sl 18 4 0 4 4 false]) (mL [.sl 19 2 0 2 2 false]) (mL [.sl 20 3 0 3 3 false])))⟩), some (.cells 1 2 0 0 true 5 ⟨some [mU 66], (m1 (mN (T4.e 0) (mL [mU 54]) (T4.e 0) (T4.e 0)))⟩), some (.cells 1 4 0 0 true 5 ⟨some [mU 124], (m1 (mN (T4.e 0) (mL [mU 206]) (mL [mU 190]) (mL [mU 158])))⟩), some (.cells 1 2 0 0 true 5 ⟨some [mU 213], (m1 (mN (T4.e 0) (mL [mU 109]) (T4.e 0) (T4.e 0)))⟩), some (.cells 1 3 0 0 true 5 ⟨some [mU 191], (m1 (mN (T4.e 0) (mL [mU 156]) (mL [mU 120]) (T4.e 0)))⟩)]
  src := [(0, 0), (1, 0), (1, 1), (1, 2), (1, 3)]
  c := 0
  n := 0
  tot := 0
  res := .bool true
  out := (T4.e 5)
  sub := (T4.e 5)
  refs := []
noncomputable def ct28 : Memo2 where
  args := [.sl 16 4 0 4 4 false, .int .u16 (.ofNat 400)]
  ins := [some (.cells 1 4 0 0 true 23 ⟨some [.sl 17 3 0 3 3 false], (m1 (mN (T4.e 0) (mL [.sl 18 3 0 3 3 false]) (mL [.sl 19 2 0 2 2 false]) (mL [.sl 20 4 0 4 4 false])))⟩), some (.cells 1 3 0 0 true 5 ⟨some [mU 166], (m1 (mN (T4.e 0) (mL [mU 105]) (mL [mU 170]) (T4.e 0)))⟩), some (.cells 1 3 0 0 true 5 ⟨some [mU 205], (m1 (mN (T4.e 0) (mL [mU 181]) (mL [mU 18]) (T4.e 0)))⟩), some (.cells 1 2 0 0 true 5 ⟨some [mU 157], (m1 (mN (T4.e 0) (mL [mU 96]) (T4.e 0) (T4.e 0)))⟩), some (.cells 1 4 0 0 true 5 ⟨some [mU 43], (m1 (mN (T4.e 0) (mL [mU 178]) (mL [mU 32]) (mL [mU 0])))⟩)]
  src := [(0, 0), (1, 0), (1, 1), (1, 2), (1, 3)]
  c := 0
  n := 0
  tot := 0
  res := .bool true
  out := (T4.e 5)
  sub := (T4.e 5)
  refs := []
noncomputable def ct29 : Memo2 where
  args := [.sl 16 4 0 4 4 false, .int .u16 (.ofNat 400)]
  ins := [some (.cells 1 4 0 0 true 23 ⟨some [.sl 17 2 0 2 2 false], (m1 (mN (T4.e 0) (mL [.sl 18 2 0 2 2 false]) (mL [.sl 19 1 0 1 1 false]) (mL [.sl 20 2 0 2 2 false])))⟩), some (.cells 1 2 0 0 true 5 ⟨some [mU 241], (m1 (mN (T4.e 0) (mL [mU 197]) (T4.e 0) (T4.e 0)))⟩), some (.cells 1 2 0 0 true 5 ⟨some [mU 229], (m1 (mN (T4.e 0) (mL [mU 17]) (T4.e 0) (T4.e 0)))⟩), some (.cells 1 1 0 0 true 5 (mR [mU 219])), some (.cells 1 2 0 0 true 5 ⟨some [mU 18], (m1 (mN (T4.e 0) (mL [mU 216]) (T4.e 0) (T4.e 0)))⟩)]
  src := [(0, 0), (1, 0), (1, 1), (1, 2), (1, 3)]
  c := 0
  n := 0
  tot := 0
  res := .bool true
  out := (T4.e 5)
  sub := (T4.e 5)
  refs := []
noncomputable def ct30 : Memo2 where
  args := [.sl 16 4 0 4 4 false, .int .u16 (.ofNat 400)]
  ins := [some (.cells 1 4 0 0 true 23 ⟨some [.sl 17 3 0 3 3 false], (m1 (mN (T4.e 0) (mL [.sl 18 1 0 1 1 false]) (mL [.sl 19 2 0 2 2 false]) (mL [.sl 20 4 0 4 4 false])))⟩), some (.cells 1 3 0 0 true 5 ⟨some [mU 234], (m1 (mN (T4.e 0) (mL [mU 119]) (mL [mU 115]) (T4.e 0)))⟩), some (.cells 1 1 0 0 true 5 (mR [mU 178])), some (.cells 1 2 0 0 true 5 ⟨some [mU 183], (m1 (mN (T4.e 0) (mL [mU 252]) (T4.e 0) (T4.e 0)))⟩), some (.cells 1 4 0 0 true 5 ⟨some [mU 203], (m1 (mN (T4.e 0) (mL [mU 134]) (mL [mU 204]) (mL [mU 164])))⟩)]
  src := [(0, 0), (1, 0), (1, 1), (1, 2), (1, 3)]
  c := 0
  n := 0
  tot := 0
  res := .bool true
  out := (T4.e 5)
  sub := (T4.e 5)
  refs := []
noncomputable def ct31 : Memo2 where
  args := [.sl 16 4 0 4 4 false, .int .u16 (.ofNat 400)]
  ins := [some (.cells 1 4 0 0 true 23 ⟨some [.sl 17 1 0 1 1 false], (m1 (mN (T4.e 0) (mL [.sl 18 1 0 1 1 false]) (mL [.sl 19 4 0 4 4 false]) (mL [.sl 20 1 0 1 1 false])))⟩), some (.cells 1 1 0 0 true 5 (mR [mU 133])), some (.cells 1 1 0 0 true 5 (mR [mU 12])), some (.cells 1 4 0 0 true 5 ⟨some [mU 227], (m1 (mN (T4.e 0) (mL [mU 196]) (mL [mU 213]) (mL [mU 133])))⟩), some (.cells 1 1 0 0 true 5 (mR [mU 97]))]
  src := [(0, 0), (1, 0), (1, 1), (1, 2), (1, 3)]
  c := 0
  n := 0
  tot := 0
  res := .bool true
  out := (T4.e 5)
  sub := (T4.e 5)
  refs := []
noncomputable def ct32 : Memo2 where
  args := [.sl 16 4 0 4 4 false, .int .u16 (.ofNat 400)]
  ins := [some (.cells 1 4 0 0 true 23 ⟨some [.sl 17 3 0 3 3 false], (m1 (mN (T4.e 0) (mL [.sl 18 2 0 2 2 false]) (mL [.sl 19 3 0 3 3 false]) (mL [.sl 20 3 0 3 3 false])))⟩), some (.cells 1 3 0 0 true 5 ⟨some [mU 221], (m1 (mN (T4.e 0) (mL [mU 157]) (mL [mU 199]) (T4.e 0)))⟩), some (.cells 1 2 0 0 true 5 ⟨some [mU 150], (m1 (mN (T4.e 0) (mL [mU 105]) (T4.e 0) (T4.e 0)))⟩), some (.cells 1 3 0 0 true 5 ⟨some [mU 83], (m1 (mN (T4.e 0) (mL [mU 61]) (mL [mU 168]) (T4.e 0)))⟩), some (.cells 1 3 0 0 true 5 ⟨some [mU 19], (m1 (mN (T4.e 0) (mL [mU 223]) (mL [mU 79]) (T4.e 0)))⟩)]
  src := [(0, 0), (1, 0), (1, 1), (1, 2), (1, 3)]
  c := 0
  n := 0
  tot := 0
  res := .bool true
  out := (T4.e 5)
  sub := (T4.e 5)
  refs := []
noncomputable def ct33 : Memo2 where
  args := [.sl 16 4 0 4 4 false, .int .u16 (.ofNat 400)]
  ins := [some (.cells 1 4 0 0 true 23 ⟨some [.sl 17 3 0 3 3 false], (m1 (mN (T4.e 0) (mL [.sl 18 3 0 3 3 false]) (mL [.sl 19 3 0 3 3 false]) (mL [.sl 20 3 0 3 3 false])))⟩), some (.cells 1 3 0 0 true 5 ⟨some [mU 177], (m1 (mN (T4.e 0) (mL [mU 190]) (mL [mU 198]) (T4.e 0)))⟩), some (.cells 1 3 0 0 true 5 ⟨some [mU 142], (m1 (mN (T4.e 0) (mL [mU 230]) (mL [mU 141]) (T4.e 0)))⟩), some (.cells 1 3 0 0 true 5 ⟨some [mU 37], (m1 (mN (T4.e 0) (mL [mU 53]) (mL [mU 225]) (T4.e 0)))⟩), some (.cells 1 3 0 0 true 5 ⟨some [mU 64], (m1 (mN (T4.e 0) (mL [mU 175]) (mL [mU 220]) (T4.e 0)))⟩)]
  src := [(0, 0), (1, 0), (1, 1), (1, 2), (1, 3)]
  c := 0
  n := 0
  tot := 0
  res := .bool true
  out := (T4.e 5)
  sub := (T4.e 5)
  refs := []
noncomputable def ct34 : Memo2 where
  args := [.sl 16 4 0 4 4 false, .int .u16 (.ofNat 400)]
  ins := [some (.cells 1 4 0 0 true 23 ⟨some [.sl 17 1 0 1 1 false], (m1 (mN (T4.e 0) (mL [.sl 18 2 0 2 2 false]) (mL [.sl 19 2 0 2 2 false]) (mL [.sl 20 1 0 1 1 false])))⟩), some (.cells 1 1 0 0 true 5 (mR [mU 125])), some (.cells 1 2 0 0 true 5 ⟨some [mU 68], (m1 (mN (T4.e 0) (mL [mU 29]) (T4.e 0) (T4.e 0)))⟩), some (.cells 1 2 0 0 true 5 ⟨some [mU 32], (m1 (mN (T4.e 0) (mL [mU 15]) (T4.e 0) (T4.e 0)))⟩), some (.cells 1 1 0 0 true 5 (mR [mU 186]))]
  src := [(0, 0), (1, 0), (1, 1), (1, 2), (1, 3)]
  c := 0
  n := 0
  tot := 0
  res := .bool true
  out := (T4.e 5)
  sub := (T4.e 5)
  refs := []
noncomputable def ct35 : Memo2 where
  args := [.sl 16 4 0 4 4 false, .int .u16 (.ofNat 400)]
  ins := [some (.cells 1 4 0 0 true 23 ⟨some [.sl 17 1 0 1 1 false], (m1 (mN (T4.e 0) (mL [.sl 18 2 0 2 2 false]) (mL [.sl 19 4 0 4 4 false]) (mL [.sl 20 2 0 2 2 false])))⟩), some (.cells 1 1 0 0 true 5 (mR [mU 25])), some (.cells 1 2 0 0 true 5 ⟨some [mU 132], (m1 (mN (T4.e 0) (mL [mU 176]) (T4.e 0) (T4.e 0)))⟩), some (.cells 1 4 0 0 true 5 ⟨some [mU 72], (m1 (mN (T4.e 0) (mL [mU 44]) (mL [mU 200]) (mL [mU 57])))⟩), some (.cells 1 2 0 0 true 5 ⟨some [mU 139], (m1 (mN (T4.e 0) (mL [mU 58]) (T4.e 0) (T4.e 0)))⟩)]
  src := [(0, 0), (1, 0), (1, 1), (1, 2), (1, 3)]
  c := 0
  n := 0
  tot := 0
  res := .bool true
  out := (T4.e 5)
  sub := (T4.e 5)
  refs := []
noncomputable def ct36 : Memo2 where
  args := [.sl 16 4 0 4 4 false, .int .u16 (.ofNat 400)]
  ins := [some (.cells 1 4 0 0 true 23 ⟨some [.sl 17 4 0 4 4 false], (m1 (mN (T4.e 0) (mL [.sl 18 1 0 1 1 false]) (mL [.sl 19 2 0 2 2 false]) (mL [.sl 20 1 0 1 1 false])))⟩), some (.cells 1 4 0 0 true 5 ⟨some [mU 245], (m1 (mN (T4.e 0) (mL [mU 18]) (mL [mU 126]) (mL [mU 123])))⟩), some (.cells 1 1 0 0 true 5 (mR [mU 192])), some (.cells 1 2 0 0 true 5 ⟨some [mU 219], (m1 (mN (T4.e 0) (mL [mU 111]) (T4.e 0) (T4.e 0)))⟩), some (.cells 1 1 0 0 true 5 (mR [mU 43]))]
  src := [(0, 0), (1, 0), (1, 1), (1, 2), (1, 3)]
  c := 0
  n := 0
  tot := 0
  res := .bool true
  out := (T4.e 5)
  sub := (T4.e 5)
  refs := []
noncomputable def ct37 : Memo2 where
  args := [.sl 16 4 0 4 4 false, .int .u16 (.ofNat 400)]
  ins := [some (.cells 1 4 0 0 true 23 ⟨some [.sl 17 2 0 2 2 false], (m1 (mN (T4.e 0) (mL [.sl 18 1 0 1 1 false]) (mL [.sl 19 2 0 2 2 false]) (mL [.sl 20 3 0 3 3 false])))⟩), some (.cells 1 2 0 0 true 5 ⟨some [mU 13], (m1 (mN (T4.e 0) (mL [mU 18]) (T4.e 0) (T4.e 0)))⟩), some (.cells 1 1 0 0 true 5 (mR [mU 33])), some (.cells 1 2 0 0 true 5 ⟨some [mU 247], (m1 (mN (T4.e 0) (mL [mU 211]) (T4.e 0) (T4.e 0)))⟩), some (.cells 1 3 0 0 true 5 ⟨some [mU 26], (m1 (mN (T4.e 0) (mL [mU 91]) (mL [mU 12]) (T4.e 0)))⟩)]
  src := [(0, 0), (1, 0), (1, 1), (1, 2), (1, 3)]
  c := 0
  n := 0
  tot := 0
  res := .bool true
  out := (T4.e 5)
  sub := (T4.e 5)
  refs := []
noncomputable def ct38 : Memo2 where
  args := [.sl 16 4 0 4 4 false, .int .u16 (.ofNat 400)]
  ins := [some (.cells 1 4 0 0 true 23 ⟨some [.sl 17 2 0 2 2 false], (m1 (mN (T4.e 0) (mL [.sl 18 2 0 2 2 false]) (mL [.sl 19 2 0 2 2 false]) (mL [.sl 20 2 0 2 2 false])))⟩), some (.cells 1 2 0 0 true 5 ⟨some [mU 6], (m1 (mN (T4.e 0) (mL [mU 241]) (T4.e 0) (T4.e 0)))⟩), some (.cells 1 2 0 0 true 5 ⟨some [mU 244], (m1 (mN (T4.e 0) (mL [mU 202]) (T4.e 0) (T4.e 0)))⟩), some (.cells 1 2 0 0 true 5 ⟨some [mU 87], (m1 (mN (T4.e 0) (mL [mU 161]) (T4.e 0) (T4.e 0)))⟩), some (.cells 1 2 0 0 true 5 ⟨some [mU 198], (m1 (mN (T4.e 0) (mL [mU 24]) (T4.e 0) (T4.e 0)))⟩)]
  src := [(0, 0), (1, 0), (1, 1), (1, 2), (1, 3)]
  c := 0
  n := 0
  tot := 0
  res := .bool true
  out := (T4.e 5)
  sub := (T4.e 5)
  refs := []
noncomputable def ct39 : Memo2 where
  args := [.sl 16 4 0 4 4 false, .int .u16 (.ofNat 400)]
  ins := [some (.cells 1 4 0 0 true 23 ⟨some [.sl 17 2 0 2 2 false], (m1 (mN (T4.e 0) (mL [.sl 18 2 0 2 2 false]) (mL [.sl 19 3 0 3 3 false]) (mL [.sl 20 2 0 2 2 false])))⟩), some (.cells 1 2 0 0 true 5 ⟨some [mU 54], (m1 (mN (T4.e 0) (mL [mU 125]) (T4.e 0) (T4.e 0)))⟩), some (.cells 1 2 0 0 true 5 ⟨some [mU 184], (m1 (mN (T4.e 0) (mL [mU 136]) (T4.e 0) (T4.e 0)))⟩), some (.cells 1 3 0 0 true 5 ⟨some [mU 183], (m1 (mN (T4.e 0) (mL [mU 181]) (mL [mU 212]) (T4.e 0)))⟩), some (.cells 1 2 0 0 true 5 ⟨some [mU 219], (m1 (mN (T4.e 0) (mL [mU 139]) (T4.e 0) (T4.e 0)))⟩)]
  src := [(0, 0), (1, 0), (1, 1), (1, 2), (1, 3)]
  c := 0
  n := 0
  tot := 0
  res := .bool true
  out := (T4.e 5)
  sub := (T4.e 5)
  refs := []
noncomputable def run14_g0 : Bool := rkW fnsC tab13 4 ct0
noncomputable def run14_g1 : Bool := rkW fnsC tab13 4 ct1
noncomputable def run14_g2 : Bool := rkW fnsC tab13 4 ct2
noncomputable def run14_g3 : Bool := rkW fnsC tab13 4 ct3
noncomputable def run14_g4 : Bool := rkW fnsC tab13 4 ct4
noncomputable def run14_g5 : Bool := rkW fnsC tab13 4 ct5
noncomputable def run14_g6 : Bool := rkW fnsC tab13 4 ct6
noncomputable def run14_g7 : Bool := rkW fnsC tab13 4 ct7
noncomputable def run14_g8 : Bool := rkW fnsC tab13 4 ct8
noncomputable def run14_g9 : Bool := rkW fnsC tab13 4 ct9
noncomputable def run14_g10 : Bool := rkW fnsC tab13 4 ct10
noncomputable def run14_g11 : Bool := rkW fnsC tab13 4 ct11
noncomputable def run14_g12 : Bool := rkW fnsC tab13 4 ct12
noncomputable def run14_g13 : Bool := rkW fnsC tab13 4 ct13
noncomputable def run14_g14 : Bool := rkW fnsC tab13 4 ct14
noncomputable def run14_g15 : Bool := rkW fnsC tab13 4 ct15
noncomputable def run14_g16 : Bool := rkW fnsC tab13 4 ct16
noncomputable def run14_g17 : Bool := rkW fnsC tab13 4 ct17
noncomputable def run14_g18 : Bool := rkW fnsC tab13 4 ct18
noncomputable def run14_g19 : Bool := rkW fnsC tab13 4 ct19
noncomputable def run14_g20 : Bool := rkW fnsC tab13 4 ct20
noncomputable def run14_g21 : Bool := rkW fnsC tab13 4 ct21
noncomputable def run14_g22 : Bool := rkW fnsC tab13 4 ct22
noncomputable def run14_g23 : Bool := rkW fnsC tab13 4 ct23
noncomputable def run14_g24 : Bool := rkW fnsC tab13 4 ct24
noncomputable def run14_g25 : Bool := rkW fnsC tab13 4 ct25
noncomputable def run14_g26 : Bool := rkW fnsC tab13 4 ct26
noncomputable def run14_g27 : Bool := rkW fnsC tab13 4 ct27
noncomputable def run14_g28 : Bool := rkW fnsC tab13 4 ct28
noncomputable def run14_g29 : Bool := rkW fnsC tab13 4 ct29
noncomputable def run14_g30 : Bool := rkW fnsC tab13 4 ct30
noncomputable def run14_g31 : Bool := rkW fnsC tab13 4 ct31
noncomputable def run14_g32 : Bool := rkW fnsC tab13 4 ct32
noncomputable def run14_g33 : Bool := rkW fnsC tab13 4 ct33
noncomputable def run14_g34 : Bool := rkW fnsC tab13 4 ct34
noncomputable def run14_g35 : Bool := rkW fnsC tab13 4 ct35
noncomputable def run14_g36 : Bool := rkW fnsC tab13 4 ct36
noncomputable def run14_g37 : Bool := rkW fnsC tab13 4 ct37
noncomputable def run14_g38 : Bool := rkW fnsC tab13 4 ct38
noncomputable def run14_g39 : Bool := rkW fnsC tab13 4 ct39
noncomputable def tab14 : T4 FnD TD := T4.set TD 4 (memoD0 ct0 16 (memoD0 ct1 16 (memoD0 ct2 16 (memoD0 ct3 16 (memoD0 ct4 16 (memoD0 ct5 16 (memoD0 ct6 16 (memoD0 ct7 16 (memoD0 ct8 16 (memoD0 ct9 16 (memoD0 ct10 16 (memoD0 ct11 16 (memoD0 ct12 16 (memoD0 ct13 16 (memoD0 ct14 16 (memoD0 ct15 16 (memoD0 ct16 16 (memoD0 ct17 16 (memoD0 ct18 16 (memoD0 ct19 16 (memoD0 ct20 16 (memoD0 ct21 16 (memoD0 ct22 16 (memoD0 ct23 16 (memoD0 ct24 16 (memoD0 ct25 16 (memoD0 ct26 16 (memoD0 ct27 16 (memoD0 ct28 16 (memoD0 ct29 16 (memoD0 ct30 16 (memoD0 ct31 16 (memoD0 ct32 16 (memoD0 ct33 16 (memoD0 ct34 16 (memoD0 ct35 16 (memoD0 ct36 16 (memoD0 ct37 16 (memoD0 ct38 16 (memoD0 ct39 16 (failD))))))))))))))))))))))))))))))))))))))))) tab13
/-- the function, with what is kept -/
noncomputable def runRoot : Bool := mkTblZ Tryz.prog [] (607, 392) 137 fnsR tab14 (fun t => runF t 60 3 [] hs isTrueK (fun _ _ => false))
end
end Go.Proofs.YtkadfophjfmknaaGreatDoor
