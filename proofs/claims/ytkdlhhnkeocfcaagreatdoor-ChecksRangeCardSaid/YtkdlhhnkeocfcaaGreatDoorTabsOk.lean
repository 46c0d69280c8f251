/-
  The tables of functions are good: each entry speaks of its function; under the two facts on package-level variables that are stated.
-/
import Derived.Test.YtkdlhhnkeocfcaaGreatDoorTabs
import Derived.Test.YtkdlhhnkeocfcaaGreatDoorGoods
set_option linter.unusedVariables false
set_option linter.unusedSimpArgs false
namespace Go.Proofs.YtkdlhhnkeocfcaaGreatDoor
open Go Go.Abs
set_option maxRecDepth 100000
set_option maxHeartbeats 0
theorem tab0_ok {ν : Nu} (h0 : TabCell Tryz.prog ν "strings.asciiSpace" .u8 Lib.asciiSpaceTab) (h3 : IntCell ν 2) : TblOk Tryz.prog ν tab0 := by
  unfold tab0
  refine TblOk.set ?_ (f := 214) (by omega) good214
  refine TblOk.set ?_ (f := 17) (by omega) good17
  refine TblOk.set ?_ (f := 191) (by omega) good191
  refine TblOk.set ?_ (f := 132) (by omega) good132
  refine TblOk.set ?_ (f := 208) (by omega) good208
  refine TblOk.set ?_ (f := 16) (by omega) (good16 h0)
  refine TblOk.set ?_ (f := 330) (by omega) good330
  refine TblOk.set ?_ (f := 209) (by omega) good209
  refine TblOk.set ?_ (f := 291) (by omega) good291
  refine TblOk.set ?_ (f := 163) (by omega) good163
  refine TblOk.set ?_ (f := 18) (by omega) (good18 h3)
  refine TblOk.set ?_ (f := 76) (by omega) (good76 h3)
  refine TblOk.set ?_ (f := 48) (by omega) (good48 h3)
  exact TblOk.empty
theorem fnsW_ok : FnsOkZ Tryz.prog fnsW := ⟨Tryz.func198, trivial⟩
theorem fnsL_ok : FnsOkZ Tryz.prog fnsL := ⟨Tryz.func4, Tryz.func7, Tryz.func8, Tryz.func10, Tryz.func12, Tryz.func13, Tryz.func14, Tryz.func15, Tryz.func19, Tryz.func20, Tryz.func21, Tryz.func24, Tryz.func25, Tryz.func26, Tryz.func27, Tryz.func28, Tryz.func29, Tryz.func30, Tryz.func31, Tryz.func32, Tryz.func33, Tryz.func34, Tryz.func36, Tryz.func37, Tryz.func38, Tryz.func43, Tryz.func44, Tryz.func45, Tryz.func49, Tryz.func50, Tryz.func51, Tryz.func52, Tryz.func53, Tryz.func54, Tryz.func55, Tryz.func56, Tryz.func57, Tryz.func58, Tryz.func59, Tryz.func60, Tryz.func61, Tryz.func62, Tryz.func63, Tryz.func64, Tryz.func65, Tryz.func66, Tryz.func67, Tryz.func68, Tryz.func69, Tryz.func70, Tryz.func72, Tryz.func74, Tryz.func77, Tryz.func78, Tryz.func79, Tryz.func80, Tryz.func81, Tryz.func82, Tryz.func83, Tryz.func84, Tryz.func85, Tryz.func86, Tryz.func87, Tryz.func88, Tryz.func89, Tryz.func90, Tryz.func91, Tryz.func92, Tryz.func93, Tryz.func94, Tryz.func95, Tryz.func96, Tryz.func97, Tryz.func98, Tryz.func99, Tryz.func100, Tryz.func103, Tryz.func104, Tryz.func107, Tryz.func108, Tryz.func109, Tryz.func110, Tryz.func112, Tryz.func114, Tryz.func116, Tryz.func117, Tryz.func118, Tryz.func119, Tryz.func120, Tryz.func124, Tryz.func125, Tryz.func126, Tryz.func130, Tryz.func134, Tryz.func136, Tryz.func137, Tryz.func138, Tryz.func139, Tryz.func140, Tryz.func141, Tryz.func142, Tryz.func143, Tryz.func144, Tryz.func145, Tryz.func146, Tryz.func148, Tryz.func149, Tryz.func150, Tryz.func151, Tryz.func152, Tryz.func153, Tryz.func154, Tryz.func157, Tryz.func158, Tryz.func159, Tryz.func160, Tryz.func161, Tryz.func162, Tryz.func164, Tryz.func165, Tryz.func166, Tryz.func167, Tryz.func169, Tryz.func170, Tryz.func171, Tryz.func172, Tryz.func173, Tryz.func174, Tryz.func175, Tryz.func176, Tryz.func177, Tryz.func178, Tryz.func183, Tryz.func185, Tryz.func186, Tryz.func187, Tryz.func189, Tryz.func195, Tryz.func196, Tryz.func197, Tryz.func199, Tryz.func200, Tryz.func201, Tryz.func202, Tryz.func203, Tryz.func204, Tryz.func205, Tryz.func206, Tryz.func207, Tryz.func210, Tryz.func211, Tryz.func212, Tryz.func213, Tryz.func217, Tryz.func218, Tryz.func219, Tryz.func220, Tryz.func221, Tryz.func222, Tryz.func225, Tryz.func226, Tryz.func227, Tryz.func228, Tryz.func229, Tryz.func230, Tryz.func232, Tryz.func233, Tryz.func234, Tryz.func236, Tryz.func237, Tryz.func238, Tryz.func239, Tryz.func240, Tryz.func241, Tryz.func242, Tryz.func243, Tryz.func244, Tryz.func245, Tryz.func269, Tryz.func270, Tryz.func271, Tryz.func272, Tryz.func273, Tryz.func274, Tryz.func275, Tryz.func277, Tryz.func278, Tryz.func279, Tryz.func280, Tryz.func281, Tryz.func282, Tryz.func283, Tryz.func284, Tryz.func285, Tryz.func286, Tryz.func287, Tryz.func288, Tryz.func289, Tryz.func290, Tryz.func292, Tryz.func293, Tryz.func294, Tryz.func295, Tryz.func297, Tryz.func300, Tryz.func302, Tryz.func303, Tryz.func304, Tryz.func305, Tryz.func313, Tryz.func314, Tryz.func315, Tryz.func322, Tryz.func323, Tryz.func324, Tryz.func325, Tryz.func328, Tryz.func329, Tryz.func332, Tryz.func333, Tryz.func337, Tryz.func338, Tryz.func339, Tryz.func343, Tryz.func347, Tryz.func348, Tryz.func351, Tryz.func358, Tryz.func363, Tryz.func364, Tryz.func365, Tryz.func367, Tryz.func368, Tryz.func375, Tryz.func376, Tryz.func394, Tryz.func395, Tryz.func396, Tryz.func397, Tryz.func398, Tryz.func403, Tryz.func404, Tryz.func420, Tryz.func421, Tryz.func422, Tryz.func423, Tryz.func424, Tryz.func425, Tryz.func427, Tryz.func428, Tryz.func432, Tryz.func433, Tryz.func451, Tryz.func452, Tryz.func454, Tryz.func457, Tryz.func466, trivial⟩
theorem fnsS_ok : FnsOkZ Tryz.prog fnsS := ⟨Tryz.func5, Tryz.func6, Tryz.func7, Tryz.func8, Tryz.func9, Tryz.func10, Tryz.func11, Tryz.func19, Tryz.func20, Tryz.func21, Tryz.func24, Tryz.func25, Tryz.func26, Tryz.func27, Tryz.func38, Tryz.func43, Tryz.func44, Tryz.func45, Tryz.func49, Tryz.func50, Tryz.func51, Tryz.func52, Tryz.func53, Tryz.func72, Tryz.func77, Tryz.func78, Tryz.func79, Tryz.func80, Tryz.func82, Tryz.func83, Tryz.func84, Tryz.func85, Tryz.func86, Tryz.func87, Tryz.func88, Tryz.func89, Tryz.func134, Tryz.func136, Tryz.func137, Tryz.func138, Tryz.func139, Tryz.func140, Tryz.func141, Tryz.func142, Tryz.func143, Tryz.func144, Tryz.func145, Tryz.func195, Tryz.func196, Tryz.func197, Tryz.func280, Tryz.func281, trivial⟩
theorem fnsC_ok : FnsOkZ Tryz.prog fnsC := ⟨Tryz.func7, Tryz.func8, Tryz.func19, Tryz.func20, Tryz.func21, Tryz.func26, Tryz.func27, Tryz.func38, Tryz.func49, Tryz.func52, Tryz.func53, Tryz.func77, Tryz.func88, Tryz.func89, Tryz.func142, Tryz.func143, Tryz.func144, Tryz.func145, trivial⟩
theorem fnsX_ok : FnsOkZ Tryz.prog fnsX := ⟨Tryz.func8, Tryz.func9, Tryz.func19, Tryz.func20, Tryz.func21, Tryz.func49, Tryz.func77, trivial⟩
theorem fnsN_ok : FnsOkZ Tryz.prog fnsN := ⟨Tryz.func5, Tryz.func6, trivial⟩
theorem fnsR_ok : FnsOkZ Tryz.prog fnsR := ⟨Tryz.func3, Tryz.func11, trivial⟩
theorem noNG : NoNG Tryz.prog := by
  have h : (Tryz.prog.funcs.toList.all fun fn => !(fn.name == "runtime.NumGoroutine")) = true := by kernel_rfl
  intro f fn hf
  rw [List.all_eq_true] at h
  have hm : fn ∈ Tryz.prog.funcs.toList := Array.mem_toList_iff.2 (Array.mem_of_getElem? hf)
  simpa using h fn hm
theorem failD_good {ν : Nu} {f : Nat} : FnGood Tryz.prog ν f failD := by
  intro cf _ args h kr kp hk
  cases hk
end Go.Proofs.YtkdlhhnkeocfcaaGreatDoor
