/- Plain laws of matrices over the field of 256, at literals: first part. No conditions. -/
import Derived.Test.YtbdhdandljfkfaaGreatDoorK
set_option linter.unusedVariables false
set_option linter.unusedSimpArgs false
set_option linter.unusedSectionVars false
set_option maxRecDepth 100000
section
open Go Go.Proofs Ev Sx
namespace Mx
theorem v120_11:E120 (some (some gfL)) t154 1 1=some [[1]]:=by kernel_rfl
theorem v120_21:E120 (some (some gfL)) t154 2 1=some [[1],[1]]:=by kernel_rfl
theorem v120_22:E120 (some (some gfL)) t154 2 2=some [[1,0],[1,1]]:=by kernel_rfl
theorem v120_31:E120 (some (some gfL)) t154 3 1=some [[1],[1],[1]]:=by kernel_rfl
theorem v120_32:E120 (some (some gfL)) t154 3 2=some [[1,0],[1,1],[1,2]]:=by kernel_rfl
theorem v120_33:E120 (some (some gfL)) t154 3 3=some [[1,0,0],[1,1,1],[1,2,4]]:=by kernel_rfl
theorem v120_41:E120 (some (some gfL)) t154 4 1=some [[1],[1],[1],[1]]:=by kernel_rfl
theorem v120_42:E120 (some (some gfL)) t154 4 2=some [[1,0],[1,1],[1,2],[1,3]]:=by kernel_rfl
theorem v120_43:E120 (some (some gfL)) t154 4 3=some [[1,0,0],[1,1,1],[1,2,4],[1,3,5]]:=by kernel_rfl
theorem v120_44:E120 (some (some gfL)) t154 4 4=some [[1,0,0,0],[1,1,1,1],[1,2,4,8],[1,3,5,15]]:=by kernel_rfl
theorem v120_51:E120 (some (some gfL)) t154 5 1=some [[1],[1],[1],[1],[1]]:=by kernel_rfl
theorem v120_52:E120 (some (some gfL)) t154 5 2=some [[1,0],[1,1],[1,2],[1,3],[1,4]]:=by kernel_rfl
theorem v120_53:E120 (some (some gfL)) t154 5 3=some [[1,0,0],[1,1,1],[1,2,4],[1,3,5],[1,4,16]]:=by kernel_rfl
theorem v120_54:E120 (some (some gfL)) t154 5 4=some [[1,0,0,0],[1,1,1,1],[1,2,4,8],[1,3,5,15],[1,4,16,64]]:=by kernel_rfl
theorem v120_55:E120 (some (some gfL)) t154 5 5=some [[1,0,0,0,0],[1,1,1,1,1],[1,2,4,8,16],[1,3,5,15,17],[1,4,16,64,29]]:=by kernel_rfl
theorem v120_61:E120 (some (some gfL)) t154 6 1=some [[1],[1],[1],[1],[1],[1]]:=by kernel_rfl
theorem v120_62:E120 (some (some gfL)) t154 6 2=some [[1,0],[1,1],[1,2],[1,3],[1,4],[1,5]]:=by kernel_rfl
theorem v120_63:E120 (some (some gfL)) t154 6 3=some [[1,0,0],[1,1,1],[1,2,4],[1,3,5],[1,4,16],[1,5,17]]:=by kernel_rfl
theorem v120_64:E120 (some (some gfL)) t154 6 4=some [[1,0,0,0],[1,1,1,1],[1,2,4,8],[1,3,5,15],[1,4,16,64],[1,5,17,85]]:=by kernel_rfl
theorem v120_65:E120 (some (some gfL)) t154 6 5=some [[1,0,0,0,0],[1,1,1,1,1],[1,2,4,8,16],[1,3,5,15,17],[1,4,16,64,29],[1,5,17,85,28]]:=by kernel_rfl
theorem v120_66:E120 (some (some gfL)) t154 6 6=some [[1,0,0,0,0,0],[1,1,1,1,1,1],[1,2,4,8,16,32],[1,3,5,15,17,51],[1,4,16,64,29,116],[1,5,17,85,28,108]]:=by kernel_rfl
theorem v120_71:E120 (some (some gfL)) t154 7 1=some [[1],[1],[1],[1],[1],[1],[1]]:=by kernel_rfl
theorem v120_72:E120 (some (some gfL)) t154 7 2=some [[1,0],[1,1],[1,2],[1,3],[1,4],[1,5],[1,6]]:=by kernel_rfl
theorem v120_73:E120 (some (some gfL)) t154 7 3=some [[1,0,0],[1,1,1],[1,2,4],[1,3,5],[1,4,16],[1,5,17],[1,6,20]]:=by kernel_rfl
theorem v120_74:E120 (some (some gfL)) t154 7 4=some [[1,0,0,0],[1,1,1,1],[1,2,4,8],[1,3,5,15],[1,4,16,64],[1,5,17,85],[1,6,20,120]]:=by kernel_rfl
theorem v120_75:E120 (some (some gfL)) t154 7 5=some [[1,0,0,0,0],[1,1,1,1,1],[1,2,4,8,16],[1,3,5,15,17],[1,4,16,64,29],[1,5,17,85,28],[1,6,20,120,13]]:=by kernel_rfl
theorem v120_76:E120 (some (some gfL)) t154 7 6=some [[1,0,0,0,0,0],[1,1,1,1,1,1],[1,2,4,8,16,32],[1,3,5,15,17,51],[1,4,16,64,29,116],[1,5,17,85,28,108],[1,6,20,120,13,46]]:=by kernel_rfl
end Mx
end
section
open Go Go.Proofs Ev Sx
namespace Mx
theorem i121_1:E121 (some (some gfL)) t161 t162 t187 [[1]]=some ([[1]],0):=by kernel_rfl
end Mx
end
section
open Go Go.Proofs Ev Sx
namespace Mx
theorem i121_2:E121 (some (some gfL)) t161 t162 t187 [[1,0],[1,1]]=some ([[1,0],[1,1]],0):=by kernel_rfl
end Mx
end
section
open Go Go.Proofs Ev Sx
namespace Mx
theorem i121_3:E121 (some (some gfL)) t161 t162 t187 [[1,0,0],[1,1,1],[1,2,4]]=some ([[1,0,0],[143,245,122],[142,244,122]],0):=by kernel_rfl
end Mx
end
