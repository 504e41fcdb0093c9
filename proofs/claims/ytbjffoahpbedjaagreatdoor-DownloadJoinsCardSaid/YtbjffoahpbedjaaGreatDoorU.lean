/- Plain laws of the document's matrices over the field of 256, at literals. No conditions. -/
import Derived.Test.YtbjffoahpbedjaaGreatDoorK
set_option linter.unusedVariables false
set_option linter.unusedSimpArgs false
set_option linter.unusedSectionVars false
set_option maxRecDepth 100000
section
open Go Go.Proofs Ev Sx
namespace Mx
theorem i116_1:E116 t80 (t149 t80) [[1]]=some ([[1]],true):=by kernel_rfl
end Mx
end
section
open Go Go.Proofs Ev Sx
namespace Mx
theorem i116_2:E116 t80 (t149 t80) [[1,0],[1,1]]=some ([[1,0],[1,1]],true):=by kernel_rfl
end Mx
end
section
open Go Go.Proofs Ev Sx
namespace Mx
theorem i116_3:E116 t80 (t149 t80) [[1,0,0],[1,1,1],[1,2,4]]=some ([[1,0,0],[143,245,122],[142,244,122]],true):=by kernel_rfl
end Mx
end
section
open Go Go.Proofs Ev Sx
namespace Mx
theorem i116_4:E116 t80 (t149 t80) [[1,0,0,0],[1,1,1,1],[1,2,4,8],[1,3,5,15]]=some ([[1,0,0,0],[123,1,142,244],[0,122,244,142],[122,122,122,122]],true):=by kernel_rfl
end Mx
end
section
open Go Go.Proofs Ev Sx
namespace Mx
theorem m117_11:E117 (t150 t80) t151 [[1]] [[1]]=some [[1]]:=by kernel_rfl
theorem m117_21:E117 (t150 t80) t151 [[1],[1]] [[1]]=some [[1],[1]]:=by kernel_rfl
theorem m117_22:E117 (t150 t80) t151 [[1,0],[1,1]] [[1,0],[1,1]]=some [[1,0],[0,1]]:=by kernel_rfl
theorem m117_31:E117 (t150 t80) t151 [[1],[1],[1]] [[1]]=some [[1],[1],[1]]:=by kernel_rfl
theorem m117_32:E117 (t150 t80) t151 [[1,0],[1,1],[1,2]] [[1,0],[1,1]]=some [[1,0],[0,1],[3,2]]:=by kernel_rfl
theorem m117_33:E117 (t150 t80) t151 [[1,0,0],[1,1,1],[1,2,4]] [[1,0,0],[143,245,122],[142,244,122]]=some [[1,0,0],[0,1,0],[0,0,1]]:=by kernel_rfl
theorem m117_41:E117 (t150 t80) t151 [[1],[1],[1],[1]] [[1]]=some [[1],[1],[1],[1]]:=by kernel_rfl
theorem m117_42:E117 (t150 t80) t151 [[1,0],[1,1],[1,2],[1,3]] [[1,0],[1,1]]=some [[1,0],[0,1],[3,2],[2,3]]:=by kernel_rfl
theorem m117_43:E117 (t150 t80) t151 [[1,0,0],[1,1,1],[1,2,4],[1,3,5]] [[1,0,0],[143,245,122],[142,244,122]]=some [[1,0,0],[0,1,0],[0,0,1],[1,1,1]]:=by kernel_rfl
theorem m117_44:E117 (t150 t80) t151 [[1,0,0,0],[1,1,1,1],[1,2,4,8],[1,3,5,15]] [[1,0,0,0],[123,1,142,244],[0,122,244,142],[122,122,122,122]]=some [[1,0,0,0],[0,1,0,0],[0,0,1,0],[0,0,0,1]]:=by kernel_rfl
end Mx
end
