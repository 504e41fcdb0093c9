/- Plain laws of the document's matrices over the field of 256, at literals. No conditions. -/
import Derived.Test.YtlphacnnifjnpaaGreatDoorK
set_option linter.unusedVariables false
set_option linter.unusedSimpArgs false
set_option linter.unusedSectionVars false
set_option maxRecDepth 100000
section
open Go Go.Proofs Ev Sx
namespace Mx
theorem v115_11:E115 (t147 t80) 1 1=some [[1]]:=by kernel_rfl
theorem v115_21:E115 (t147 t80) 2 1=some [[1],[1]]:=by kernel_rfl
theorem v115_22:E115 (t147 t80) 2 2=some [[1,0],[1,1]]:=by kernel_rfl
theorem v115_31:E115 (t147 t80) 3 1=some [[1],[1],[1]]:=by kernel_rfl
theorem v115_32:E115 (t147 t80) 3 2=some [[1,0],[1,1],[1,2]]:=by kernel_rfl
theorem v115_33:E115 (t147 t80) 3 3=some [[1,0,0],[1,1,1],[1,2,4]]:=by kernel_rfl
theorem v115_41:E115 (t147 t80) 4 1=some [[1],[1],[1],[1]]:=by kernel_rfl
theorem v115_42:E115 (t147 t80) 4 2=some [[1,0],[1,1],[1,2],[1,3]]:=by kernel_rfl
theorem v115_43:E115 (t147 t80) 4 3=some [[1,0,0],[1,1,1],[1,2,4],[1,3,5]]:=by kernel_rfl
theorem v115_51:E115 (t147 t80) 5 1=some [[1],[1],[1],[1],[1]]:=by kernel_rfl
theorem v115_52:E115 (t147 t80) 5 2=some [[1,0],[1,1],[1,2],[1,3],[1,4]]:=by kernel_rfl
theorem v115_53:E115 (t147 t80) 5 3=some [[1,0,0],[1,1,1],[1,2,4],[1,3,5],[1,4,16]]:=by kernel_rfl
theorem v115_61:E115 (t147 t80) 6 1=some [[1],[1],[1],[1],[1],[1]]:=by kernel_rfl
theorem v115_62:E115 (t147 t80) 6 2=some [[1,0],[1,1],[1,2],[1,3],[1,4],[1,5]]:=by kernel_rfl
theorem v115_63:E115 (t147 t80) 6 3=some [[1,0,0],[1,1,1],[1,2,4],[1,3,5],[1,4,16],[1,5,17]]:=by kernel_rfl
theorem v115_71:E115 (t147 t80) 7 1=some [[1],[1],[1],[1],[1],[1],[1]]:=by kernel_rfl
theorem v115_72:E115 (t147 t80) 7 2=some [[1,0],[1,1],[1,2],[1,3],[1,4],[1,5],[1,6]]:=by kernel_rfl
theorem v115_73:E115 (t147 t80) 7 3=some [[1,0,0],[1,1,1],[1,2,4],[1,3,5],[1,4,16],[1,5,17],[1,6,20]]:=by kernel_rfl
end Mx
end
section
open Go Go.Proofs Ev Sx
namespace Mx
theorem i116_1:E116 t80 (t149 t80) [[1]]=some ([[1]],true):=by kernel_rfl
end Mx
end
section
open Go Go.Proofs Ev Sx
namespace Mx
theorem i116_2:E116 t80 (t149 t80) [[1,0],[1,1]]=some ([[1,0],[1,1]],true):=by kernel_rfl
end Mx
end
section
open Go Go.Proofs Ev Sx
namespace Mx
theorem i116_3:E116 t80 (t149 t80) [[1,0,0],[1,1,1],[1,2,4]]=some ([[1,0,0],[143,245,122],[142,244,122]],true):=by kernel_rfl
end Mx
end
section
open Go Go.Proofs Ev Sx
namespace Mx
theorem m117_11:E117 (t150 t80) t151 [[1]] [[1]]=some [[1]]:=by kernel_rfl
theorem m117_21:E117 (t150 t80) t151 [[1],[1]] [[1]]=some [[1],[1]]:=by kernel_rfl
theorem m117_22:E117 (t150 t80) t151 [[1,0],[1,1]] [[1,0],[1,1]]=some [[1,0],[0,1]]:=by kernel_rfl
theorem m117_31:E117 (t150 t80) t151 [[1],[1],[1]] [[1]]=some [[1],[1],[1]]:=by kernel_rfl
theorem m117_32:E117 (t150 t80) t151 [[1,0],[1,1],[1,2]] [[1,0],[1,1]]=some [[1,0],[0,1],[3,2]]:=by kernel_rfl
theorem m117_33:E117 (t150 t80) t151 [[1,0,0],[1,1,1],[1,2,4]] [[1,0,0],[143,245,122],[142,244,122]]=some [[1,0,0],[0,1,0],[0,0,1]]:=by kernel_rfl
theorem m117_41:E117 (t150 t80) t151 [[1],[1],[1],[1]] [[1]]=some [[1],[1],[1],[1]]:=by kernel_rfl
theorem m117_42:E117 (t150 t80) t151 [[1,0],[1,1],[1,2],[1,3]] [[1,0],[1,1]]=some [[1,0],[0,1],[3,2],[2,3]]:=by kernel_rfl
theorem m117_43:E117 (t150 t80) t151 [[1,0,0],[1,1,1],[1,2,4],[1,3,5]] [[1,0,0],[143,245,122],[142,244,122]]=some [[1,0,0],[0,1,0],[0,0,1],[1,1,1]]:=by kernel_rfl
theorem m117_51:E117 (t150 t80) t151 [[1],[1],[1],[1],[1]] [[1]]=some [[1],[1],[1],[1],[1]]:=by kernel_rfl
theorem m117_52:E117 (t150 t80) t151 [[1,0],[1,1],[1,2],[1,3],[1,4]] [[1,0],[1,1]]=some [[1,0],[0,1],[3,2],[2,3],[5,4]]:=by kernel_rfl
theorem m117_53:E117 (t150 t80) t151 [[1,0,0],[1,1,1],[1,2,4],[1,3,5],[1,4,16]] [[1,0,0],[143,245,122],[142,244,122]]=some [[1,0,0],[0,1,0],[0,0,1],[1,1,1],[15,8,6]]:=by kernel_rfl
theorem m117_61:E117 (t150 t80) t151 [[1],[1],[1],[1],[1],[1]] [[1]]=some [[1],[1],[1],[1],[1],[1]]:=by kernel_rfl
theorem m117_62:E117 (t150 t80) t151 [[1,0],[1,1],[1,2],[1,3],[1,4],[1,5]] [[1,0],[1,1]]=some [[1,0],[0,1],[3,2],[2,3],[5,4],[4,5]]:=by kernel_rfl
theorem m117_63:E117 (t150 t80) t151 [[1,0,0],[1,1,1],[1,2,4],[1,3,5],[1,4,16],[1,5,17]] [[1,0,0],[143,245,122],[142,244,122]]=some [[1,0,0],[0,1,0],[0,0,1],[1,1,1],[15,8,6],[14,9,6]]:=by kernel_rfl
theorem m117_71:E117 (t150 t80) t151 [[1],[1],[1],[1],[1],[1],[1]] [[1]]=some [[1],[1],[1],[1],[1],[1],[1]]:=by kernel_rfl
theorem m117_72:E117 (t150 t80) t151 [[1,0],[1,1],[1,2],[1,3],[1,4],[1,5],[1,6]] [[1,0],[1,1]]=some [[1,0],[0,1],[3,2],[2,3],[5,4],[4,5],[7,6]]:=by kernel_rfl
end Mx
end
section
open Go Go.Proofs Ev Sx
namespace Mx
theorem m117_73:E117 (t150 t80) t151 [[1,0,0],[1,1,1],[1,2,4],[1,3,5],[1,4,16],[1,5,17],[1,6,20]] [[1,0,0],[143,245,122],[142,244,122]]=some [[1,0,0],[0,1,0],[0,0,1],[1,1,1],[15,8,6],[14,9,6],[14,8,7]]:=by kernel_rfl
end Mx
end
