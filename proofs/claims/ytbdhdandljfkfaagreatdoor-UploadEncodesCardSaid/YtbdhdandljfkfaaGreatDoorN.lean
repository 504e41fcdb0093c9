/- Plain laws of matrices over the field of 256, at literals: third part. No conditions. -/
import Derived.Test.YtbdhdandljfkfaaGreatDoorK
set_option linter.unusedVariables false
set_option linter.unusedSimpArgs false
set_option linter.unusedSectionVars false
set_option maxRecDepth 100000
section
open Go Go.Proofs Ev Sx
namespace Mx
theorem m122_11:E122 (some (some gfL)) (t164 t161 (t188 t187)) [[1]] [[1]]=some ([[1]],0):=by kernel_rfl
theorem m122_21:E122 (some (some gfL)) (t164 t161 (t188 t187)) [[1],[1]] [[1]]=some ([[1],[1]],0):=by kernel_rfl
theorem m122_22:E122 (some (some gfL)) (t164 t161 (t188 t187)) [[1,0],[1,1]] [[1,0],[1,1]]=some ([[1,0],[0,1]],0):=by kernel_rfl
theorem m122_31:E122 (some (some gfL)) (t164 t161 (t188 t187)) [[1],[1],[1]] [[1]]=some ([[1],[1],[1]],0):=by kernel_rfl
theorem m122_32:E122 (some (some gfL)) (t164 t161 (t188 t187)) [[1,0],[1,1],[1,2]] [[1,0],[1,1]]=some ([[1,0],[0,1],[3,2]],0):=by kernel_rfl
theorem m122_33:E122 (some (some gfL)) (t164 t161 (t188 t187)) [[1,0,0],[1,1,1],[1,2,4]] [[1,0,0],[143,245,122],[142,244,122]]=some ([[1,0,0],[0,1,0],[0,0,1]],0):=by kernel_rfl
theorem m122_41:E122 (some (some gfL)) (t164 t161 (t188 t187)) [[1],[1],[1],[1]] [[1]]=some ([[1],[1],[1],[1]],0):=by kernel_rfl
theorem m122_42:E122 (some (some gfL)) (t164 t161 (t188 t187)) [[1,0],[1,1],[1,2],[1,3]] [[1,0],[1,1]]=some ([[1,0],[0,1],[3,2],[2,3]],0):=by kernel_rfl
theorem m122_43:E122 (some (some gfL)) (t164 t161 (t188 t187)) [[1,0,0],[1,1,1],[1,2,4],[1,3,5]] [[1,0,0],[143,245,122],[142,244,122]]=some ([[1,0,0],[0,1,0],[0,0,1],[1,1,1]],0):=by kernel_rfl
theorem m122_44:E122 (some (some gfL)) (t164 t161 (t188 t187)) [[1,0,0,0],[1,1,1,1],[1,2,4,8],[1,3,5,15]] [[1,0,0,0],[123,1,142,244],[0,122,244,142],[122,122,122,122]]=some ([[1,0,0,0],[0,1,0,0],[0,0,1,0],[0,0,0,1]],0):=by kernel_rfl
theorem m122_51:E122 (some (some gfL)) (t164 t161 (t188 t187)) [[1],[1],[1],[1],[1]] [[1]]=some ([[1],[1],[1],[1],[1]],0):=by kernel_rfl
theorem m122_52:E122 (some (some gfL)) (t164 t161 (t188 t187)) [[1,0],[1,1],[1,2],[1,3],[1,4]] [[1,0],[1,1]]=some ([[1,0],[0,1],[3,2],[2,3],[5,4]],0):=by kernel_rfl
theorem m122_53:E122 (some (some gfL)) (t164 t161 (t188 t187)) [[1,0,0],[1,1,1],[1,2,4],[1,3,5],[1,4,16]] [[1,0,0],[143,245,122],[142,244,122]]=some ([[1,0,0],[0,1,0],[0,0,1],[1,1,1],[15,8,6]],0):=by kernel_rfl
theorem m122_54:E122 (some (some gfL)) (t164 t161 (t188 t187)) [[1,0,0,0],[1,1,1,1],[1,2,4,8],[1,3,5,15],[1,4,16,64]] [[1,0,0,0],[123,1,142,244],[0,122,244,142],[122,122,122,122]]=some ([[1,0,0,0],[0,1,0,0],[0,0,1,0],[0,0,0,1],[27,28,18,20]],0):=by kernel_rfl
theorem m122_61:E122 (some (some gfL)) (t164 t161 (t188 t187)) [[1],[1],[1],[1],[1],[1]] [[1]]=some ([[1],[1],[1],[1],[1],[1]],0):=by kernel_rfl
theorem m122_62:E122 (some (some gfL)) (t164 t161 (t188 t187)) [[1,0],[1,1],[1,2],[1,3],[1,4],[1,5]] [[1,0],[1,1]]=some ([[1,0],[0,1],[3,2],[2,3],[5,4],[4,5]],0):=by kernel_rfl
theorem m122_63:E122 (some (some gfL)) (t164 t161 (t188 t187)) [[1,0,0],[1,1,1],[1,2,4],[1,3,5],[1,4,16],[1,5,17]] [[1,0,0],[143,245,122],[142,244,122]]=some ([[1,0,0],[0,1,0],[0,0,1],[1,1,1],[15,8,6],[14,9,6]],0):=by kernel_rfl
theorem m122_71:E122 (some (some gfL)) (t164 t161 (t188 t187)) [[1],[1],[1],[1],[1],[1],[1]] [[1]]=some ([[1],[1],[1],[1],[1],[1],[1]],0):=by kernel_rfl
theorem m122_72:E122 (some (some gfL)) (t164 t161 (t188 t187)) [[1,0],[1,1],[1,2],[1,3],[1,4],[1,5],[1,6]] [[1,0],[1,1]]=some ([[1,0],[0,1],[3,2],[2,3],[5,4],[4,5],[7,6]],0):=by kernel_rfl
end Mx
end
