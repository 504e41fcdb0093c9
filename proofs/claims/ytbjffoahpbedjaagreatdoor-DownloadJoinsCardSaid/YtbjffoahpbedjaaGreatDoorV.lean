/- Plain laws of the document's inverse matrices, at literals. No conditions. -/
import Derived.Test.YtbjffoahpbedjaaGreatDoorK
set_option linter.unusedVariables false
set_option linter.unusedSimpArgs false
set_option linter.unusedSectionVars false
set_option maxRecDepth 100000
section
open Go Go.Proofs Ev Sx
namespace Mx
theorem b116_5:E116 t80 (t149 t80) [[1,0],[2,3]]=some ([[1,0],[245,244]],true):=by kernel_rfl
theorem b116_10:E116 t80 (t149 t80) [[0,1,0],[0,0,1],[1,1,1]]=some ([[1,1,1],[1,0,0],[0,1,0]],true):=by kernel_rfl
theorem b116_11:E116 t80 (t149 t80) [[1,0,0,0],[0,1,0,0],[0,0,1,0],[0,0,0,1]]=some ([[1,0,0,0],[0,1,0,0],[0,0,1,0],[0,0,0,1]],true):=by kernel_rfl
end Mx
end
section
open Go Go.Proofs Ev Sx
namespace Mx
theorem b116_1:E116 t80 (t149 t80) [[1,0],[0,1]]=some ([[1,0],[0,1]],true):=by kernel_rfl
theorem b116_4:E116 t80 (t149 t80) [[1,0,0],[0,1,0],[0,0,1]]=some ([[1,0,0],[0,1,0],[0,0,1]],true):=by kernel_rfl
theorem b116_6:E116 t80 (t149 t80) [[0,1],[2,3]]=some ([[143,142],[1,0]],true):=by kernel_rfl
end Mx
end
section
open Go Go.Proofs Ev Sx
namespace Mx
theorem b116_2:E116 t80 (t149 t80) [[1,0],[3,2]]=some ([[1,0],[143,142]],true):=by kernel_rfl
theorem b116_7:E116 t80 (t149 t80) [[3,2],[2,3]]=some ([[3,2],[2,3]],true):=by kernel_rfl
theorem b116_8:E116 t80 (t149 t80) [[1,0,0],[0,1,0],[1,1,1]]=some ([[1,0,0],[0,1,0],[1,1,1]],true):=by kernel_rfl
end Mx
end
section
open Go Go.Proofs Ev Sx
namespace Mx
theorem b116_0:E116 t80 (t149 t80) [[1]]=some ([[1]],true):=by kernel_rfl
theorem b116_3:E116 t80 (t149 t80) [[0,1],[3,2]]=some ([[245,244],[1,0]],true):=by kernel_rfl
theorem b116_9:E116 t80 (t149 t80) [[1,0,0],[0,0,1],[1,1,1]]=some ([[1,0,0],[1,1,1],[0,1,0]],true):=by kernel_rfl
end Mx
end
