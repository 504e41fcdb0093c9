/- Plain laws of the document's matrices over the field of 256, at literals. No conditions. -/
import Derived.Test.YtpcmidkpjdaebaaGreatDoorK
set_option linter.unusedVariables false
set_option linter.unusedSimpArgs false
set_option linter.unusedSectionVars false
set_option maxRecDepth 100000
section
open Go Go.Proofs Ev Sx
namespace Mx
end Mx
end
section
open Go Go.Proofs Ev Sx
namespace Mx
end Mx
end
section
open Go Go.Proofs Ev Sx
namespace Mx
end Mx
end
section
open Go Go.Proofs Ev Sx
namespace Mx
end Mx
end
section
open Go Go.Proofs Ev Sx
namespace Mx
end Mx
end
section
open Go Go.Proofs Ev Sx
namespace Mx
end Mx
end
