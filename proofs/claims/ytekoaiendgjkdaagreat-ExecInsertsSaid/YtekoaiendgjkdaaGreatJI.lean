import Derived.Test.YtekoaiendgjkdaaGreatF4
import Derived.Test.YtekoaiendgjkdaaGreatJIA
import Derived.Test.YtekoaiendgjkdaaGreatJIB
import Derived.Test.YtekoaiendgjkdaaGreatJIC
import Derived.Test.YtekoaiendgjkdaaGreatJID
set_option linter.unusedVariables false
set_option linter.unusedSimpArgs false
set_option linter.unusedSectionVars false
set_option maxRecDepth 100000
set_option maxHeartbeats 8000000
namespace Go.Proofs.YtekoaiendgjkdaaGreat.execInserts
open Go.ChangeShapes Go.WideShapes Go.ChangeAt Go.RowKit Go.Sx Go.S
theorem gu(a b:Bool)(h1:a=true)(h2:b=true):(a&&b)=true:=by rw[h1,h2];rfl
theorem jf:joinedFacts Tryz.pinned.checked.prog 8 Tryz.f8 Rows.execInsertsSpec Rows.execInsertsRow=true:=by refine gu _ _ ?_ jf31;refine gu _ _ ?_ jf30;refine gu _ _ ?_ jf29;refine gu _ _ ?_ jf28;refine gu _ _ ?_ jf27;refine gu _ _ ?_ jf26;refine gu _ _ ?_ jf25;refine gu _ _ ?_ jf24;refine gu _ _ ?_ jf23;refine gu _ _ ?_ jf22;refine gu _ _ ?_ jf21;refine gu _ _ ?_ jf20;refine gu _ _ ?_ jf19;refine gu _ _ ?_ jf18;refine gu _ _ ?_ jf17;refine gu _ _ ?_ jf16;refine gu _ _ ?_ jf15;refine gu _ _ ?_ jf14;refine gu _ _ ?_ jf13;refine gu _ _ ?_ jf12;refine gu _ _ ?_ jf11;refine gu _ _ ?_ jf10;refine gu _ _ ?_ jf9;refine gu _ _ ?_ jf8;refine gu _ _ ?_ jf7;refine gu _ _ ?_ jf6;refine gu _ _ ?_ jf5;refine gu _ _ ?_ jf4;refine gu _ _ ?_ jf3;refine gu _ _ ?_ jf2;refine gu _ _ ?_ jf1;exact jf0
end Go.Proofs.YtekoaiendgjkdaaGreat.execInserts
