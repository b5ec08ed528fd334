import Derived.Test.YtekoaiendgjkdaaGreatF4
import Derived.Test.YtekoaiendgjkdaaGreatJNA
import Derived.Test.YtekoaiendgjkdaaGreatJNB
import Derived.Test.YtekoaiendgjkdaaGreatJNC
import Derived.Test.YtekoaiendgjkdaaGreatJND
set_option linter.unusedVariables false
set_option linter.unusedSimpArgs false
set_option linter.unusedSectionVars false
set_option maxRecDepth 100000
set_option maxHeartbeats 8000000
namespace Go.Proofs.YtekoaiendgjkdaaGreat.execNames
open Go.ChangeShapes Go.WideShapes Go.ChangeAt Go.RowKit Go.Sx Go.S
theorem gL(a b:Bool)(h1:a=true)(h2:b=true):(a&&b)=true:=by rw[h1,h2];rfl
theorem jf:joinedFacts Tryz.pinned.checked.prog 12 Tryz.f12 Rows.execNamesSpec Rows.execNamesRow=true:=by unfold joinedFacts;refine gL _ _ ?_ jf31;refine gL _ _ ?_ jf30;refine gL _ _ ?_ jf29;refine gL _ _ ?_ jf28;refine gL _ _ ?_ jf27;refine gL _ _ ?_ jf26;refine gL _ _ ?_ jf25;refine gL _ _ ?_ jf24;refine gL _ _ ?_ jf23;refine gL _ _ ?_ jf22;refine gL _ _ ?_ jf21;refine gL _ _ ?_ jf20;refine gL _ _ ?_ jf19;refine gL _ _ ?_ jf18;refine gL _ _ ?_ jf17;refine gL _ _ ?_ jf16;refine gL _ _ ?_ jf15;refine gL _ _ ?_ jf14;refine gL _ _ ?_ jf13;refine gL _ _ ?_ jf12;refine gL _ _ ?_ jf11;refine gL _ _ ?_ jf10;refine gL _ _ ?_ jf9;refine gL _ _ ?_ jf8;refine gL _ _ ?_ jf7;refine gL _ _ ?_ jf6;refine gL _ _ ?_ jf5;refine gL _ _ ?_ jf4;refine gL _ _ ?_ jf3;refine gL _ _ ?_ jf2;refine gL _ _ ?_ jf1;exact jf0
end Go.Proofs.YtekoaiendgjkdaaGreat.execNames
