import Derived.Test.YtekoaiendgjkdaaGreatF4
import Derived.Test.YtekoaiendgjkdaaGreatJUA
import Derived.Test.YtekoaiendgjkdaaGreatJUB
import Derived.Test.YtekoaiendgjkdaaGreatJUC
import Derived.Test.YtekoaiendgjkdaaGreatJUD
set_option linter.unusedVariables false
set_option linter.unusedSimpArgs false
set_option linter.unusedSectionVars false
set_option maxRecDepth 100000
set_option maxHeartbeats 8000000
namespace Go.Proofs.YtekoaiendgjkdaaGreat.execUpdates
open Go.ChangeShapes Go.WideShapes Go.ChangeAt Go.RowKit Go.Sx Go.S
theorem cW(a b:Bool)(h1:a=true)(h2:b=true):(a&&b)=true:=by rw[h1,h2];rfl
theorem jf:joinedFacts Tryz.pinned.checked.prog 7 Tryz.f7 Rows.execUpdatesSpec Rows.execUpdatesRow=true:=by refine cW _ _ ?_ TM;refine cW _ _ ?_ TN;refine cW _ _ ?_ TO;refine cW _ _ ?_ TP;refine cW _ _ ?_ TQ;refine cW _ _ ?_ TR;refine cW _ _ ?_ TS;refine cW _ _ ?_ TU;refine cW _ _ ?_ TV;refine cW _ _ ?_ TX;refine cW _ _ ?_ TY;refine cW _ _ ?_ TZ;refine cW _ _ ?_ Ua;refine cW _ _ ?_ Ub;refine cW _ _ ?_ Uc;refine cW _ _ ?_ Ud;refine cW _ _ ?_ Ue;refine cW _ _ ?_ Uf;refine cW _ _ ?_ Ug;refine cW _ _ ?_ Uh;refine cW _ _ ?_ Ui;refine cW _ _ ?_ Uj;refine cW _ _ ?_ jf9;refine cW _ _ ?_ jf8;refine cW _ _ ?_ jf7;refine cW _ _ ?_ jf6;refine cW _ _ ?_ jf5;refine cW _ _ ?_ jf4;refine cW _ _ ?_ jf3;refine cW _ _ ?_ jf2;refine cW _ _ ?_ jf1;exact jf0
end Go.Proofs.YtekoaiendgjkdaaGreat.execUpdates
