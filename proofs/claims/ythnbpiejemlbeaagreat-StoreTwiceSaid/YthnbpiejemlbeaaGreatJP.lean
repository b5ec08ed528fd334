import Derived.Test.YthnbpiejemlbeaaGreatFX
import Derived.Test.YthnbpiejemlbeaaGreatJPA
import Derived.Test.YthnbpiejemlbeaaGreatJPB
import Derived.Test.YthnbpiejemlbeaaGreatJPC
import Derived.Test.YthnbpiejemlbeaaGreatJPD
set_option linter.all false
set_option maxRecDepth 100000
set_option maxHeartbeats 8000000
namespace Go.Proofs.YthnbpiejemlbeaaGreat.storeTwice
open Go.ChangeShapes Go.WideShapes Go.ChangeAt Go.RowKit Go.Sx Go.S
theorem lU(a b:Bool)(h:a=true)(c:b=true):(a&&b)=true:=by rw[h,c];rfl
theorem jf:joinedFacts Tryz.pinned.checked.prog 7 Tryz.f7 Rows.storeTwiceSpec Rows.storeTwiceRow=true:=by refine lU _ _ ?_ gQe;refine lU _ _ ?_ gQf;refine lU _ _ ?_ gQg;refine lU _ _ ?_ gQh;refine lU _ _ ?_ gQi;refine lU _ _ ?_ gQj;refine lU _ _ ?_ gQk;refine lU _ _ ?_ gQl;refine lU _ _ ?_ gQm;refine lU _ _ ?_ gQn;refine lU _ _ ?_ gQo;refine lU _ _ ?_ gQp;refine lU _ _ ?_ gQq;refine lU _ _ ?_ gQr;refine lU _ _ ?_ gQs;refine lU _ _ ?_ gQt;refine lU _ _ ?_ gQu;refine lU _ _ ?_ gQv;refine lU _ _ ?_ gQw;refine lU _ _ ?_ gQx;refine lU _ _ ?_ gQy;refine lU _ _ ?_ gQz;refine lU _ _ ?_ iZK;refine lU _ _ ?_ iZL;refine lU _ _ ?_ iZM;refine lU _ _ ?_ iZN;refine lU _ _ ?_ iZO;refine lU _ _ ?_ iZP;refine lU _ _ ?_ iZQ;refine lU _ _ ?_ iZR;refine lU _ _ ?_ iZS;exact iZT
end Go.Proofs.YthnbpiejemlbeaaGreat.storeTwice
