import Derived.Test.YthnbpiejemlbeaaGreatFX
import Derived.Test.YthnbpiejemlbeaaGreatJPXA
import Derived.Test.YthnbpiejemlbeaaGreatJPXB
import Derived.Test.YthnbpiejemlbeaaGreatJPXC
import Derived.Test.YthnbpiejemlbeaaGreatJPXD
set_option linter.all false
set_option maxRecDepth 100000
set_option maxHeartbeats 8000000
namespace Go.Proofs.YthnbpiejemlbeaaGreat.storeAgain
open Go.ChangeShapes Go.WideShapes Go.ChangeAt Go.RowKit Go.Sx Go.S
theorem mF(a b:Bool)(h:a=true)(c:b=true):(a&&b)=true:=by rw[h,c];rfl
theorem jf:joinedFacts Tryz.pinned.checked.prog 8 Tryz.f8 Rows.storeAgainSpec Rows.storeAgainRow=true:=by refine mF _ _ ?_ gXM;refine mF _ _ ?_ gXN;refine mF _ _ ?_ gXO;refine mF _ _ ?_ gXP;refine mF _ _ ?_ gXQ;refine mF _ _ ?_ gXR;refine mF _ _ ?_ gXS;refine mF _ _ ?_ gXT;refine mF _ _ ?_ gXU;refine mF _ _ ?_ gXV;refine mF _ _ ?_ gXW;refine mF _ _ ?_ gXX;refine mF _ _ ?_ gXY;refine mF _ _ ?_ gXZ;refine mF _ _ ?_ gZa;refine mF _ _ ?_ gZb;refine mF _ _ ?_ gZc;refine mF _ _ ?_ gZd;refine mF _ _ ?_ gZe;refine mF _ _ ?_ gZf;refine mF _ _ ?_ gZg;refine mF _ _ ?_ gZh;refine mF _ _ ?_ iKs;refine mF _ _ ?_ iKt;refine mF _ _ ?_ iKu;refine mF _ _ ?_ iKv;refine mF _ _ ?_ iKw;refine mF _ _ ?_ iKx;refine mF _ _ ?_ iKy;refine mF _ _ ?_ iKz;refine mF _ _ ?_ iKA;exact iKB
end Go.Proofs.YthnbpiejemlbeaaGreat.storeAgain
