import Derived.Test.YtifjeceolckgaaaGreatFX
import Derived.Test.YtifjeceolckgaaaGreatJVA
import Derived.Test.YtifjeceolckgaaaGreatJVB
import Derived.Test.YtifjeceolckgaaaGreatJVC
import Derived.Test.YtifjeceolckgaaaGreatJVD
set_option linter.all false
set_option maxRecDepth 100000
set_option maxHeartbeats 8000000
namespace Go.Proofs.YtifjeceolckgaaaGreat.execSaves
open Go.ChangeShapes Go.WideShapes Go.ChangeAt Go.RowKit Go.Sx Go.S
theorem mG(a b:Bool)(h:a=true)(c:b=true):(a&&b)=true:=by rw[h,c];rfl
theorem jf:joinedFacts Tryz.pinned.checked.prog 4 Tryz.f4 Rows.execSavesSpec Rows.execSavesRow=true:=by refine mG _ _ ?_ hKo;refine mG _ _ ?_ hKq;refine mG _ _ ?_ hKr;refine mG _ _ ?_ hKs;refine mG _ _ ?_ hKt;refine mG _ _ ?_ hKu;refine mG _ _ ?_ hKv;refine mG _ _ ?_ hKw;refine mG _ _ ?_ hKx;refine mG _ _ ?_ hKy;refine mG _ _ ?_ hKz;refine mG _ _ ?_ hKA;refine mG _ _ ?_ hKB;refine mG _ _ ?_ hKC;refine mG _ _ ?_ hKD;refine mG _ _ ?_ hKE;refine mG _ _ ?_ hKF;refine mG _ _ ?_ hKG;refine mG _ _ ?_ hKH;refine mG _ _ ?_ hKI;refine mG _ _ ?_ hKK;refine mG _ _ ?_ hKL;refine mG _ _ ?_ kZP;refine mG _ _ ?_ kZQ;refine mG _ _ ?_ kZR;refine mG _ _ ?_ kZS;refine mG _ _ ?_ kZT;refine mG _ _ ?_ kZU;refine mG _ _ ?_ kZV;refine mG _ _ ?_ kZW;refine mG _ _ ?_ kZX;exact kZY
end Go.Proofs.YtifjeceolckgaaaGreat.execSaves
