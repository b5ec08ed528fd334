import Derived.Test.YtficmdggjjepmaaGreatGA
set_option linter.all false
set_option maxRecDepth 100000
set_option maxHeartbeats 8000000
namespace Go.S
open Go.Sx Go.Proofs
def dD(d:DB)(name:ByteArray):DB×Int:=
 if gH (aF d.al name)=true then if decide ((d.aj.length:Int)>0)=true then(d,18)else(⟨d.al.eraseIdx (dE (aF d.al name)),d.aj,d.holds,d.waits⟩,0)
 else(d,2)
theorem EV(w:List eG):(Wf w).map (·.1)=w:=by unfold Wf;rw[hKH];simp[Function.comp_def]
theorem iL.new{d:DB}{h:ab}{c b wb t a:Nat}{W:List (eG×Bool)}(cs:iL h c b wb t a d.al W d.holds d.waits 0)(e:W=d.aj.map λw=>(w,true)):iL h c b wb t a d.al (Wf d.aj) d.holds d.waits 0:=by rw[e]at cs;exact cs
theorem iL.Kq{h d h':ab}{c m wb t w:Nat}{T:List bM}{W:List (eG×Bool)}{H s:List bJ}{e:Int}{G n r:Nat}{f g:Option Addr}{k i l j:Nat}{o:Int}
 (u:h c=some (.cells #[.slice (some ⟨m,0,none⟩) G t,.slice (some ⟨wb,0,none⟩) n w,.slice f k i,.slice g l j,.int .u32 o,.int .i32 0,.int .u32 0,.int .i64 e] 226 (0,0)))
 (D:(o=0/\e=0)\/(o=1/\e≠0)) (v:n=W.length) (x:cM 211 bP h wb w W) (y:Sl 316 bf h (.slice f k i) H) (z:Sl 316 bf h (.slice g l j) s) (B:r=T.length)
 (F:∀tys,100∉tys->cf tys h d) (E:d c=h c) (A:cM 100 bu d m t T)
 (p:h'=bH d c (.cells #[.slice (some ⟨m,0,none⟩) r t,.slice (some ⟨wb,0,none⟩) n w,.slice f k i,.slice g l j,.int .u32 o,.int .i32 0,.int .u32 0,.int .i64 e] 226 (0,0))):
 Kp [c] d h'/\iL h' c m wb t w T W H s e:=by
 have X:=E.trans u;have lt:∀tys,226∉tys->cf tys d h':=λtys C=>by rw[p];exact cf.set X C
 have q:∀tys,100∉tys->226∉tys->cf tys h h':=λtys a b=>(F tys a).trans (lt tys b);refine⟨by rw[p];exact Kp.set (by simp),r,n,f,k,i,g,l,j,o,by rw[p];exact ae,D,B,A.mono (lt _ (by decide)),v,x.mono (q _ (by decide) (by decide)),y.mono (q _ (by decide) (by decide)),z.mono (q _ (by decide) (by decide))⟩
end Go.S
