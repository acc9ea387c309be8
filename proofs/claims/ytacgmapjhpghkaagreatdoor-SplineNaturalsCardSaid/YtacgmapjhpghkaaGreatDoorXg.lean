/- Part. -/
import Derived.Test.YtacgmapjhpghkaaGreatDoorXf
set_option linter.all false
namespace Go.Sy
open Go Go.Proofs Tryz Ord
def bH3:Tr:=.need (.make [(.int .i64 0),(.slice none 0 0),(.int .i64 0),(.slice none 0 0)] 64 (.u 0 0) (.u 0 0)) (.makeSlice 102 (tT 3) (tT 3)) 102 false (yF 39 1 4 2 51 (ah2 2 102 5 (oa 4 64 1 3 4 6 102 (qV 4 4))))
def Wg:af prog f127 dV [.v none]=bH3:=aS
def yf(k:Nat):List RQ:=List.replicate k RQ.nil++[.of ((1:Int):Rat)]
def aX0(k:Nat):∀a∈yf k,Fit 1 a.q:=fun a ha=>by
 rcases dx.1 ha with ha | ha
 .rw[(kL.1 ha).2];exact Fit.zero (ah 1)
 .rw[da.1 ha];exact CW (ah 1)
def Xp(k:Nat):(yf k).length=k+1:=by simp[yf]
def IA(p:List RQ):Nat->List RQ
 | 0=>p
 | r+1=>rA ((List.range ((IA p r).length-1)).map (dvR (IA p r)))
theorem xl(p:List RQ):∀r,(IA p r).map RQ.q=rJ (p.map RQ.q) r
 | 0=>rfl
 | r+1=>by rw[IA,be1,xl p r];rfl
def aT9(p:List RQ)(r:Nat):(IA p r).length<=p.length:=by
 have h:=BC (p.map RQ.q) r;rw[<-xl,aL,aL]at h;exact h
def aJ4{A:Nat}{p:List RQ}(hA:1<=A)(hl:p.length<=9)(h:∀a∈p,Fit A a.q)(r:Nat):∀a∈IA p r,Fit (A+12*r) a.q:=fun a ha=>by
 have hk:=an3 hA (p:=p.map RQ.q) (by rw[aL];exact hl) (fun b hb=>by obtain⟨c,hc,rfl⟩:=dm.1 hb;exact h c hc) r a.q;rw[<-xl]at hk;exact hk (sH ha)
def Wc(k:Nat)(hk:k<1000:=by omega):aX prog 127 [(.one (.int .i64 (k:Int)):aQ)] (.ret [.one (sR (yf k))]):=by
 refine eD func127 Wg ?_;refine tf (n:=k) (m:=k) (us:=List.replicate k [aC.exact (.int .i64 0),.exact (.slice none 0 0),.exact (.int .i64 0),.exact (.slice none 0 0)]) rfl rfl rfl (ah _) O (by simp only[maxLen];omega) ?_;apply aA (sP 1);apply et (us:=[rC (.of ((1:Int):Rat))]);refine qc (ts:=List.replicate k [aC.exact (.int .i64 0),.exact (.slice none 0 0),.exact (.int .i64 0),.exact (.slice none 0 0)]) (us:=[rC (.of ((1:Int):Rat))]) rfl rfl rfl (by rw[cF,dU];simp only[bB,bu];omega) (by rw[cF,dU];simp only[bB,bu,maxLen];omega) ?_;dsimp only[aU,aV];refine gj ⟨GI ?_,trivial⟩;rw[rR,yf,cG,qQ];exact az.append (tZ cq5 _) ⟨⟨aC.Sub.same,aC.Sub.same,aC.Sub.same,aC.Sub.same,trivial⟩,trivial⟩
def hmE(x:RQ)(r k:Nat):RQ:=.of (jk ((IA (yf k) r).map RQ.q) x.q)
def aL6(k:Nat):(yf k).map RQ.q=we k:=by
 rw[yf,cG,qQ];rfl
def aH9(x:RQ)(r k:Nat):hmE x r k=.of (Bh x.q r k):=by
 rw[hmE,xl,aL6];rfl
def rowsOf(a:List (List RQ))(b:List RQ):List (List Rat):=(a.zip b).map fun p=>p.1.map RQ.q++[p.2.q]
end Go.Sy
