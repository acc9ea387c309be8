/- Part. -/
import Derived.Test.YtacgmapjhpghkaaGreatDoorXf
set_option linter.all false
set_option maxHeartbeats 2000000
namespace Go.Sy
open Go Go.Proofs Tryz Ord
def bn8:Tr:=.need (.make [(.int .i64 0),(.slice none 0 0),(.int .i64 0),(.slice none 0 0)] 64 (.u 0 0) (.u 0 0)) (.makeSlice 102 (tT 3) (tT 3)) 102 false (tS 39 1 4 2 51 (LN 2 2 3 102 5 (jw 4 64 1 3 4 6 102 (qa 4 4))))
theorem SO:aV prog f127 dE [.v none]=bn8:=by kernel_rfl
def bj8:Tr:=fJ 0 0 2 0 91 22 23 (yu 5 95 24 1 (di 6 32 25 (aw 7 0 26 32 (fw 1 8 3 21 27 (ba 2 1 3 19 (jS 0 9 10))))))
def aM5:Tr:=yu 25 95 63 0 (dj 26 4 51 64 (gS 97 [(W 22 0),(G4 27)] [(some 4)] [60,65] [102,51] 51 true (LN 28 28 3 32 66 (jw 4 64 19 29 59 67 32 (ba 18 1 3 48 (qf 2 31 30))))))
def aO6:Tr:=ku 127 18 50 3 102 (xa 3 21 (dw 23 0 10 3 52 53 4 (aQ 24 0 (ku 92 22 57 102 102 (ba 23 1 3 55 (jS 3 25 26))) (fJ 0 0 5 0 91 61 62 aM5))))
def aT4:Tr:=di 24 32 77 (fJ 25 0 10 0 32 78 79 (dj 26 4 51 80 (LN 27 27 3 32 81 (jw 4 64 12 28 73 82 32 (ba 10 1 3 43 (uX 1 30 22 29))))))
def aR4:Tr:=.loop 2 [lK 0,.nilrow] (dw 18 0 1 3 45 46 4 (aQ 20 0 aO6 (.need (.lit 1 [[(.sr 4 19)]]) (.buildSlice 177 1 #[(0,(tT 70))]) 177 false (jw 1 24 11 21 69 71 177 (fJ 0 0 5 0 91 74 75 (yu 23 95 76 1 aT4))))))
def aM8:Tr:=yu 13 95 38 1 (di 14 32 39 (aw 15 0 40 32 (dw 10 0 16 3 35 41 4 (aQ 17 0 aR4 (ba 5 1 3 33 (uX 0 18 11 12))))))
def aM2:Tr:=.loop 0 [lK 0,.nilrow,.nilrow] (aw 0 0 30 91 (dw 5 0 8 3 29 31 4 (aQ 9 0 (.loop 1 [lK 0,.row 6,.row 7] (fJ 0 0 5 0 91 36 37 aM8)) (gS 128 [(.one (.c (.sr 1 6))),(.one (.c (.sr 4 7)))] [none,none] [85,86] [177,32] 120 false (ku 126 10 90 102 102 (cD 12))))))
def bF1:Tr:=yF (aw 0 0 16 91 (dw 2 0 3 3 15 17 4 (aQ 4 0 bj8 aM2)))
theorem Yi:aV prog f47 dE [.v none]=bF1:=by kernel_rfl
def xM(k:Nat):List RQ:=List.replicate k RQ.nil++[.of ((1:Int):Rat)]
theorem aF1(k:Nat):∀a∈xM k,Fit 1 a.q:=fun a ha=>by
 rcases eL.1 ha with ha | ha
 ·rw[(jg.1 ha).2];exact Fit.zero (aY 1)
 ·rw[dR.1 ha];exact be5 (aY 1)
theorem TW(k:Nat):(xM k).length=k+1:=by simp[xM]
def HH(p:List RQ):Nat->List RQ
 | 0=>p
 | r+1=>lz ((List.range ((HH p r).length-1)).map (dvR (HH p r)))
theorem wK(p:List RQ):∀r,(HH p r).map RQ.q=gT (p.map RQ.q) r
 | 0=>rfl
 | r+1=>by rw[HH,aL8,wK p r];rfl
theorem aC4(p:List RQ)(r:Nat):(HH p r).length<=p.length:=by
 have h:=mV (p.map RQ.q) r;rw[<-wK,aJ,aJ]at h;exact h
theorem as1{A:Nat}{p:List RQ}(hA:1<=A)(hl:p.length<=9)(h:∀a∈p,Fit A a.q)(r:Nat):∀a∈HH p r,Fit (A+12*r) a.q:=fun a ha=>by
 have hk:=Ah hA (p:=p.map RQ.q) (by rw[aJ];exact hl) (fun b hb=>by obtain⟨c,hc,rfl⟩:=dn.1 hb;exact h c hc) r a.q;rw[<-wK]at hk;exact hk (vE ha)
theorem SL(k:Nat)(hk:k<1000:=by omega):aW prog 127 [(.one (.int .i64 (k:Int)):aK)] (.ret [.one (sR (xM k))]):=by
 refine eB func127 SO ?_;refine tQ (n:=k) (m:=k) (us:=List.replicate k [aC.exact (.int .i64 0),.exact (.slice none 0 0),.exact (.int .i64 0),.exact (.slice none 0 0)]) rfl rfl rfl (aY _) (by omega) (by simp only[maxLen];omega) ?_;apply aA (PW 1);apply fB (us:=[rC (.of ((1:Int):Rat))]);refine wO (ts:=List.replicate k [aC.exact (.int .i64 0),.exact (.slice none 0 0),.exact (.int .i64 0),.exact (.slice none 0 0)]) (us:=[rC (.of ((1:Int):Rat))]) rfl rfl rfl (by rw[cK,fV];simp only[ak,bX];omega) (by rw[cK,fV];simp only[ak,bX,maxLen];omega) ?_;dsimp only[aF,aG];refine jG ⟨UN ?_,trivial⟩;rw[rR,xM,cP,sx];exact aj.append (vQ ch1 _) ⟨⟨aC.Sub.same,aC.Sub.same,aC.Sub.same,aC.Sub.same,trivial⟩,trivial⟩
abbrev Oo:=RQ×List RQ
abbrev ui(j:Oo):List aC:=rC j.1++[sR j.2]
abbrev sJR(l:List Oo):aC:=.slice 5 (l.map ui)
def oj(l:List Oo)(i:Nat):Oo:=l.getD i (RQ.nil,[])
theorem EX{l:List Oo}{i:Nat}(h:i<l.length):l[i]?=some (oj l i):=by rw[oj,ew,bB h];rfl
theorem NR{l:List Oo}{i:Nat}(h:i<l.length):oj l i∈l:=cq (EX h)
def uE(l:List Oo):Nat->Nat
 | 0=>0
 | i+1=>uE l i+(oj l i).2.length
def hmE(x:RQ)(r k:Nat):RQ:=.of (gG ((HH (xM k) r).map RQ.q) x.q)
def mD(x:RQ)(n r:Nat):List RQ:=(List.range n).map (hmE x r)
def WH(l:List Oo)(n:Nat):Nat->List (List RQ)
 | 0=>[]
 | i+1=>WH l n i++(List.range (oj l i).2.length).map (mD (oj l i).1 n)
def Zg(l:List Oo):Nat->List RQ
 | 0=>[]
 | i+1=>Zg l i++(oj l i).2
theorem Rr{l:List Oo}(hx:∀j∈l,Fit 40 j.1.q/\j.2.length<=6):∀i,i<=l.length->uE l i<=6*i
 | 0,_=>aY _
 | i+1,h=>by
   have h1:=Rr hx i (by omega);have h2:=(hx _ (NR (show i<l.length by omega))).2;rw[uE];omega
theorem Ad(l:List Oo)(n:Nat):∀i,(WH l n i).length=uE l i
 | 0=>rfl
 | i+1=>by rw[WH,cK,Ad l n i,aJ,lM,uE]
theorem zw(l:List Oo):∀i,(Zg l i).length=uE l i
 | 0=>rfl
 | i+1=>by rw[Zg,cK,zw l i,uE]
theorem Wi{α:Type}{l:List α}{i:Nat}{x:α}(h:l[i]?=some x):l.take i++[x]=l.take (i+1):=by
 rw[jb,h];rfl
theorem Xi(l:List Oo)(sol:List RQ)(n:Nat)(hn:uE l l.length=n)(hx:∀j∈l,Fit 40 j.1.q/\j.2.length<=6)(hsl:sol.length<1000000)(hs:aW prog 128 [.one (eR (WH l n l.length)),.one (sR (Zg l l.length))] (.ret [.one (sR sol),.one (.bool true)]))(h8:n<=8:=by omega)(hl:l.length<=50:=by omega):aW prog 47 [(.one (sJR l):aK)] (.ret [.one (sR (lz sol))]):=by
 refine eB func47 Yi ?_;refine bG {i:Nat // i<=l.length} (fun g=>[.one (.int .i64 (uE l g.1:Nat)),.one (.int .i64 (g.1:Int))]) (fun g=>l.length-g.1) ⟨0,cL _⟩ aX.rfl (fun _=>rfl) ?_;rintro⟨i,hi⟩;have hsi:=Rr hx i hi;dsimp only[aF,aG]at hi|-;apply vn (aR ag1 (aJ _));apply vn an;refine vs _ rfl ?_ ?_<;>intro h3
 ·have hi':i<l.length:=by omega
  have hje:=hx _ (NR hi');apply vn (aN (f:=ui) (xs:=l) ag1 (m:=i) (by omega) (al i) (EX hi'));apply vn (nt VJ (by decide));dsimp only[aF,aG];apply vn (bO Xl);apply vn (aR rb (aJ _));apply vn (aB (by omega) (by omega));apply vn (aB (by omega) (by omega));dsimp only[aF,aG];exact af rfl ⟨⟨i+1,by omega⟩,aX.rfl,by show l.length-(i+1)<l.length-i;omega⟩
 obtain rfl:i=l.length:=by omega
 rw[hn];refine bG {i:Nat // i<=l.length} (fun g=>[.one (.int .i64 (g.1:Int)),.rows ((WH l n g.1).map cR),.rows (rR (Zg l g.1))]) (fun g=>l.length-g.1) ⟨0,cL _⟩ aX.rfl (fun _=>rfl) ?_;rintro⟨i,hi⟩;have hsi:=Rr hx i hi;have hml:=Ad l n i;have hbl:=zw l i;dsimp only[aF,aG]at hi|-;apply vn (aR ag1 (aJ _));apply vn an;refine vs _ rfl ?_ ?_<;>intro h14
 ·have hi':i<l.length:=by omega
  obtain⟨fx,hv6⟩:=hx _ (NR hi')
  refine bG {r:Nat // r<=(oj l i).2.length} (fun g=>[.one (.int .i64 (g.1:Int)),.rows ((WH l n i++(List.range g.1).map (mD (oj l i).1 n)).map cR),.rows (rR (Zg l i++(oj l i).2.take g.1))]) (fun g=>(oj l i).2.length-g.1) ⟨0,cL _⟩ (by
   have e1:WH l n i++(List.range 0).map (mD (oj l i).1 n)=WH l n i:=bj _;have e2:Zg l i++(oj l i).2.take 0=Zg l i:=bj _;dsimp only;rw[e1,e2];exact aX.rfl) (fun _=>rfl) ?_
  rintro⟨r,hr⟩;dsimp only[aF,aG]at hr|-;have hml2:(WH l n i++(List.range r).map (mD (oj l i).1 n)).length=uE l i+r:=by rw[cK,hml,aJ,lM]
  have hbl2:(Zg l i++(oj l i).2.take r).length=uE l i+r:=by rw[cK,hbl,bL];omega
  apply vn (aN (f:=ui) (xs:=l) ag1 (m:=i) (by omega) (al i) (EX hi'));apply vn (nt VJ (by decide));apply vn (bO Xl);apply vn (aR rb (aJ _));dsimp only[aF,aG];apply vn an;refine vs _ rfl ?_ ?_<;>intro h21
  ·have hr':r<(oj l i).2.length:=by omega
   refine bG {k:Nat // k<=n} (fun g=>[.one (.int .i64 (g.1:Int)),.rows (rR ((List.range g.1).map (hmE (oj l i).1 r)))]) (fun g=>n-g.1) ⟨0,cL _⟩ aX.rfl (fun _=>rfl) ?_;rintro⟨k,hk⟩;have hkl:((List.range k).map (hmE (oj l i).1 r)).length=k:=by simp
   dsimp only[aF,aG]at hk|-;apply vn an;refine vs _ rfl ?_ ?_<;>intro h24
   ·have hk':k<n:=by omega
    apply aA (SL k);refine bG {s:Nat // s<=r} (fun g=>[.one (sR (HH (xM k) g.1)),.one (.int .i64 (g.1:Int))]) (fun g=>r-g.1) ⟨0,cL _⟩ aX.rfl (fun _=>rfl) ?_;rintro⟨s,hs'⟩;have hsl2:=aC4 (xM k) s;have hsf:=as1 (A:=1) (p:=xM k) (by omega) (by rw[TW];omega) (aF1 k) s;rw[TW]at hsl2;dsimp only[aF,aG]at hs' |-;apply vn an;refine vs _ rfl ?_ ?_<;>intro h28
    ·apply aA (ai2 (HH (xM k) s) (1+12*s) hsf);apply vn (aB (by omega) (by omega));dsimp only[aF,aG];exact af rfl ⟨⟨s+1,by omega⟩,aX.rfl,by show r-(s+1)<r-s;omega⟩
    obtain rfl:s=r:=by omega
    apply vn (aN (f:=ui) (xs:=l) ag1 (m:=i) (by omega) (al i) (EX hi'));apply vn (nt bB8 (by decide));apply vn (ab Iz (by decide) (by simp) (.inl rfl));apply aA (aW6 (HH (xM k) s) (oj l i).1 100 (fun a ha=>(hsf a ha).mono (by omega)) (fx.mono (by omega)));dsimp only[aF,aG];apply fB (us:=[rC (hmE (oj l i).1 s k)]);refine js (xs:=(List.range k).map (hmE (oj l i).1 s)) (x:=hmE (oj l i).1 s k) (f:=rC) rfl rfl (by omega) (by simp only[maxLen];omega) ?_;rw[show(List.range k).map (hmE (oj l i).1 s)++[hmE (oj l i).1 s k]=(List.range (k+1)).map (hmE (oj l i).1 s) by rw[gu,cP];rfl];apply vn (aB (by omega) (by omega));dsimp only[aF,aG];exact af rfl ⟨⟨k+1,by omega⟩,aX.rfl,by show n-(k+1)<n-k;omega⟩
   obtain rfl:k=n:=by omega
   apply fB (us:=[cR (mD (oj l i).1 k r)]);refine js (xs:=WH l k i++(List.range r).map (mD (oj l i).1 k)) (x:=mD (oj l i).1 k r) (f:=cR) rfl rfl (by omega) (by simp only[maxLen];omega) ?_;rw[show WH l k i++(List.range r).map (mD (oj l i).1 k)++[mD (oj l i).1 k r]=WH l k i++(List.range (r+1)).map (mD (oj l i).1 k) by rw[dc,gu,cP];rfl];apply vn (aN (f:=ui) (xs:=l) ag1 (m:=i) (by omega) (al i) (EX hi'));apply vn (nt VJ (by decide));dsimp only[aF,aG];apply vn (bO Xl);dsimp only[aF,aG];obtain⟨v,hv⟩:∃v,(oj l i).2[r]?=some v:=⟨_,bB hr'⟩
   apply vn (aN (f:=rC) (xs:=(oj l i).2) rb (m:=r) (by omega) (al r) hv);apply vn (ab Iz (by decide) (by simp) (.inl rfl));apply fB (us:=[rC v]);refine js (xs:=Zg l i++(oj l i).2.take r) (x:=v) (f:=rC) rfl rfl (by omega) (by simp only[maxLen];omega) ?_;rw[show Zg l i++(oj l i).2.take r++[v]=Zg l i++(oj l i).2.take (r+1) by rw[dc,Wi hv]];dsimp only[aF,aG];apply vn (aB (by omega) (by omega));dsimp only[aF,aG];exact af rfl ⟨⟨r+1,by omega⟩,aX.rfl,by show(oj l i).2.length-(r+1)<(oj l i).2.length-r;omega⟩
  apply vn (aB (by omega) (by omega));dsimp only[aF,aG];obtain rfl:r=(oj l i).2.length:=by omega
  rw[gH];exact af rfl ⟨⟨i+1,by omega⟩,aX.rfl,by show l.length-(i+1)<l.length-i;omega⟩
 obtain rfl:i=l.length:=by omega
 apply aA hs;apply aA (QE sol);exact aM
theorem au4(k:Nat):(xM k).map RQ.q=Nx k:=by
 rw[xM,cP,sx];rfl
theorem bn1(x:RQ)(r k:Nat):hmE x r k=.of (hmQ x.q r k):=by
 rw[hmE,wK,au4];rfl
def rowsOf(a:List (List RQ))(b:List RQ):List (List Rat):=(a.zip b).map fun p=>p.1.map RQ.q++[p.2.q]
def jtQ(j:Oo):Jt:=(j.1.q,j.2.map RQ.q)
theorem YE{l:List Oo}{i:Nat}(h:i<l.length):dP (l.map jtQ) i=jtQ (oj l i):=by
 rw[dP,oj,ew,ew,cU,bB h];rfl
theorem Ul(l:List Oo):∀i,i<=l.length->fI (l.map jtQ) i=uE l i
 | 0,_=>rfl
 | i+1,h=>by
   rw[fI,uE,Ul l i (by omega),YE (by omega)];show uE l i+((oj l i).2.map RQ.q).length=_;rw[aJ]
theorem aU3(x:RQ)(n r:Nat):(mD x n r).map RQ.q=(List.range n).map (hmQ x.q r):=by
 rw[mD,ef];exact jJ fun k _=>by show(hmE x r k).q=_;rw[bn1];rfl
theorem aC3(x:RQ)(v:List RQ)(n:Nat):rowsOf ((List.range v.length).map (mD x n)) v=(List.range v.length).map fun r=>og x.q n r ((v.map RQ.q).getD r 0):=by
 apply fH;intro i;rw[rowsOf,cU,cU];by_cases h:i<v.length
 ·have hz:(((List.range v.length).map (mD x n)).zip v)[i]?=some (mD x n i,v[i]):=Zb.2 ⟨by rw[cU,iv h];rfl,bB h⟩;rw[iv h,hz];show some ((mD x n i).map RQ.q++[v[i].q])=some (og x.q n i ((v.map RQ.q).getD i 0));rw[aU3,og,jC,cU,bB h];rfl
 ·rw[gj (by rw[List.length_zip,aJ,lM];omega),gj (by rw[lM];omega)];rfl
theorem Sp(l:List Oo)(n:Nat):∀i,i<=l.length->rowsOf (WH l n i) (Zg l i)=YJ (l.map jtQ) n i
 | 0,_=>rfl
 | i+1,h=>by
   have h1:=Ad l n i;have h2:=zw l i;rw[WH,Zg,rowsOf,List.zip_append (by omega),cP,YJ,YE (by omega)]
   congr 1
   ·exact Sp l n i (by omega)
   ·have:=aC3 (oj l i).1 (oj l i).2 n;rw[rowsOf]at this;rw[this];show _=(List.range ((oj l i).2.map RQ.q).length).map _;rw[aJ];rfl
theorem aX4{x:Rat}(hx:Fit 40 x){r k:Nat}(hr:r<=6:=by omega)(hk:k<=8:=by omega):Fit 800 (hmQ x r k):=by
 have hm:Lb 1 1 (Nx k):=fun a ha=>by
  rcases eL.1 ha with ha | ha
  ·rw[(jg.1 ha).2];exact Bd.zero
  ·rw[dR.1 ha];exact Bd.int (by decide)
 have hl:(Nx k).length=k+1:=by simp[Nx]
 have h:=Wm hx (hm.gT (by omega) (by omega) r) (by have:=mV (Nx k) r;omega);rw[dy]at h;obtain⟨f,hf⟩:∃f,f=40:=⟨_,rfl⟩
 have hd9:x.den^9<=2^(f*9):=bJ2 (by rw[hf];exact hx);obtain⟨F,hF⟩:∃F,F=800:=⟨_,rfl⟩
 rw[<-hF];obtain⟨e,he⟩:∃e,e=1+4*r+369:=⟨_,rfl⟩
 rw[<-he]at h;refine h.fit (uT x.den_nz 9) (dV hd9 (nq (by omega) (by omega))) ?_;have:=dF (2^e) hd9;rw[<-bz]at this;exact dV this (nq (by omega) (by omega))
theorem aa2{l:List Jt}{n:Nat}(he:∀j∈l,Fit 40 j.1/\1<=j.2.length/\j.2.length<=6/\∀v∈j.2,Fit 40 v)(h8:n<=8):∀i,i<=l.length->∀q∈YJ l n i,∀a∈q,Fit 800 a
 | 0,_,q,h=>by cases h
 | i+1,hi,q,h=>by
   rcases eL.1 h with h | h
   ·exact aa2 he h8 i (by omega) q h
   ·obtain⟨r,hr,rfl⟩:=dn.1 h;obtain⟨fx,_,l6,fv⟩:=he _ (lR (show i<l.length by omega));have hr:=gE.1 hr;intro a ha;rcases eL.1 ha with ha | ha
    ·obtain⟨k,hk,rfl⟩:=dn.1 ha;have:=gE.1 hk;exact aX4 fx
    ·rw[dR.1 ha];exact(aE fv r).mono (by omega)
theorem aQ2{l:List Jt}{n:Nat}(he:∀j∈l,Fit 40 j.1/\1<=j.2.length/\j.2.length<=6/\∀v∈j.2,Fit 40 v)(hn:fI l l.length=n)(h8:n<=8:=by omega):yM n (n+1) 800 (YJ l n l.length):=
 ⟨by rw[Pd];exact hn,fun q hq=>⟨QK l n _ q hq,aa2 he h8 _ (aY _) q hq⟩⟩
theorem bu7:∀k,k<=8->gA 800 k<=1000000000:=fun k hk=>by
 match k,hk with
 | 0,_ | 1,_ | 2,_ | 3,_ | 4,_ | 5,_ | 6,_ | 7,_ | 8,_=>decide
theorem aw4{l:List Jt}{m:List Rat}(he:∀j∈l,Fit 40 j.1/\1<=j.2.length/\j.2.length<=6/\∀v∈j.2,Fit 40 v)(h8:fI l l.length<=8)(hm:∀t,ev m t=ev (kB l l.length).1 t):(∀a∈(kB l l.length).1,Fit 41000 a)/\∀a∈m,Fit 41000 a:=by
 have h1:=((Ng he h8 l.length (aY _) h8).sm h8).f1;refine⟨h1,fun a ha=>?_⟩;obtain⟨j,hj,rfl⟩:=Al.1 ha;have:=GD hm j;rw[show m.getD j 0=m[j] by rw[jC,bB hj];rfl]at this;rw[this];exact aE h1 j
theorem VG{x:Rat}{vs:List Rat}{s:List Rat×List Rat}(h:nK s.1):∀r,nK (ji x vs s r).1
 | 0=>h
 | r+1=>ER _ _
theorem Bw(l:List Jt):∀j,nK (kB l j).1
 | 0=>fun a h=>by cases h
 | j+1=>VG (Bw l j) _
theorem ak9{l:List Jt}{m:List Rat}(hm:∀t,ev m t=ev (kB l l.length).1 t):(kB l l.length).1=trim m:=
 Gp (Bw l _) (im _) fun t=>by rw[lj,hm]
def aA4:Tr:=Wl 2
def aM0:Tr:=aw 8 3 29 28 (jQ 11 0 6 3 30 (aQ 12 0 aA4 (aw 8 3 35 28 (fw 4 13 3 33 36 (ba 5 1 3 19 (Fx 2 3 14 0 15 0))))))
def aS0:Tr:=fJ 0 0 11 0 90 41 43 (dj 13 4 97 46 (Mg 11 90 48 49 (gS 122 [(W 15 0),(.one (.gU 123 [(.ref 0 [(.u 14 0),(.u 14 1),(.u 14 2),(.u 14 3)])]))] [none] [50,51] [90,175] 4 true (aQ 16 0 (Wl 7) (ba 11 1 3 43 (Qo 0 9 10 17))))))
def aQ7:Tr:=dj 25 3 46 68 (xa 2 22 (dw 28 0 23 3 73 72 4 (aQ 29 0 (yW 124 27 75 98 98 (.fail 3)) (gS 79 [(W 27 0),(G3 20)] [(some 3)] [83,85] [98,46] 46 false (tY 86 26 26 1 26 2 30 82 86 (.fail 11))))))
def ba4:Tr:=dj 19 4 97 60 (aw 20 3 63 28 (xa 1 16 (dw 23 0 21 3 65 64 0 (aQ 24 0 (fJ 20 3 23 0 28 63 65 aQ7) (ba 17 1 3 58 (jS 0 22 25))))))
def bc4:Tr:=tS 113 1 3 3 46 (yb 13 98 54 (aw 0 0 56 90 (.loop 0 [lN,lK 0] (dw 17 0 15 3 58 57 0 (aQ 18 0 (fJ 0 0 17 0 90 56 58 ba4) (.ret [(W 16 0),(WK 0)]))))))
def bm1:Tr:=aQ 6 0 (fJ 0 0 5 0 90 17 19 (dj 7 4 97 21 (aw 8 3 24 28 (ju 9 0 1 3 25 (aQ 10 0 aA4 aM0))))) (jQ 4 0 41 3 39 (aQ 7 0 (Wl 5) (aw 0 0 41 90 (.loop 0 [lV 2 0,lV 3 0,lK 0] (dw 11 0 8 3 43 42 0 (aQ 12 0 aS0 bc4))))))
def br9:Tr:=aw 0 0 17 90 (.loop 0 [lN,lK 0,lK 0,lK 0] (dw 5 0 1 3 19 18 0 bm1))
theorem XH:aV prog f45 dE [.v none]=br9:=by kernel_rfl
def Wu(j:Jt):Prop:=1<=j.2.length/\j.2.length<=6
def bs4(l:List Jt)(z:Int):Prop:=
 (z=2/\∃i,i<l.length/\¬Wu (dP l i))\/(z=5/\(∀i,i<l.length->Wu (dP l i))/\41<fI l l.length) \/
 (z=7/\(∀i,i<l.length->Wu (dP l i))/\fI l l.length<=41/\∃i,i<l.length/\(l.take i).any (fun k=>decide (k.1=(dP l i).1))=true)
theorem Mo{l:List Jt}(h:∀j∈l,j.2.length<=10):∀i,i<=l.length->fI l i<=10*i
 | 0,_=>aY _
 | i+1,hi=>by
   have h1:=Mo h i (by omega);have h2:=h _ (lR (show i<l.length by omega));rw[fI];omega
theorem qM(l:List Jt)(z:Int)(A:Nat)(hf:∀j∈l,Fit A j.1)(h10:∀j∈l,j.2.length<=10)(hz:bs4 l z)(hl:l.length<=50:=by omega)(hA:A<=10000000:=by omega):aW prog 45 [(.one (sJ l):aK)] (.ret [.one (sQ []),.one (.int .i64 z)]):=by
 refine eB func45 XH ?_;apply vn (aR vK (aJ _));refine bG {i:Nat // i<=l.length/\∀j,j<i->Wu (dP l j)} (fun g=>[.one (.exact (.slice none 0 0)),.one (.int .i64 0),.one (.int .i64 (fI l g.1:Nat)),.one (.int .i64 (g.1:Int))]) (fun g=>l.length-g.1) ⟨0,cL _,fun j hj=>by omega⟩ aX.rfl (fun _=>rfl) ?_;rintro⟨i,hi,hok⟩;have hsi:=Mo h10 i hi;dsimp only[aF,aG]at hi hok|-;apply vn an;refine vs _ rfl ?_ ?_<;>intro h3
 ·have hi':i<l.length:=by omega
  have hje:=h10 _ (lR hi');apply vn (aN (f:=rG) (xs:=l) vK (m:=i) (by omega) (al i) (tj hi'));apply vn (ab ag6 (by decide) (by simp) (.inl rfl));apply vn (aR bK (aJ _));dsimp only[aF,aG];apply vn an;refine vs _ rfl ?_ ?_<;>intro h8
  ·rcases hz with⟨rfl,_⟩ | ⟨_,h,_⟩ | ⟨_,h,_⟩
   ·exact jG ⟨aC.Sub.nil,aK.Sub.same,trivial⟩
   ·exact absurd (h i hi').1 (by omega)
   ·exact absurd (h i hi').1 (by omega)
  apply vn (aR bK (aJ _));apply vn fC;refine vs _ rfl ?_ ?_<;>intro h12
  ·rcases hz with⟨rfl,_⟩ | ⟨_,h,_⟩ | ⟨_,h,_⟩
   ·exact jG ⟨aC.Sub.nil,aK.Sub.same,trivial⟩
   ·exact absurd (h i hi').2 (by omega)
   ·exact absurd (h i hi').2 (by omega)
  apply vn (aR bK (aJ _));dsimp only[aF,aG];apply vn (aB (by omega) (by omega));apply vn (aB (by omega) (by omega))
  exact af rfl ⟨⟨i+1,by omega,fun j hj=>by
   by_cases e:j<i
   ·exact hok j e
   ·obtain rfl:j=i:=by omega
    exact⟨by omega,by omega⟩⟩,aX.rfl,by show l.length-(i+1)<l.length-i;omega⟩
 obtain rfl:i=l.length:=by omega
 apply vn fC;refine vs _ rfl ?_ ?_<;>intro h19
 ·rcases hz with⟨_,j,hj,h⟩ | ⟨rfl,_⟩ | ⟨_,_,h,_⟩
  ·exact absurd (hok j hj) h
  ·exact jG ⟨aC.Sub.nil,aK.Sub.same,trivial⟩
  ·omega
 obtain⟨rfl,j0,hj0,hany⟩:z=7/\∃i,i<l.length/\(l.take i).any (fun k=>decide (k.1=(dP l i).1))=true:=by
  rcases hz with⟨_,j,hj,h⟩ | ⟨_,_,h⟩ | ⟨h1,_,_,h2⟩
  ·exact absurd (hok j hj) h
  ·omega
  ·exact⟨h1,h2⟩
 clear hz;apply vn (aR vK (aJ _));dsimp only[aF,aG];refine bG {i:Nat // i<=l.length/\∀j,j<i->(l.take j).any (fun k=>decide (k.1=(dP l j).1))=false} (fun g=>[.one (.exact (.slice none 0 0)),.one (.int .i64 0),.one (.int .i64 (g.1:Int))]) (fun g=>l.length-g.1) ⟨0,cL _,fun j hj=>by omega⟩ aX.rfl (fun _=>rfl) ?_;rintro⟨j,hj,hno⟩;dsimp only[aF,aG]at hj hno|-;apply vn an;refine vs _ rfl ?_ ?_<;>intro h24
 ·have hj':j<l.length:=by omega
  apply vn (aN (f:=rG) (xs:=l) vK (m:=j) (by omega) (al j) (tj hj'));apply vn (ab ag6 (by decide) (by simp) (.inl rfl));dsimp only[aF,aG];apply vn (sd vK (show j<=l.length by omega));apply aA (qk (l.take j) _ [.aq (rG (dP l j))] (fun k=>decide (k.1=(dP l j).1)) (fun p hp=>wZ p (dP l j) A (hf p (jH hp)) (hf _ (lR hj')) hA) (by rw[bL];omega)) rfl;refine tK ((l.take j).any (fun k=>decide (k.1=(dP l j).1))) rfl (fun h29=>?_) (fun h29=>?_)
  ·exact jG ⟨aC.Sub.nil,aK.Sub.same,trivial⟩
  apply vn (aB (by omega) (by omega))
  exact af rfl ⟨⟨j+1,by omega,fun i hi=>by
   by_cases e:i<j
   ·exact hno i e
   ·obtain rfl:i=j:=by omega
    exact h29⟩,aX.rfl,by show l.length-(j+1)<l.length-j;omega⟩
 obtain rfl:j=l.length:=by omega
 exact absurd hany (by rw[hno j0 hj0];decide)
def aT5:Tr:=aQ 33 0 (ba 34 1 3 67 (.back 1 [(.w (.one (.c (.k (.bool true))))),lV 37 0])) (cW 9 34 91 71 72 (.need (.ldrow 9 (.u 34 0) 0 4 true) (.load 51 (tT 74)) 51 false (gS 41 [(G4 37),(G4 27)] [none] [75,76] [51,51] 3 false (gQ 38 0 0 3 77 (ba 34 1 3 67 (jS 1 39 40))))))
def aV3:Tr:=aw 32 0 98 32 (ju 43 0 1 3 99 (aQ 44 0 (ba 7 1 3 25 (az4 45)) (aw 32 0 103 32 (jQ 45 0 6 3 104 (ba 7 1 3 25 (.back 0 [lV 3 0,lV 33 0,lV 42 0,lV 46 0,lV 47 0,.row 38,.row 40]))))))
def ba8:Tr:=.need (.lit 5 [[(.u 27 0),(.u 27 1),(.u 27 2),(.u 27 3),(.u 32 0)]]) (.buildSlice 91 1 #[(0,(tT 89))]) 91 false (jw 5 88 9 39 86 90 91 (aw 32 0 93 32 (fw 5 41 3 92 94 (aQ 6 0 (ba 7 1 3 25 (az4 43)) aV3))))
def aZ0:Tr:=gS 33 [(W 30 0)] [none,none] [59] [22] 74 false (xa 1 4 (GZ 9 64 91 (dw 34 0 35 3 63 65 4 (aQ 36 0 aT5 (LN 26 31 0 90 83 (jw 4 80 8 37 80 84 90 ba8))))))
def aO8:Tr:=fJ 0 0 7 0 89 46 47 (yu 23 93 48 0 (dj 24 3 27 49 (gS 15 [(G3 25)] [(some 3),(some 4)] [50] [27] 52 false (fJ 0 0 7 0 89 55 56 (yu 28 93 57 1 (di 29 22 58 aZ0))))))
def aN8:Tr:=yu 18 93 38 1 (di 19 22 39 (.need (.call 13 [(W 20 0),(WK 10)] [none]) (.call ⟨.value (.func 13),#[(tT 40),(.const (I3 10))],#[22,3]⟩) 4 false (oW 21 0 41 (aQ 22 0 (Ed (cD 23)) aO8))))
def bd9:Tr:=dj 13 3 27 30 (yb 14 22 31 (.need (.call 13 [(.one (.c (.sr 3 15))),(WK 1)] [none]) (.call ⟨.value (.func 13),#[(tT 32),(.const (I3 1))],#[22,3]⟩) 4 false (oW 16 0 33 (aQ 17 0 (Ed (cD 18)) (fJ 0 0 7 0 89 36 37 aN8)))))
def kJ:Tr:=hx143Q 
def Nw:Tr:=aQ 19 0 (Ed (cD 20)) kJ
def ZS:Tr:=gQ 18 0 0 3 130 Nw
def UQ:Tr:=aQ 20 0 (Ed (cD 21)) kJ
def Qw:Tr:=aQ 18 0 (aw 14 0 129 98 (gQ 19 0 0 3 130 UQ)) kJ
def Fk:Tr:=gQ 15 0 0 54 136 (aQ 18 0 (qn 47 5 9 140 91 102 (DN 46 14 19 139 141 98 102 4 UQ)) kJ)
def bc7:Tr:=aQ 6 0 (yj 2 (aQ 16 0 (yd 15 2 (aQ 17 0 (aw 14 0 129 98 ZS) kJ)) (gQ 15 0 0 54 136 (aQ 17 0 (qn 47 5 9 140 91 102 (DN 46 14 18 139 141 98 102 4 Nw)) kJ)))) (jQ 5 0 41 3 120 (aQ 16 0 (yj 5 (aQ 17 0 (yd 15 5 Qw) Fk)) (aQ 4 0 (yj 7 (aQ 17 0 (yd 15 7 Qw) Fk)) (yj 0 (aQ 17 0 (yd 15 0 Qw) Fk)))))
def UZ:Tr:=aQ 18 0 (Ed (cD 19)) kJ
def CO:Tr:=aQ 17 0 (aw 13 0 129 98 ZS) kJ
def Fy:Tr:=gQ 14 0 0 54 136 (aQ 17 0 (qn 47 5 9 140 91 102 (DN 46 13 18 139 141 98 102 4 Nw)) kJ)
def al9:Tr:=aQ 6 0 (yj 2 (aQ 15 0 (yd 14 2 (aQ 16 0 (aw 13 0 129 98 (gQ 17 0 0 3 130 UZ)) kJ)) (gQ 14 0 0 54 136 (aQ 16 0 (qn 47 5 9 140 91 102 (DN 46 13 17 139 141 98 102 4 UZ)) kJ)))) (jQ 5 0 41 3 120 (aQ 15 0 (yj 5 (aQ 16 0 (yd 14 5 CO) Fy)) (aQ 4 0 (yj 7 (aQ 16 0 (yd 14 7 CO) Fy)) (yj 0 (aQ 16 0 (yd 14 0 CO) Fy)))))
def bk4:Tr:=aQ 11 0 (fJ 0 0 7 0 89 27 28 (yu 12 93 29 0 bd9)) (jQ 5 0 8 3 107 (aQ 12 0 (Qn .leq 3 110 41 5 0 4 (aQ 13 0 (Ed (cD 14)) (aF5 bc7))) (aF5 al9)))
def bH6:Tr:=aw 0 0 17 89 (jQ 1 0 50 3 18 (aQ 2 0 (Ed (cD 3)) (.loop 0 [(.w (.one (.c (.k (.bool false))))),(.w (.one (.c (.k (.bool false))))),lK 0,(.w (.one (.c (.k (.bool false))))),lK 0,.nilrow,.nilrow] (aw 0 0 22 89 (dw 7 0 10 3 21 23 4 bk4)))))
theorem vO:aV prog f5 dE [.v none]=bH6:=by kernel_rfl
def xC:Prop:=∀(a:List (List RQ))(b:List RQ)(m:List Rat)(n B:Nat),a.length=n->b.length=n->(∀r∈a,r.length=n)->yM n (n+1) B (rowsOf a b)->1<=B->(∀k,k<=n->gA B k<=1000000000)->n<=1000->il (rowsOf a b)=some m->aW prog 128 [.one (eR a),.one (sR b)] (.ret [.one (sR (m.map RQ.of)),.one (.bool true)])
abbrev nH:=eo×List eo
abbrev spC(s:nH):List aC:=nC s.1++[sN s.2]
abbrev sSp(l:List nH):aC:=.slice 4 (l.map spC)
def gR(s:nH):Jt:=(s.1.v,cE s.2)
def BS(s:nH):Oo:=(.of s.1.v,ye s.2)
theorem bG0(s:nH):jtQ (BS s)=gR s:=by
 show((RQ.of s.1.v).q,(ye s.2).map RQ.q)=_;rw[an5];rfl
theorem aA8(l:List nH):(l.map BS).map jtQ=l.map gR:=by
 rw[ef];exact jJ fun s _=>bG0 s
def Jf(q:List Jt)(i k:Nat):Bool:=(q.take k).any fun j=>decide (j.1=(dP q i).1)
def YR(q:List Jt):Nat->Bool
 | 0=>false
 | i+1=>YR q i || Jf q i i
def pU(q:List Jt):Nat->Bool
 | 0=>false
 | i+1=>pU q i || (decide ((dP q i).2.length<1) || decide (6<(dP q i).2.length))
theorem Fz{q:List Jt}:∀{n},pU q n=false->∀i,i<n->Wu (dP q i)
 | n+1,h,i,hi=>by
   rw[pU,iW,iW,ve,ve]at h;by_cases e:i<n
   ·exact Fz h.1 i e
   ·obtain rfl:i=n:=by omega
    exact⟨by omega,by omega⟩
theorem yA{q:List Jt}:∀{n},pU q n=true->∃i,i<n/\¬Wu (dP q i)
 | 0,h=>by cases h
 | n+1,h=>by
   rw[pU,jX,jX,jd,jd]at h;rcases h with h | h
   ·obtain⟨i,h1,h2⟩:=yA h;exact⟨i,by omega,h2⟩
   ·exact⟨n,by omega,fun h'=>by have:=h'.1;have:=h'.2;omega⟩
theorem xY{q:List Jt}:∀{n},YR q n=false->∀i,i<n->Jf q i i=false
 | n+1,h,i,hi=>by
   rw[YR,iW]at h;by_cases e:i<n
   ·exact xY h.1 i e
   ·obtain rfl:i=n:=by omega
    exact h.2
theorem Uf{q:List Jt}:∀{n},YR q n=true->∃i,i<n/\Jf q i i=true
 | 0,h=>by cases h
 | n+1,h=>by
   rw[YR,jX]at h;rcases h with h | h
   ·obtain⟨i,h1,h2⟩:=Uf h;exact⟨i,by omega,h2⟩
   ·exact⟨n,by omega,h⟩
theorem an8{l:List nH}{i:Nat}{s:nH}(h:l[i]?=some s):dP (l.map gR) i=gR s:=by
 rw[dP,ew,cU,h];rfl
theorem ai9{l:List nH}{i k:Nat}{s:nH}(h:l[k]?=some s):Jf (l.map gR) i (k+1)=(Jf (l.map gR) i k || decide (s.1.v=(dP (l.map gR) i).1)):=by
 rw[Jf,jb,cU,h,List.any_append];show(_ || ((decide (s.1.v=_)) || false))=_;rw[Bool.or_false];rfl
theorem Md{α β:Type}(f:α->β){l:List α}{i:Nat}{x:α}(h:l[i]?=some x):(l.take i).map f++[f x]=(l.take (i+1)).map f:=sU h
theorem YB(l:List Oo)(n:Nat):∀i,∀r∈WH l n i,r.length=n
 | 0,r,h=>by cases h
 | i+1,r,h=>by
   rcases eL.1 h with h | h
   ·exact YB l n i r h
   ·obtain⟨k,_,rfl⟩:=dn.1 h;simp[mD]
theorem aN7(HS:xC){l:List nH}(he:∀j∈l.map gR,Fit 40 j.1/\1<=j.2.length/\j.2.length<=6/\∀v∈j.2,Fit 40 v)
  (ho:∀i,i<(l.map gR).length->((l.map gR).take i).any (fun k=>decide (k.1=(dP (l.map gR) i).1))=false) (h8:fI (l.map gR) (l.map gR).length<=8) (hl:l.length<=50:=by omega) :
  ∃m:List Rat,(∀t,ev m t=ev (kB (l.map gR) (l.map gR).length).1 t)/\m.length<=8/\aW prog 47 [.one (sJR (l.map BS))] (.ret [.one (sR (lz (m.map RQ.of)))]):=by
 obtain⟨n,hn⟩:∃n,fI (l.map gR) (l.map gR).length=n:=⟨_,rfl⟩
 obtain⟨m,e1,e2,e3⟩:=aJ6 ho hn;have hql:(l.map gR).length=l.length:=aJ _;have hrl:(l.map BS).length=l.length:=aJ _;have hT:=aQ2 he hn
 have hsum:uE (l.map BS) (l.map BS).length=n:=by
  rw[<-Ul _ _ (aY _),aA8,hrl,<-hql];exact hn
 have hrows:rowsOf (WH (l.map BS) n (l.map BS).length) (Zg (l.map BS) (l.map BS).length)=YJ (l.map gR) n (l.map gR).length:=by
  rw[Sp _ _ _ (aY _),aA8,hrl,hql]
 have hS:=HS (WH (l.map BS) n (l.map BS).length) (Zg (l.map BS) (l.map BS).length) m n 800 (by rw[Ad];exact hsum) (by rw[zw];exact hsum) (YB _ _ _) (by rw[hrows];exact hT) (by omega) (fun k hk=>bu7 k (by omega)) (by omega) (by rw[hrows];exact e1);refine⟨m,e3,by omega,Xi (l.map BS) (m.map RQ.of) n hsum (fun j hj=>?_) (by rw[aJ];omega) hS⟩;obtain⟨s,hs,rfl⟩:=dn.1 hj;obtain⟨h1,_,h3,_⟩:=he _ (vE hs);refine⟨h1,?_⟩;have h3:(cE s.2).length<=6:=h3;show(ye s.2).length<=6;rw[cE,aJ]at h3;rw[ye,aJ];exact h3
theorem vF(HS:xC)(l:List nH)(hin:∀s∈l,s.1.In/\(∀a∈s.2,a.In)/\s.2.length<140737488355328)(hs:l.length<140737488355328):aW prog 5 [(.one (sSp l):aK)] (.ret [.one (.bool true)]):=by
 refine eB func5 vO ?_;apply vn (aR ac1 (aJ _));apply vn fC;refine vs _ rfl ?_ ?_<;>intro h2
 ·apply aA kR;exact aM
 refine bG {i:Nat // i<=l.length/\∀s∈l.take i,Fit 40 s.1.v/\s.2.length<=10/\∀a∈cE s.2,Fit 40 a} (fun g=>[.one (.bool false),.one (.bool (YR (l.map gR) g.1)),.one (.int .i64 (fI (l.map gR) g.1:Nat)),.one (.bool (pU (l.map gR) g.1)),.one (.int .i64 (g.1:Int)),.rows (((l.take g.1).map gR).map rG),.rows (((l.take g.1).map BS).map ui)]) (fun g=>l.length-g.1) ⟨0,cL _,fun s hs=>by cases hs⟩ aX.rfl (fun _=>rfl) ?_;rintro⟨i,hi,hok⟩;have hil:(l.take i).length=i:=by rw[bL];omega
 have hl1:((l.take i).map gR).length=i:=by rw[aJ,hil]
 have hl2:((l.take i).map BS).length=i:=by rw[aJ,hil]
 have hql:(l.map gR).length=l.length:=aJ _
 have hq10:∀k,k<i->(dP (l.map gR) k).2.length<=10:=fun k hk=>by
  obtain⟨t,ht⟩:∃t,l[k]?=some t:=⟨_,bB (by omega)⟩
  have:=(hok t (cq (i:=k) (by rw[dq,aD hk];exact ht))).2.1;rw[an8 ht];show(cE t.2).length<=10;rw[cE,aJ];exact this
 have hsum:∀k,k<=i->fI (l.map gR) k<=10*k:=fun k hk=>by
  induction k with
  | zero=>exact aY _
  | succ k ih=>
    have h1:=ih (by omega);have h2:=hq10 k (by omega);rw[fI];omega
 have hsi:=hsum i (aY _);dsimp only[aF,aG]at hi hok|-;apply vn (aR ac1 (aJ _));apply vn an;refine vs _ rfl ?_ ?_<;>intro h8
 ·have hi':i<l.length:=by omega
  obtain⟨s,hsI⟩:∃s,l[i]?=some s:=⟨_,bB hi'⟩
  obtain⟨in1,in2,in3⟩:=hin s (cq hsI);apply vn (aN (f:=spC) (xs:=l) ac1 (m:=i) (by omega) (al i) hsI);apply vn (nt aJ5 (by decide));dsimp only[aF,aG];apply vn (ab aZ7 (by decide) (by simp) (.inl rfl));apply fB (us:=[nC s.1]);apply aA (Ys [s.1] 1 (by simp));apply vn ru;dsimp only[aF,aG];refine tK (!qh [s.1] 1) rfl (fun h15=>?_) (fun h15=>?_)
  ·apply aA kR;exact aM
  apply vn (aN (f:=spC) (xs:=l) ac1 (m:=i) (by omega) (al i) hsI);apply vn (nt an2 (by decide));apply vn (bO bP8);apply aA (Ys s.2 10 in3);dsimp only[aF,aG];apply vn ru;refine tK (!qh s.2 10) rfl (fun h23=>?_) (fun h23=>?_)
  ·apply aA kR;exact aM
  have ht1:qh [s.1] 1=true:=by simpa using h15
  have ht2:qh s.2 10=true:=by simpa using h23
  have fx:Fit 40 s.1.v:=(Yr ht1).2 _ dJ;have fv:=(Yr ht2).2;have lv:=at7 ht2;have hq:=an8 hsI;have hvl:(cE s.2).length=s.2.length:=aJ _;have hvl2:(ye s.2).length=s.2.length:=aJ _;apply vn (aN (f:=spC) (xs:=l) ac1 (m:=i) (by omega) (al i) hsI);apply vn (nt aJ5 (by decide));apply vn (ab aZ7 (by decide) (by simp) (.inl rfl));dsimp only[aF,aG];apply aA (aa1 s.1 in1);apply vn (aN (f:=spC) (xs:=l) ac1 (m:=i) (by omega) (al i) hsI);apply vn (nt an2 (by decide));apply vn (bO bP8);dsimp only[aF,aG];apply aA (aU7 s.2 in2)
  refine bG {k:Nat // k<=i} (fun g=>[.one (.bool (YR (l.map gR) i || Jf (l.map gR) i g.1)),.one (.int .i64 (g.1:Int))]) (fun g=>i-g.1) ⟨0,cL _⟩ (by
   have:Jf (l.map gR) i 0=false:=rfl;dsimp only;rw[this,Bool.or_false];exact aX.rfl) (fun _=>rfl) ?_
  rintro⟨k,hk⟩;dsimp only[aF,aG]at hk|-;refine Oi rfl ((aJ _).trans hl2) ?_;apply vn an;refine vs _ rfl ?_ ?_<;>intro h37
  ·have hk':k<i:=by omega
   obtain⟨t,ht⟩:∃t,l[k]?=some t:=⟨_,bB (by omega)⟩
   have htt:(l.take i)[k]?=some t:=by rw[dq,aD hk'];exact ht
   have hsucc:=ai9 (i:=i) ht;refine tK (YR (l.map gR) i || Jf (l.map gR) i k) rfl (fun h38=>?_) (fun h38=>?_)
   ·apply vn (aB (by omega) (by omega));dsimp only[aF,aG];exact af rfl ⟨⟨k+1,by omega⟩,by dsimp only;rw[hsucc,<-Bool.or_assoc,h38,Na];exact aX.rfl,by show i-(k+1)<i-k;omega⟩
   refine bq rfl rfl (by omega) (by omega) ?_;refine Vm (f:=ui) (xs:=(l.take i).map BS) (m:=k) (d:=BS t) rfl rfl (by omega) (al k) (by rw[cU,htt];rfl) (.inl rfl) rfl ?_;dsimp only[aF,aG,mkS,List.drop,List.take];apply aA (bj9 (.of t.1.v) (.of s.1.v) 40 40 (hok t (cq htt)).1 fx);apply vn cF;apply vn (aB (by omega) (by omega))
   exact af rfl ⟨⟨k+1,by omega⟩,by
    dsimp only;rw[hsucc,<-Bool.or_assoc,h38,AX,hq,show decide (t.1.v=(gR s).1)=decide (gy t.1.v s.1.v=0) by rw[jZ];exact Nr.symm];exact aX.rfl,by show i-(k+1)<i-k;omega⟩
  obtain rfl:k=i:=by omega
  have htw:YR (l.map gR) (k+1)=(YR (l.map gR) k || Jf (l.map gR) k k):=rfl;have hsm:fI (l.map gR) (k+1)=fI (l.map gR) k+s.2.length:=by rw[fI,hq];show _+(cE s.2).length=_;rw[hvl]
  have hbd:pU (l.map gR) (k+1)=(pU (l.map gR) k || (decide (s.2.length<1) || decide (6<s.2.length))):=by rw[pU,hq];show(_ || (decide ((cE s.2).length<1) || decide (6<(cE s.2).length)))=_;rw[hvl]
  have hnext:∀u∈l.take (k+1),Fit 40 u.1.v/\u.2.length<=10/\∀a∈cE u.2,Fit 40 a:=fun u hu=>by
   rw[jb,hsI]at hu;rcases eL.1 hu with hu | hu
   ·exact hok u hu
   ·rw[show u=s by simpa using hu];exact⟨fx,by omega,fv⟩
  apply fB (us:=[rG (gR s)]);refine js (xs:=(l.take k).map gR) (x:=gR s) (f:=rG) rfl rfl (by omega) (by simp only[maxLen];omega) ?_;rw[Md gR hsI];apply fB (us:=[ui (BS s)]);refine js (xs:=(l.take k).map BS) (x:=BS s) (f:=ui) rfl rfl (by omega) (by simp only[maxLen];omega) ?_;rw[Md BS hsI];dsimp only[aF,aG];apply vn (aR (n:=s.2.length) rb (by rw[aJ];exact hvl2)) rfl;apply vn (aB (by omega) (by omega));refine tK (pU (l.map gR) k) rfl (fun h53=>?_) (fun h53=>?_)
  ·apply vn (aB (by omega) (by omega));dsimp only[aF,aG];exact af rfl ⟨⟨k+1,by omega,hnext⟩,by dsimp only;rw[htw,hsm,hbd,h53,Na];exact aX.rfl,by show l.length-(k+1)<l.length-k;omega⟩
  apply vn (aR (n:=s.2.length) rb (by rw[aJ];exact hvl2)) rfl;apply vn an;refine vs _ rfl ?_ ?_<;>intro h58
  ·apply vn (aB (by omega) (by omega));dsimp only[aF,aG];exact af rfl ⟨⟨k+1,by omega,hnext⟩,by dsimp only;rw[htw,hsm,hbd,cS (show s.2.length<1 by omega),Na,Bool.or_true];exact aX.rfl,by show l.length-(k+1)<l.length-k;omega⟩
  apply vn (aR (n:=s.2.length) rb (by rw[aJ];exact hvl2)) rfl;apply vn fC;apply vn (aB (by omega) (by omega));dsimp only[aF,aG];exact af rfl ⟨⟨k+1,by omega,hnext⟩,by dsimp only;rw[htw,hsm,hbd,h53,dh (show ¬s.2.length<1 by omega),AX,AX,show decide (6<s.2.length)=decide (6<(s.2.length:Int)) by rw[jZ];omega];exact aX.rfl,by show l.length-(k+1)<l.length-k;omega⟩
 obtain rfl:i=l.length:=by omega
 rw[gH]at hok|-
 have hel:∀j∈l.map gR,Fit 40 j.1/\j.2.length<=10/\∀v∈j.2,Fit 40 v:=fun j hj=>by
  obtain⟨s,hs,rfl⟩:=dn.1 hj;obtain⟨h1,h2,h3⟩:=hok s hs;exact⟨h1,by show(cE s.2).length<=10;rw[cE,aJ];exact h2,h3⟩
 have hall:pU (l.map gR) l.length=false->∀i,i<(l.map gR).length->Wu (dP (l.map gR) i):=fun h i hi=>Fz h i (by omega);have hsE:fI (l.map gR) (l.map gR).length=fI (l.map gR) l.length:=by rw[hql]
 apply vn fC;refine vs _ rfl ?_ ?_<;>intro h66
 ·apply vn qp;refine vs _ rfl ?_ ?_<;>intro h68
  ·apply aA kR;exact aM
  refine aA (qM (l.map gR) (if pU (l.map gR) l.length then 2 else 5) 40 (fun j hj=>(hel j hj).1) (fun j hj=>(hel j hj).2.1) (by
   by_cases hb:pU (l.map gR) l.length=true
   ·rw[aD hb];obtain⟨j,h1,h2⟩:=yA hb;exact .inl ⟨rfl,j,by omega,h2⟩
   ·rw[aH hb];exact .inr (.inl ⟨rfl,hall (by simpa using hb),by omega⟩))) rfl ?_
  refine tK (pU (l.map gR) l.length) rfl (fun h72=>?_) (fun h72=>?_)
  ·apply vn gW;dsimp only[aF,aG];refine vs _ rfl ?_ ?_<;>intro h74
   ·apply vn cF;refine vs _ rfl ?_ ?_<;>intro h76
    ·apply vn (aR (n:=0) jj rfl);apply vn cF;refine vs _ rfl ?_ ?_<;>intro h79
     ·apply aA kR;exact aM
     exact absurd rfl h79
    exact absurd (by rw[aD h72]) h76
   exact absurd (by decide) h74
  apply vn fC;dsimp only[aF,aG];refine vs _ rfl ?_ ?_<;>intro h94
  ·apply vn gW;refine vs _ rfl ?_ ?_<;>intro h96
   ·apply vn cF;refine vs _ rfl ?_ ?_<;>intro h98
    ·apply vn (aR (n:=0) jj rfl);apply vn cF;dsimp only[aF,aG];refine vs _ rfl ?_ ?_<;>intro h101
     ·apply aA kR;exact aM
     exact absurd rfl h101
    exact absurd (by rw[aH (by rw[h72];decide)]) h98
   exact absurd (by decide) h96
  exact absurd (show((fI (l.map gR) l.length:Nat):Int)>41 by omega) h94
 have h8:fI (l.map gR) (l.map gR).length<=8:=by omega
 obtain⟨P,z,dH,hz1,hz2,hz3⟩:∃(P:List Rat)(z:Int),aW prog 45 [.one (sJ (l.map gR))] (.ret [.one (sQ P),.one (.int .i64 z)])/\(pU (l.map gR) l.length=true->z=2/\P=[])/\(pU (l.map gR) l.length=false->YR (l.map gR) l.length=true->z=7/\P=[])/\(pU (l.map gR) l.length=false->YR (l.map gR) l.length=false->z=0/\P=(kB (l.map gR) (l.map gR).length).1):=by
  cases hb:pU (l.map gR) l.length with
  | true=>
    obtain⟨j,h1,h2⟩:=yA hb;exact⟨[],2,qM (l.map gR) 2 40 (fun j hj=>(hel j hj).1) (fun j hj=>(hel j hj).2.1) (.inl ⟨rfl,j,by omega,h2⟩),fun _=>⟨rfl,rfl⟩,fun h=>(by cases h),fun h=>(by cases h)⟩
  | false=>
    cases ht:YR (l.map gR) l.length with
    | true=>
      obtain⟨j,h1,h2⟩:=Uf ht;exact⟨[],7,qM (l.map gR) 7 40 (fun j hj=>(hel j hj).1) (fun j hj=>(hel j hj).2.1) (.inr (.inr ⟨rfl,hall hb,by omega,j,by omega,h2⟩)),fun h=>(by cases h),fun _ _=>⟨rfl,rfl⟩,fun _ h=>(by cases h)⟩
    | false=>
      have he:∀j∈l.map gR,Fit 40 j.1/\1<=j.2.length/\j.2.length<=6/\∀v∈j.2,Fit 40 v:=fun j hj=>by
       obtain⟨i,hi⟩:=jn hj;have hi1:=(bg.1 hi).1;have:=hall hb i hi1;rw[show dP (l.map gR) i=j by rw[dP,ew,hi];rfl]at this;exact⟨(hel j hj).1,this.1,this.2,(hel j hj).2.2⟩
      exact⟨_,0,WG (l.map gR) 41000 ⟨by omega,by omega,by omega,fun j hj=>⟨(he j hj).1.mono (by omega),(he j hj).2.1,(he j hj).2.2.1,fun v hv=>((he j hj).2.2.2 v hv).mono (by omega)⟩,by omega,fun i hi=>xY ht i (by omega)⟩ (ah2 he h8),fun h=>(by cases h),fun _ h=>(by cases h),fun _ _=>⟨rfl,rfl⟩⟩
 apply aA dH;refine tK (pU (l.map gR) l.length) rfl (fun h72=>?_) (fun h72=>?_)
 ·apply vn gW;refine vs _ rfl ?_ ?_<;>intro h159
  ·apply vn cF;refine vs _ rfl ?_ ?_<;>intro h161
   ·apply vn (aR (n:=0) jj (by rw[(hz1 h72).2];rfl)) rfl;dsimp only[aF,aG];apply vn cF;refine vs _ rfl ?_ ?_<;>intro h164
    ·apply aA kR;exact aM
    exact absurd rfl h164
   exact absurd (hz1 h72).1 h161
  exact absurd (by decide) h159
 apply vn fC;refine vs _ rfl ?_ ?_<;>intro h179
 ·exact absurd h179 (by omega)
 refine tK (YR (l.map gR) l.length) rfl (fun h200=>?_) (fun h200=>?_)
 ·apply vn gW;refine vs _ rfl ?_ ?_<;>intro h202
  ·apply vn cF;dsimp only[aF,aG];refine vs _ rfl ?_ ?_<;>intro h204
   ·apply vn (aR (n:=0) jj (by rw[(hz2 h72 h200).2];rfl)) rfl;apply vn cF;refine vs _ rfl ?_ ?_<;>intro h207
    ·apply aA kR;exact aM
    exact absurd rfl h207
   exact absurd (hz2 h72 h200).1 h204
  exact absurd (by decide) h202
 apply vn gW;refine vs _ rfl ?_ ?_<;>intro h222
 ·exact absurd rfl h222
 apply vn cF;dsimp only[aF,aG];refine vs _ rfl ?_ ?_<;>intro h233
 ·have he:∀j∈l.map gR,Fit 40 j.1/\1<=j.2.length/\j.2.length<=6/\∀v∈j.2,Fit 40 v:=fun j hj=>by
   obtain⟨i,hi⟩:=jn hj;have hi1:=(bg.1 hi).1;have:=hall h72 i hi1;rw[show dP (l.map gR) i=j by rw[dP,ew,hi];rfl]at this;exact⟨(hel j hj).1,this.1,this.2,(hel j hj).2.2⟩
  obtain⟨m,hm1,hm2,dG⟩:=aN7 HS he (fun i hi=>xY h200 i (by omega)) h8;obtain⟨_,rfl⟩:=hz3 h72 h200;obtain⟨hf1,hf2⟩:=aw4 he h8 hm1;have hmq:(m.map RQ.of).map RQ.q=m:=by rw[ef];exact List.map_id' m
  have hpl:=Ft (l.map gR) (l.map gR).length;have htl:(lz (m.map RQ.of)).length<=8:=by rw[lz,bL,aJ];omega
  apply aA dG
  refine aA (ba9 _ (lz (m.map RQ.of)) 41000 hf1 (fun a ha=>by
   obtain⟨b,hb,rfl⟩:=dn.1 (jH ha);exact hf2 b hb) (by rw[xj,hmq];exact ak9 fun t=>by rw[lj,hm1])) rfl ?_
  refine tK true rfl (fun h236=>?_) (fun h236=>?_)
  ·apply aA kR;exact aM
  cases h236
 exact absurd (hz3 h72 h200).1 h233
end Go.Sy
