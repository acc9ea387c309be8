/- Part. -/
import Derived.Test.YtdmcadckdnnglaaGreatDoorIc
set_option linter.all false
namespace Go.Sy
open Go Go.Proofs Tryz Ord
def Wi(s x:Rat):Prop:=-s<=x/\x<=s
def Wi.mul{a b x y:Rat}(h:Wi a x)(k:Wi b y):Wi (a*b) (x*y):=by
 obtain⟨h1,h2⟩:=h;obtain⟨k1,k2⟩:=k;have e1:=af (a:=a-x) (b:=b+y) e9 e9;have e2:=af (a:=a+x) (b:=b-y) e9 e9;have e3:=af (a:=a-x) (b:=b-y) e9 e9;have e4:=af (a:=a+x) (b:=b+y) e9 e9
 constructor<;>grind
theorem Wi.pow{a x:Rat}(h:Wi a x):∀k:Nat,Wi (a^k) (x^k)
 | 0=>by rw[bQ,bQ];constructor<;>decide +kernel
 | k+1=>by rw[bE,bE];exact(Wi.pow h k).mul h
def Wi.abs(x:Rat):Wi x.abs x:=aG1 ak
theorem QW{r:j1}{aB t:Rat}(ht:Wi aB t):∀k,k<=r.length->Wi (jR r aB k) (ev (r.take k) t*t)
 | 0,_=>by
   rw[kR,dV,jR,pO];constructor<;>grind
 | k+1,hk=>by
   have ih:=QW (r:=r) ht k O;have h1:=(Wi.abs (r.getD k 0)).mul (ht.pow (k+1));have hk0:r[k]?=some (r.getD k 0):=cS;rw[mO hk0,jR];have e:(ev (r.take k) t+r.getD k 0*t^k)*t=ev (r.take k) t*t+r.getD k 0*t^(k+1):=by rw[bE];grind
   rw[e];obtain⟨a1,a2⟩:=ih;obtain⟨b1,b2⟩:=h1
   constructor<;>grind
def bg2{p:j1}{aB t:Rat}(h:jR (p.drop 1) aB (p.length-1)+jR (p.drop 1) aB (p.length-1)<=(p.getD 0 0).abs)(h0:p.getD 0 0≠0)(ht:Wi aB t):ev p t≠0:=by
 cases p with
 | nil=>exact absurd rfl h0
 | cons a r=>
   have hw:=QW ht r.length (ah _);rw[eW]at hw;rw[aa2,gF,bm,ny,RV]at h;rw[RV]at h0;rw[av];generalize jR r aB r.length=s at *;generalize ev r t*t=z at *;obtain⟨h1,h2⟩:=hw;intro e;unfold Rat.abs at h;split at h<;>grind
def aj3{q:j0}{m:Nat}{lead aB:Rat}{st:Nat}(h:bp q m lead=some (aB,st))(hm:1<=m:=by omega):jR ((q.getD m []).drop 1) aB ((q.getD m []).length-1)+jR ((q.getD m []).drop 1) aB ((q.getD m []).length-1)<=lead.abs:=by
 obtain⟨hh,ii,hrv,f1,_,f3,_,_,_⟩:=wL (q:=q) (m:=m) (lead:=lead) hm;rw[h]at hrv;split at hrv
 .cases hrv
 .rename_i hc;simp only[aM,cF]at hrv;obtain⟨rfl,_⟩:=hrv;exact f3 O
def jO.yJ{E:j0}{c t aB:Rat}{st:Nat}(h:jO E c)(hv:bp (aV E c) (E.length-1) (aG E c)=some (aB,st))(ht:Wi aB t):jO E (c+t):=by
 obtain⟨h2,h5,hld,_⟩:=h.facts;have hr:=aj3 hv
 have hg:(aV E c).getD (E.length-1) []=fE (E.getD (E.length-1) []) c:=by
  rw[aV,dp,dS,dp,bU O];rfl
 rw[hg]at hr;have hn:=bg2 (p:=fE (E.getD (E.length-1) []) c) hr hld ht;refine⟨h.ok,?_⟩;unfold vH;rw[fH];intro p hp;rw[pX]at hn;rw[dp,hp]at hn;rw[show c+t=t+c by grind];exact hn
def yo{aB x c:Rat}(h0:0<aB):(ei aB x c=x-c/\Wi (ao aB) (x-c))\/(ei aB x c=ao aB/\ao aB<x-c)\/(ei aB x c=-ao aB/\x-c < -ao aB):=by
 have e:=mN aB;unfold ei;rw[KB,AV];generalize ao aB=a at *;generalize x-c=d at *;unfold Wi;split
 .split<;>grind
 .split<;>grind
def ax8{h:Nat}(hh:h<=62):(ao (ae h)).den∣2^63:=by
 have h1:Bd (2^h) 1 (mkRat 1 (2^h)):=Bd.mk (gL.1 (aw O)) (by have:=aw (a:=2) (n:=h) O;simp;omega);have h2:=(Bd.int (D:=1) (n:=4) (S:=4) O).mul O dO (h1.mono (Az 2 hh) (ah _));have h3:Bd 2 1 (mkRat 1 (2^1)):=dO
 exact(h2.mul dO dO h3).1
def den_add{D:Nat}{x y:Rat}(h0:D≠0)(hx:x.den∣D)(hy:y.den∣D):(x+y).den∣D:=
 (Bd.add h0 (show Bd D x.num.natAbs x from⟨hx,dn _ x.den_pos⟩) (show Bd D y.num.natAbs y from⟨hy,dn _ y.den_pos⟩)).1
def Ai{x:Rat}{S:Nat}:x.num.natAbs<=S*x.den↔Wi (((S:Nat):Int):Rat) x:=by
 unfold Wi;rw[Ay,Ay,<-BD,jB,jB,pF,pF];have e:((S*x.den:Nat):Int)=(S:Int)*(x.den:Int):=iK _ _;have e2:-(S:Int)*(x.den:Int)=-((S:Int)*(x.den:Int)):=uV _ _;rw[e2];omega
structure Dm(X x c:Rat):Prop where
 d:c=x\/c.den∣X.den*2^63
 b:(X<=c/\c<=x)\/(x<=c/\c<=X)
def Dm.Dv{X x c:Rat}(h:Dm X x c)(hX:X.den<=999)(hXf:kD X)(hx:kD x):kD c:=by
 refine⟨?_,Ai.2 ?_⟩
 .rcases h.d with rfl | h
  .exact hx.d
  .exact an (uZ (dN X.den_pos dO) h) (an (cg _ hX) dO)
 .obtain⟨a1,a2⟩:=Ai.1 hXf.s;obtain⟨b1,b2⟩:=Ai.1 hx.s
  constructor<;>rcases h.b with⟨k1,k2⟩ | ⟨k1,k2⟩<;>grind
def Dm.next{X x c:Rat}(h:Dm X x c)(hc:c≠x){hh:Nat}(h62:hh<=62):Dm X x (c+ei (ae hh) x c):=by
 have hp:=jZ hh;have he:=mN (ae hh);have hd:=ax8 h62;have hcd:c.den∣X.den*2^63:=h.d.resolve_left hc;have h0:X.den*2^63≠0:=da (lY X) dO;have hb:=h.b;rcases yo (x:=x) (c:=c) hp with⟨e,h1⟩ | ⟨e,h1⟩ | ⟨e,h1⟩
 .rw[e];have ex:c+(x-c)=x:=e9
  rw[ex];exact⟨.inl rfl,e9⟩
 .rw[e];refine⟨.inr (den_add h0 hcd (Ba hd (rV _ _))),?_⟩;generalize ao (ae hh)=a at *
  grind
 .rw[e];refine⟨.inr (den_add h0 hcd (Ba (show(-ao (ae hh)).den∣2^63 from hd) (rV _ _))),?_⟩;generalize ao (ae hh)=a at *
  grind
def aJ1{aB x c:Rat}(h0:0<aB):Wi aB (ei aB x c)/\(ei aB x c).abs*2<=aB:=by
 have he:=mN aB;rcases yo (x:=x) (c:=c) h0 with⟨e,h1⟩ | ⟨e,h1⟩ | ⟨e,h1⟩<;>rw[e]<;>unfold Wi at * <;> generalize ao aB=a at * <;> generalize x-c=z at * <;> unfold Rat.abs<;>(refine⟨e9,?_⟩;split<;>grind)
def wa{x:Rat}{H:Nat}(h:Fit H x):x.num.natAbs<=2^H*x.den:=
 an (na h.1) (dn _ x.den_pos)
def Fo{x y:Rat}{S T:Nat}(hx:x.num.natAbs<=S*x.den)(hy:y.num.natAbs<=T*y.den):(x*y).num.natAbs<=S*T*(x*y).den:=
 (Bd.mul (lY x) (lY y) (show Bd x.den S x from⟨pJ _,hx⟩) (show Bd y.den T y from⟨pJ _,hy⟩)).2
def ae9{x y:Rat}{S T:Nat}(hx:x.num.natAbs<=S*x.den)(hy:y.num.natAbs<=T*y.den):(x+y).num.natAbs<=(S+T)*(x+y).den:=by
 have h1:Bd (x.den*y.den) S x:=⟨nX _ _,hx⟩
 have h2:Bd (x.den*y.den) T y:=⟨rV _ _,hy⟩
 exact(h1.add (da (lY x) (lY y)) h2).2
def aN4{a b c d:Rat}{H W:Nat}(ha:Fit H a)(hb:Fit H b)(hc:Fit W c)(hd:Fit W d):(jq a b c d).num.natAbs<=2^(H+W)*(jq a b c d).den/\(jz a b c d).num.natAbs<=2^(H+W)*(jz a b c d).den:=by
 have hm:∀x∈hU a b c d,x.num.natAbs<=2^(H+W)*x.den:=fun x hx=>by
  rw[eH];simp only[hU,ee,jm,jr]at hx;rcases hx with rfl | rfl | rfl | rfl
  .exact Fo (wa ha) (wa hc)
  .exact Fo (wa ha) (wa hd)
  .exact Fo (wa hb) (wa hc)
  .exact Fo (wa hb) (wa hd)
 constructor
 .unfold jq;rcases Jd (l:=hU a b c d) 4 (by simp[hU])with e | h
  .rw[e];exact cG _
  .exact hm _ h
 .unfold jz;rcases Hh (l:=hU a b c d) 4 (by simp[hU])with e | h
  .rw[e];exact cG _
  .exact hm _ h
theorem UM{M v:k6}{m H W:Nat}(hM:∀l,l<m->Fit H (M l).1/\Fit H (M l).2)(hv:∀l,l<m->Fit W (v l).1/\Fit W (v l).2):∀l,l<=m->(dR M v l).1.num.natAbs<=l*2^(H+W)*(dR M v l).1.den/\(dR M v l).2.num.natAbs<=l*2^(H+W)*(dR M v l).2.den
 | 0,_=>⟨cG _,cG _⟩
 | l+1,h=>by
   obtain⟨a1,a2⟩:=UM hM hv l O;obtain⟨b1,b2⟩:=aN4 (hM l O).1 (hM l O).2 (hv l O).1 (hv l O).2;rw[dR,ba,cZ];exact⟨ae9 a1 b1,ae9 a2 b2⟩
def aD2{m H W d K:Nat}{k:Int}{M:Nat->Nat->Rat×Rat}{v:VS}(hk:k<=256)(hm:m<=4)(hM:∀l,l<m->Fit H (M d l).1/\Fit H (M d l).2)(hvl:v.length=m)(hv:∀p∈v,Fit W p.1/\Fit W p.2)(hK:H+W+300<=K):Fit K (ya m k M v d).1/\Fit K (ya m k M v d).2:=by
 obtain⟨h1,h2⟩:=UM (M:=M d) (v:=fun l=>v.getD l (0,0)) (m:=m) (W:=W) hM (fun l hl=>hv _ (cj (cY))) m (ah _)
 have r1:m*2^(H+W)*2^k.toNat<2^K:=by
  have e:m*2^(H+W)*2^k.toNat<=2^2*2^(H+W)*2^k.toNat:=cg _ (cg _ hm);rw[<-eH,<-eH]at e;exact cV e (mZ O O)
 have r2:2^k.toNat<2^K:=mZ O O;exact⟨Ct h1 r1 r2,ag4 h2 r1 r2⟩
def UU(f:Nat):Nat:=2000+(64-f)*12000300
def sC{f:Nat}:2000<=UU f/\UU f<=768021200:=by unfold UU;omega
def an1{f:Nat}(h:f+1<=64):12000000+UU (f+1)+300<=UU f:=by unfold UU;omega
section
variable{E:j0}{ER:List (List RQ)}{X:Rat}{XR:RQ}
structure ar4(E:j0)(X x:Rat):Prop where
 hr:jO E X
 xd:X.den<=999
 xb:kD x
structure YC(E:j0)(X x:Rat)(f:Nat)(c:Rat)(v:VS):Prop where
 f64:f<=64
 on:Dm X x c
 reg:jO E c
 vl:v.length=E.length-1
 vf:∀p∈v,Fit (UU f) p.1/\Fit (UU f) p.2
def SmallX.UI(h:SmallX E ER X XR){x c:Rat}{k:Int}(F:ar4 E X x)(hk:k<=256)(on:Dm X x c)(reg:jO E c)(hcx:c≠x){aB:Rat}{st:Nat}(hv:bp (aV E c) (E.length-1) (aG E c)=some (aB,st)) :
  oQ E c aB st (ei aB x c) k/\Fit 2097152 aB/\Dm X x (c+ei aB x c)/\jO E (c+ei aB x c):=by
 obtain⟨l2,l5,_,_⟩:=F.hr.facts;obtain⟨hh,hh62,rfl,_,hW⟩:=ef hv;obtain⟨w1,w2⟩:=aJ1 (x:=x) (c:=c) (jZ hh);have on2:=on.next hcx hh62
 have ht:vJ (ei (ae hh) x c):=by
  have:=(on2.Dv F.xd h.xb F.xb).sub (on.Dv F.xd h.xb F.xb)
  rwa[show c+ei (ae hh) x c-c=ei (ae hh) x c by grind]at this
 exact⟨YX reg hv ht w2 hk,(fI ht hh62 (n:=1) (d:=0) O O (ah _)).o1,on2,reg.yJ hv w1⟩
def SmallX.bv8(h:SmallX E ER X XR){x:Rat}{k:Int}(F:ar4 E X x)(hk:k<=256):SI E x k 12000000 768021200 (YC E X x):=by
 obtain⟨l2,l5,_,_⟩:=F.hr.facts;refine⟨fun f c v I=>?_,fun f c v I hcx=>?_,fun f c v t M I hcx hm=>?_⟩
 .exact⟨(I.on.Dv F.xd h.xb F.xb).fit.mono O,I.vl,fun p hp=>⟨(I.vf p hp).1.mono sC.2,(I.vf p hp).2.mono sC.2⟩⟩
 .have hc:=h.at (I.on.Dv F.xd h.xb F.xb);refine⟨BP hc I.reg,uT hc I.reg,fun aB st hv=>(h.UI F hk I.on I.reg hcx hv).2.1,fun aB st hv=>?_,fun aB st hv=>?_,fun aB st n hv hn d hd l hl=>?_⟩
  .exact Po (hc.at0 I.reg (h.UI F hk I.on I.reg hcx hv).1)
  .exact(h.UI F hk I.on I.reg hcx hv).1.tf.mono O
  .exact hc.QT I.reg (h.UI F hk I.on I.reg hcx hv).1 hn hd hl
 .obtain⟨aB,st,n,hv,hn,rfl,rfl⟩:=Kt hm;have hc:=h.at (I.on.Dv F.xd h.xb F.xb);obtain⟨S,_,on2,reg2⟩:=h.UI F hk I.on I.reg hcx hv;refine⟨by have:=I.f64;omega,on2,reg2,by rw[nA,aX,pT],fun p hp=>?_⟩;obtain⟨d,hd,rfl⟩:=jf.1 hp;exact aD2 (d:=d) (M:=DC E c aB st (ei aB x c) k n) hk O (fun l hl=>hc.QT I.reg S hn (gO.1 hd) hl) I.vl I.vf (an1 I.f64)
def YC.first{x:Rat}{v0:VS}(F:ar4 E X x)(hl:v0.length=E.length-1)(hf:∀p∈v0,Fit 2000 p.1/\Fit 2000 p.2):YC E X x 64 X v0:=
 ⟨ah _,⟨.inr (nX _ _),e9⟩,F.hr,hl,fun p hp=>⟨(hf p hp).1.mono sC.1,(hf p hp).2.mono sC.1⟩⟩
end
def Sp(p:k5)(z:Rat):Prop:=p.1<=z/\z<=p.2
def Sp.add{p q:k5}{x y:Rat}(h:Sp p x)(k:Sp q y):Sp (p.1+q.1,p.2+q.2) (x+y):=by
 obtain⟨h1,h2⟩:=h;obtain⟨k1,k2⟩:=k
 constructor<;>dsimp only <;> grind
theorem Ap{l:j1}:∀i j:Nat,j<i->mD l i<=l.getD j 0
 | 0,_,h=>absurd h (pG _)
 | i+1,j,h=>by
   rw[mD];rcases bG j i with h1 | h1
   .have ih:=Ap (l:=l) i j h1;split
    .rename_i hc;rcases hc with hc | hc
     .omega
     .exact bH (pD hc) ih
    .exact ih
   .obtain rfl:j=i:=O
    split
    .exact ak
    .rename_i hc;exact pE.1 fun h=>hc (.inr h)
theorem wE{l:j1}:∀i j:Nat,j<i->l.getD j 0<=lA l i
 | 0,_,h=>absurd h (pG _)
 | i+1,j,h=>by
   rw[lA];rcases bG j i with h1 | h1
   .have ih:=wE (l:=l) i j h1;split
    .rename_i hc;rcases hc with hc | hc
     .omega
     .exact bH ih (pD hc)
    .exact ih
   .obtain rfl:j=i:=O
    split
    .exact ak
    .rename_i hc;exact pE.1 fun h=>hc (.inr h)
def Dl{a c d z:Rat}(h:c<=z/\z<=d):(a*c<=a*z/\a*z<=a*d)\/(a*d<=a*z/\a*z<=a*c):=by
 rcases rN (a:=0) (b:=a)with ha | ha
 .exact .inl ⟨eC h.1 ha,eC h.2 ha⟩
 .have h1:=eC (c:=-a) h.1 e9;have h2:=eC (c:=-a) h.2 e9;exact .inr ⟨e9,e9⟩
def Sp.mul{a b:Rat}{p:k5}{z:Rat}(h:Sp p z):Sp (jq a b p.1 p.2,jz a b p.1 p.2) (a*z):=by
 have l0:jq a b p.1 p.2<=a*p.1:=Ap (l:=hU a b p.1 p.2) 4 0 O;have l1:jq a b p.1 p.2<=a*p.2:=Ap (l:=hU a b p.1 p.2) 4 1 O;have g0:a*p.1<=jz a b p.1 p.2:=wE (l:=hU a b p.1 p.2) 4 0 O;have g1:a*p.2<=jz a b p.1 p.2:=wE (l:=hU a b p.1 p.2) 4 1 O;rcases Dl (a:=a) h with⟨h1,h2⟩ | ⟨h1,h2⟩
 .exact⟨bH l0 h1,bH h2 g1⟩
 .exact⟨bH l1 h1,bH h2 g0⟩
def MA(mu g:j4):Nat->Rat
 | 0=>0
 | l+1=>MA mu g l+mu l*g l
theorem Vx(mu g h:j4)(u:Rat):∀l,MA mu (fun i=>g i+h i*u) l=MA mu g l+MA mu h l*u
 | 0=>by simp only[MA];grind
 | l+1=>by simp only[MA];rw[Vx mu g h u l];grind
theorem ad6{M v:k6}{g:j4}{m:Nat}(h:∀l,l<m->Sp (v l) (g l)):∀l,l<=m->Sp (dR M v l) (MA (fun l=>(M l).1) g l)
 | 0,_=>⟨ak,ak⟩
 | l+1,hl=>(ad6 h l O).add ((h l O).mul (a:=(M l).1) (b:=(M l).2))
def bZ6(z:Rat):(VZ z:Rat)<=z:=by
 rw[Ay,jB,pF];have h:(z.den:Int)≠0:=by have:=z.den_pos;omega
 have:=Int.ediv_mul_le z.num h;unfold VZ;generalize z.num/(z.den:Int)*(z.den:Int)=y at *;omega
def Ul(q:Rat)(k:Nat):oJ q k<=q:=by
 have h:=bZ6 (q*nI k);have hp:0<2^k:=aw O;have hN:(0:Rat)<nI k:=rZ.2 O;have e:mkRat 1 (2^k)=1/nI k:=by rw[uJ];rfl
 unfold oJ;rw[e];have h1:(0:Rat)<=1/nI k:=oZ iN hN;have h2:=eL h h1
 have h3:q*nI k*(1/nI k)=q:=by
  have:nI k≠0:=e9
  grind
 rwa[h3]at h2
def bT3(q:Rat)(k:Nat):q<=ZA q k:=by
 have:=Ul (-q) k;rw[<-at4];grind
def Sp.out{p:k5}{z:Rat}(k:Nat)(h:Sp p z):Sp (oJ p.1 k,ZA p.2 k) z:=⟨bH (Ul _ _) h.1,bH h.2 (bT3 _ _)⟩
def Lin(m:Nat)(u:Rat)(a b d:VS):Prop:=∃al be:Nat->Rat,∀i,i<m->Sp (a.getD i (0,0)) (al i)/\Sp (b.getD i (0,0)) (be i)/\Sp (d.getD i (0,0)) (al i+be i*u)
def Yu{m i:Nat}{k:Int}{M:Nat->Nat->Rat×Rat}{v:VS}(h:i<m):(nA m k M v).getD i (0,0)=ya m k M v i:=by
 rw[nA,dp,dS,jd h];rfl
def Qt{m i:Nat}{k:Int}{M:Nat->Nat->Rat×Rat}{v:VS}{g:j4}(hi:i<m)(h:∀l,l<m->Sp (v.getD l (0,0)) (g l)):Sp ((nA m k M v).getD i (0,0)) (MA (fun l=>(M i l).1) g m):=by
 rw[Yu hi];exact(ad6 (M:=M i) (v:=fun l=>v.getD l (0,0)) h m (ah _)).out _
def Lin.step{m:Nat}{u:Rat}{a b d:VS}{k:Int}{M:Nat->Nat->Rat×Rat}(h:Lin m u a b d):Lin m u (nA m k M a) (nA m k M b) (nA m k M d):=by
 obtain⟨al,be,h⟩:=h;refine⟨fun i=>MA (fun l=>(M i l).1) al m,fun i=>MA (fun l=>(M i l).1) be m,fun i hi=>⟨Qt hi fun l hl=>(h l hl).1,Qt hi fun l hl=>(h l hl).2.1,?_⟩⟩;rw[<-Vx];exact Qt hi fun l hl=>(h l hl).2.2
def xn(p:k5)(u:Rat):Rat×Rat:=(mD [p.1*u,p.2*u] 2,lA [p.1*u,p.2*u] 2)
def Sp.scale{p:k5}{z:Rat}(u:Rat)(h:Sp p z):Sp (xn p u) (z*u):=by
 have l0:(xn p u).1<=p.1*u:=Ap (l:=[p.1*u,p.2*u]) 2 0 O;have l1:(xn p u).1<=p.2*u:=Ap (l:=[p.1*u,p.2*u]) 2 1 O;have g0:p.1*u<=(xn p u).2:=wE (l:=[p.1*u,p.2*u]) 2 0 O;have g1:p.2*u<=(xn p u).2:=wE (l:=[p.1*u,p.2*u]) 2 1 O;have hb:=Dl (a:=u) h;rw[jK u,jK u,jK u]at hb;rcases hb with⟨h1,h2⟩ | ⟨h1,h2⟩
 .exact⟨bH l0 h1,bH h2 g1⟩
 .exact⟨bH l1 h1,bH h2 g0⟩
def aI2{c:bL}(hs:c.small=true):c.X.den<=999:=by
 unfold bL.small at hs;rw[fH]at hs;obtain⟨hy,hsp,hx,hyl⟩:=hs;by_cases hk:0<c.kind
 .rw[bL.X,aI hk];decide
 .rw[bL.X,aD hk];exact(bz.BJ hx).1
def bH5:Tr:=yD 36 0 0 1 0 2 1 1 1 1 2 6 7 (lZ 36 0 3 0 4 0 5 1 0 1 1 1 2 10 11 (ZN 2 3 40 8 12 (Dh 162 3 4 6 13 40 123 (yQ 5 5 3 4 5))))
def au5:aO prog f74 cT [.v (some 6),.v (some 3)]=bH5:=aT
def ca0:Tr:=eO 38 [G3 0,.agg [U 0 3,U 0 4,U 0 5]] [none] [4,6] [39,39] 3 true (ju 1 0 0 3 7 (cC 2))
def aG9:aO prog f168 cT [.v (some 6)]=ca0:=aT
def QS{a b:Rat}{B:Nat}(ha:Fit B a)(hb:Fit B b):∀x∈[a,b],Fit B x:=fun x hx=>by
 simp only[ee,jm,jr]at hx;rcases hx with rfl | rfl
 .exact ha
 .exact hb
def Tk(p:k5)(u:Rat)(A B:Nat)(h1:Fit A p.1)(h2:Fit A p.2)(hu:Fit B u)(hA:1<=A:=by omega)(h:A+B<=8589934592:=by omega):aK prog 74 [(kP p.1 p.2:aF),(qT u:aF)] (.ret [kP (xn p u).1 (xn p u).2]):=by
 refine dB func74 au5 ?_;apply aA (cr p.1 u A B h1 hu);apply aA (cr p.2 u A B h2 hu);apply bh (us:=[qC (p.1*u),qC (p.2*u)]);apply aA (OL [p.1*u,p.2*u] (A+B) (QS (h1.mul hu) (h2.mul hu)) O O bY);exact aN
def GZ(a b:Rat)(B:Nat)(ha:Fit B a)(hb:Fit B b)(h:B<=8589934592:=by omega):aK prog 168 [(kP a b:aF)] (.ret [.one (.bool (decide (a<=b)))]):=by
 refine dB func168 aG9 ?_;apply aA (ma a b B B ha hb);apply vn iQ;dsimp only[aP,aQ];rw[show decide (a<=b)=decide (mF a b<=0) by rw[kV];exact ic.symm];exact aN
def ab4{p:k5}{u:Rat}{A B:Nat}(h1:Fit A p.1)(h2:Fit A p.2)(hu:Fit B u)(hA:1<=A):Fit (A+B) (xn p u).1/\Fit (A+B) (xn p u).2:=
 ⟨zb (QS (h1.mul hu) (h2.mul hu)) 2 bY,vh (QS (h1.mul hu) (h2.mul hu)) 2 bY⟩
section
variable{c:bL}
def LI(hs:c.small=true)(hok:okF c.E c.X c.Y=true){x:Rat}(hx:kD x):ar4 c.E c.X x:=⟨QB hok,aI2 hs,hx⟩
def Yq(hC:um c){x:Rat}{k:Int}(hk:k<=256)(F:ar4 c.E c.X x){Y:j1}(hY:okF c.E c.X Y=true)(hf:∀y∈Y,Fit 2000 y) :
  aK prog 72 [fT c.E c.X Y,qT x,.one (.int .i64 k)] (.ret [.one (.slice 6 (vS (evV (fe c.E x k 64 c.X (MH Y))).1)),.one (.int .i64 (evV (fe c.E x k 64 c.X (MH Y))).2)]) /\
  ∀w,fe c.E x k 64 c.X (MH Y)=some w->w.length=c.E.length-1/\∀p∈w,Fit 768021200 p.1/\Fit 768021200 p.2:=by
 obtain⟨l2,l5,hyl,_,_⟩:=pv hY;have P:=hC.toSmallX.bv8 F hk;have I0:=YC.first F (v0:=MH Y) (by rw[aX];exact hyl) (fun p hp=>by obtain⟨y,hy,rfl⟩:=jf.1 hp;exact⟨hf y hy,hf y hy⟩)
 have hck:aK prog 21 [fT c.E c.X Y] (.ret [.one (.int .i64 0)]):=by
  have h:=zR c.E c.X Y hC.e1 hC.xf
  rwa[aI hY]at h
 have hval:=Cy c.E c.X Y x k 12000000 768021200 _ P hk l2 l5 (F.xb.fit.mono O) I0;refine⟨MB c.E c.X Y x k _ hck hval,fun w hw=>?_⟩;obtain⟨g,c',hI⟩:=TY P 64 _ _ I0 hw;exact(P.Dv g c' w hI).2
end
end Go.Sy
