/- Part. -/
import Derived.Test.YtdmcadckdnnglaaGreatDoorIc
set_option linter.all false
namespace Go.Sy
open Go Go.Proofs Tryz Ord
def Wi(s x:Rat):Prop:=-s<=x/\x<=s
def Wi.mul{a b x y:Rat}(h:Wi a x)(k:Wi b y):Wi (a*b) (x*y):=by
 obtain⟨h1,h2⟩:=h;obtain⟨k1,k2⟩:=k;have e1:=gX (a:=a-x) (b:=b+y) (by grind) (by grind);have e2:=gX (a:=a+x) (b:=b-y) (by grind) (by grind);have e3:=gX (a:=a-x) (b:=b-y) (by grind) (by grind);have e4:=gX (a:=a+x) (b:=b+y) (by grind) (by grind)
 constructor<;>grind
theorem Wi.pow{a x:Rat}(h:Wi a x):∀k:Nat,Wi (a^k) (x^k)
 | 0=>by rw[ej,ej];constructor<;>decide +kernel
 | k+1=>by rw[gM,gM];exact(Wi.pow h k).mul h
def Wi.abs(x:Rat):Wi x.abs x:=Zc cr
theorem Kh{r:List Rat}{aB t:Rat}(ht:Wi aB t):∀k,k<=r.length->Wi (gJ r aB k) (ev (r.take k) t*t)
 | 0,_=>by
   rw[ma,cP,gJ,LH];constructor<;>grind
 | k+1,hk=>by
   have ih:=Kh (r:=r) ht k O;have h1:=(Wi.abs (r.getD k 0)).mul (ht.pow (k+1));have hk0:r[k]?=some (r.getD k 0):=bX;rw[jY hk0,gJ];have e:(ev (r.take k) t+r.getD k 0*t^k)*t=ev (r.take k) t*t+r.getD k 0*t^(k+1):=by rw[gM];grind
   rw[e];obtain⟨a1,a2⟩:=ih;obtain⟨b1,b2⟩:=h1
   constructor<;>grind
def au8{p:List Rat}{aB t:Rat}(h:gJ (p.drop 1) aB (p.length-1)+gJ (p.drop 1) aB (p.length-1)<=(p.getD 0 0).abs)(h0:p.getD 0 0≠0)(ht:Wi aB t):ev p t≠0:=by
 cases p with
 | nil=>exact absurd rfl h0
 | cons a r=>
   have hw:=Kh ht r.length (aY _);rw[List.take_length]at hw;rw[List.drop_succ_cons,eF,List.length_cons,Nat.add_sub_cancel,Kb]at h;rw[Kb]at h0;rw[ai];generalize gJ r aB r.length=s at *;generalize ev r t*t=z at *;obtain⟨h1,h2⟩:=hw;intro e;unfold Rat.abs at h;split at h<;>grind
def UJ{q:List (List Rat)}{m:Nat}{lead aB:Rat}{st:Nat}(h:ba q m lead=some (aB,st))(hm:1<=m:=by omega):gJ ((q.getD m []).drop 1) aB ((q.getD m []).length-1)+gJ ((q.getD m []).drop 1) aB ((q.getD m []).length-1)<=lead.abs:=by
 obtain⟨hh,ii,hrv,f1,_,f3,_,_,_⟩:=sa (q:=q) (m:=m) (lead:=lead) hm;rw[h]at hrv;split at hrv
 ·cases hrv
 ·rename_i hc;simp only[aI,bQ]at hrv;obtain⟨rfl,_⟩:=hrv;exact f3 O
def gT.zg{E:List (List Rat)}{c t aB:Rat}{st:Nat}(h:gT E c)(hv:ba (aV E c) (E.length-1) (aF E c)=some (aB,st))(ht:Wi aB t):gT E (c+t):=by
 obtain⟨h2,h5,hld,_⟩:=h.facts;have hr:=UJ hv
 have hg:(aV E c).getD (E.length-1) []=di (E.getD (E.length-1) []) c:=by
  rw[aV,cu,cC,cu,ay O];rfl
 rw[hg]at hr;have hn:=au8 (p:=di (E.getD (E.length-1) []) c) hr hld ht;refine⟨h.ok,?_⟩;unfold rH;rw[dx];intro p hp;rw[mE]at hn;rw[cu,hp]at hn;rw[show c+t=t+c by grind];exact hn
def vL{aB x c:Rat}(h0:0<aB):(dc aB x c=x-c/\Wi (an aB) (x-c))\/(dc aB x c=an aB/\an aB<x-c)\/(dc aB x c=-an aB/\x-c < -an aB):=by
 have e:=kU aB;unfold dc;rw[xN,xJ];generalize an aB=a at *;generalize x-c=d at *;unfold Wi;split
 ·split<;>grind
 ·split<;>grind
def Xy{h:Nat}(hh:h<=62):(an (ah h)).den∣2^63:=by
 have h1:Bd (2^h) 1 (mkRat 1 (2^h)):=Bd.mk (eV.1 (Nat.pow_pos O)) (by have:=Nat.pow_pos (a:=2) (n:=h) O;simp;omega);have h2:=(Bd.int (D:=1) (n:=4) (S:=4) O).mul O (by decide) (h1.mono (wS 2 hh) (aY _));have h3:Bd 2 1 (mkRat 1 (2^1)):=by decide
 exact(h2.mul (by decide) (by decide) h3).1
def den_add{D:Nat}{x y:Rat}(hx:x.den∣D)(hy:y.den∣D)(h0:D≠0:=by omega):(x+y).den∣D:=
 (Bd.add h0 (show Bd D x.num.natAbs x from⟨hx,Nat.le_mul_of_pos_right _ x.den_pos⟩) (show Bd D y.num.natAbs y from⟨hy,Nat.le_mul_of_pos_right _ y.den_pos⟩)).1
def wU{x:Rat}{S:Nat}:x.num.natAbs<=S*x.den↔Wi (((S:Nat):Int):Rat) x:=by
 unfold Wi;rw[wx,wx,<-xi,Rat.num_intCast,Rat.num_intCast,Rat.den_intCast,Rat.den_intCast];have e:((S*x.den:Nat):Int)=(S:Int)*(x.den:Int):=Int.natCast_mul _ _;have e2:-(S:Int)*(x.den:Int)=-((S:Int)*(x.den:Int)):=qo _ _;rw[e2];omega
structure zX(X x c:Rat):Prop where
 d:c=x\/c.den∣X.den*2^63
 b:(X<=c/\c<=x)\/(x<=c/\c<=X)
def zX.Pr{X x c:Rat}(h:zX X x c)(hX:X.den<=999)(hXf:jg X)(hx:jg x):jg c:=by
 refine⟨?_,wU.2 ?_⟩
 ·rcases h.d with rfl | h
  ·exact hx.d
  ·exact Nat.le_trans (BE (Nat.mul_pos X.den_pos (by decide)) h) (Nat.le_trans (Nat.mul_le_mul_right _ hX) (by decide))
 ·obtain⟨a1,a2⟩:=wU.1 hXf.s;obtain⟨b1,b2⟩:=wU.1 hx.s
  constructor<;>rcases h.b with⟨k1,k2⟩ | ⟨k1,k2⟩<;>grind
def zX.next{X x c:Rat}(h:zX X x c)(hc:c≠x){hh:Nat}(h62:hh<=62):zX X x (c+dc (ah hh) x c):=by
 have hp:=jI hh;have he:=kU (ah hh);have hd:=Xy h62;have hcd:c.den∣X.den*2^63:=h.d.resolve_left hc;have h0:X.den*2^63≠0:=Nat.mul_ne_zero (iy X) (by decide);have hb:=h.b;rcases vL (x:=x) (c:=c) hp with⟨e,h1⟩ | ⟨e,h1⟩ | ⟨e,h1⟩
 ·rw[e];have ex:c+(x-c)=x:=by grind
  rw[ex];exact⟨.inl rfl,by grind⟩
 ·rw[e];refine⟨.inr (den_add hcd (Ca hd (tj _ _)) h0),?_⟩;generalize an (ah hh)=a at *
  grind
 ·rw[e];refine⟨.inr (den_add hcd (Ca (show(-an (ah hh)).den∣2^63 from hd) (tj _ _)) h0),?_⟩;generalize an (ah hh)=a at *
  grind
def ZC{aB x c:Rat}(h0:0<aB):Wi aB (dc aB x c)/\(dc aB x c).abs*2<=aB:=by
 have he:=kU aB;rcases vL (x:=x) (c:=c) h0 with⟨e,h1⟩ | ⟨e,h1⟩ | ⟨e,h1⟩<;>rw[e]<;>unfold Wi at * <;> generalize an aB=a at * <;> generalize x-c=z at * <;> unfold Rat.abs<;>(refine⟨by grind,?_⟩;split<;>grind)
def tC{x:Rat}{H:Nat}(h:Fit H x):x.num.natAbs<=2^H*x.den:=
 Nat.le_trans (kR h.1) (Nat.le_mul_of_pos_right _ x.den_pos)
def BL{x y:Rat}{S T:Nat}(hx:x.num.natAbs<=S*x.den)(hy:y.num.natAbs<=T*y.den):(x*y).num.natAbs<=S*T*(x*y).den:=
 (Bd.mul (iy x) (iy y) (show Bd x.den S x from⟨qX _,hx⟩) (show Bd y.den T y from⟨qX _,hy⟩)).2
def TY{x y:Rat}{S T:Nat}(hx:x.num.natAbs<=S*x.den)(hy:y.num.natAbs<=T*y.den):(x+y).num.natAbs<=(S+T)*(x+y).den:=by
 have h1:Bd (x.den*y.den) S x:=⟨qL _ _,hx⟩
 have h2:Bd (x.den*y.den) T y:=⟨tj _ _,hy⟩
 exact(h1.add (Nat.mul_ne_zero (iy x) (iy y)) h2).2
def ab3{a b c d:Rat}{H W:Nat}(ha:Fit H a)(hb:Fit H b)(hc:Fit W c)(hd:Fit W d):(kA a b c d).num.natAbs<=2^(H+W)*(kA a b c d).den/\(jx a b c d).num.natAbs<=2^(H+W)*(jx a b c d).den:=by
 have hm:∀x∈gW a b c d,x.num.natAbs<=2^(H+W)*x.den:=fun x hx=>by
  rw[Nat.pow_add];simp only[gW,List.mem_cons,ja,gY]at hx;rcases hx with rfl | rfl | rfl | rfl
  ·exact BL (tC ha) (tC hc)
  ·exact BL (tC ha) (tC hd)
  ·exact BL (tC hb) (tC hc)
  ·exact BL (tC hb) (tC hd)
 constructor
 ·unfold kA;rcases Eg (l:=gW a b c d) 4 (by simp[gW])with e | h
  ·rw[e];exact bO _
  ·exact hm _ h
 ·unfold jx;rcases CU (l:=gW a b c d) 4 (by simp[gW])with e | h
  ·rw[e];exact bO _
  ·exact hm _ h
theorem Oa{M v:Nat->Rat×Rat}{m H W:Nat}(hM:∀l,l<m->Fit H (M l).1/\Fit H (M l).2)(hv:∀l,l<m->Fit W (v l).1/\Fit W (v l).2):∀l,l<=m->(cL M v l).1.num.natAbs<=l*2^(H+W)*(cL M v l).1.den/\(cL M v l).2.num.natAbs<=l*2^(H+W)*(cL M v l).2.den
 | 0,_=>⟨bO _,bO _⟩
 | l+1,h=>by
   obtain⟨a1,a2⟩:=Oa hM hv l O;obtain⟨b1,b2⟩:=ab3 (hM l O).1 (hM l O).2 (hv l O).1 (hv l O).2;rw[cL,Nat.add_mul,Nat.one_mul];exact⟨TY a1 b1,TY a2 b2⟩
def Yz{m H W d K:Nat}{k:Int}{M:Nat->Nat->Rat×Rat}{v:VS}(hk:k<=256)(hm:m<=4)(hM:∀l,l<m->Fit H (M d l).1/\Fit H (M d l).2)(hvl:v.length=m)(hv:∀p∈v,Fit W p.1/\Fit W p.2)(hK:H+W+300<=K):Fit K (ux m k M v d).1/\Fit K (ux m k M v d).2:=by
 obtain⟨h1,h2⟩:=Oa (M:=M d) (v:=fun l=>v.getD l (0,0)) (m:=m) (W:=W) hM (fun l hl=>hv _ (bc (dD))) m (aY _)
 have r1:m*2^(H+W)*2^k.toNat<2^K:=by
  have e:m*2^(H+W)*2^k.toNat<=2^2*2^(H+W)*2^k.toNat:=Nat.mul_le_mul_right _ (Nat.mul_le_mul_right _ hm);rw[<-Nat.pow_add,<-Nat.pow_add]at e;exact Nat.lt_of_le_of_lt e (mP O O)
 have r2:2^k.toNat<2^K:=mP O O;exact⟨yi h1 r1 r2,Uk h2 r1 r2⟩
def Oh(f:Nat):Nat:=2000+(64-f)*12000300
def oe{f:Nat}:2000<=Oh f/\Oh f<=768021200:=by unfold Oh;omega
def Vs{f:Nat}(h:f+1<=64):12000000+Oh (f+1)+300<=Oh f:=by unfold Oh;omega
section
variable{E:List (List Rat)}{ER:List (List RQ)}{X:Rat}{XR:RQ}
structure Wg(E:List (List Rat))(X x:Rat):Prop where
 hr:gT E X
 xd:X.den<=999
 xb:jg x
structure Wl(E:List (List Rat))(X x:Rat)(f:Nat)(c:Rat)(v:VS):Prop where
 f64:f<=64
 on:zX X x c
 reg:gT E c
 vl:v.length=E.length-1
 vf:∀p∈v,Fit (Oh f) p.1/\Fit (Oh f) p.2
def SmallX.NW(h:SmallX E ER X XR){x c:Rat}{k:Int}(F:Wg E X x)(hk:k<=256)(on:zX X x c)(reg:gT E c)(hcx:c≠x){aB:Rat}{st:Nat}(hv:ba (aV E c) (E.length-1) (aF E c)=some (aB,st)) :
  kq E c aB st (dc aB x c) k/\Fit 2097152 aB/\zX X x (c+dc aB x c)/\gT E (c+dc aB x c):=by
 obtain⟨l2,l5,_,_⟩:=F.hr.facts;obtain⟨hh,hh62,rfl,_,hW⟩:=eO hv;obtain⟨w1,w2⟩:=ZC (x:=x) (c:=c) (jI hh);have on2:=on.next hcx hh62
 have ht:rK (dc (ah hh) x c):=by
  have:=(on2.Pr F.xd h.xb F.xb).sub (on.Pr F.xd h.xb F.xb)
  rwa[show c+dc (ah hh) x c-c=dc (ah hh) x c by grind]at this
 exact⟨Sf reg hv ht w2 hk,(eJ ht hh62 (n:=1) (d:=0) O O (aY _)).o1,on2,reg.zg hv w1⟩
def SmallX.bs5(h:SmallX E ER X XR){x:Rat}{k:Int}(F:Wg E X x)(hk:k<=256):Mh E x k 12000000 768021200 (Wl E X x):=by
 obtain⟨l2,l5,_,_⟩:=F.hr.facts;refine⟨fun f c v I=>?_,fun f c v I hcx=>?_,fun f c v t M I hcx hm=>?_⟩
 ·exact⟨(I.on.Pr F.xd h.xb F.xb).fit.mono O,I.vl,fun p hp=>⟨(I.vf p hp).1.mono oe.2,(I.vf p hp).2.mono oe.2⟩⟩
 ·have hc:=h.at (I.on.Pr F.xd h.xb F.xb);refine⟨yE hc I.reg,qd hc I.reg,fun aB st hv=>(h.NW F hk I.on I.reg hcx hv).2.1,fun aB st hv=>?_,fun aB st hv=>?_,fun aB st n hv hn d hd l hl=>?_⟩
  ·exact IL (hc.WC I.reg (h.NW F hk I.on I.reg hcx hv).1)
  ·exact(h.NW F hk I.on I.reg hcx hv).1.tf.mono O
  ·exact hc.Kg I.reg (h.NW F hk I.on I.reg hcx hv).1 hn hd hl
 ·obtain⟨aB,st,n,hv,hn,rfl,rfl⟩:=Ff hm;have hc:=h.at (I.on.Pr F.xd h.xb F.xb);obtain⟨S,_,on2,reg2⟩:=h.NW F hk I.on I.reg hcx hv;refine⟨by have:=I.f64;omega,on2,reg2,by rw[jy,aR,mA],fun p hp=>?_⟩;obtain⟨d,hd,rfl⟩:=gn.1 hp;exact Yz (d:=d) (M:=zp E c aB st (dc aB x c) k n) hk O (fun l hl=>hc.Kg I.reg S hn (jk.1 hd) hl) I.vl I.vf (Vs I.f64)
def Wl.first{x:Rat}{v0:VS}(F:Wg E X x)(hl:v0.length=E.length-1)(hf:∀p∈v0,Fit 2000 p.1/\Fit 2000 p.2):Wl E X x 64 X v0:=
 ⟨aY _,⟨.inr (qL _ _),by grind⟩,F.hr,hl,fun p hp=>⟨(hf p hp).1.mono oe.1,(hf p hp).2.mono oe.1⟩⟩
end
def Sp(p:Rat×Rat)(z:Rat):Prop:=p.1<=z/\z<=p.2
def Sp.add{p q:Rat×Rat}{x y:Rat}(h:Sp p x)(k:Sp q y):Sp (p.1+q.1,p.2+q.2) (x+y):=by
 obtain⟨h1,h2⟩:=h;obtain⟨k1,k2⟩:=k
 constructor<;>dsimp only <;> grind
theorem wg{l:List Rat}:∀i j:Nat,j<i->iG l i<=l.getD j 0
 | 0,_,h=>absurd h (oJ _)
 | i+1,j,h=>by
   rw[iG];rcases Nat.lt_or_ge j i with h1 | h1
   ·have ih:=wg (l:=l) i j h1;split
    ·rename_i hc;rcases hc with hc | hc
     ·omega
     ·exact cq (vk hc) ih
    ·exact ih
   ·obtain rfl:j=i:=O
    split
    ·exact cr
    ·rename_i hc;exact BR.1 fun h=>hc (.inr h)
theorem sS{l:List Rat}:∀i j:Nat,j<i->l.getD j 0<=gZ l i
 | 0,_,h=>absurd h (oJ _)
 | i+1,j,h=>by
   rw[gZ];rcases Nat.lt_or_ge j i with h1 | h1
   ·have ih:=sS (l:=l) i j h1;split
    ·rename_i hc;rcases hc with hc | hc
     ·omega
     ·exact cq ih (vk hc)
    ·exact ih
   ·obtain rfl:j=i:=O
    split
    ·exact cr
    ·rename_i hc;exact BR.1 fun h=>hc (.inr h)
def zW{a c d z:Rat}(h:c<=z/\z<=d):(a*c<=a*z/\a*z<=a*d)\/(a*d<=a*z/\a*z<=a*c):=by
 rcases KW (a:=0) (b:=a)with ha | ha
 ·exact .inl ⟨qF h.1 ha,qF h.2 ha⟩
 ·have h1:=qF (c:=-a) h.1 (by grind);have h2:=qF (c:=-a) h.2 (by grind);exact .inr ⟨by grind,by grind⟩
def Sp.mul{a b:Rat}{p:Rat×Rat}{z:Rat}(h:Sp p z):Sp (kA a b p.1 p.2,jx a b p.1 p.2) (a*z):=by
 have l0:kA a b p.1 p.2<=a*p.1:=wg (l:=gW a b p.1 p.2) 4 0 O;have l1:kA a b p.1 p.2<=a*p.2:=wg (l:=gW a b p.1 p.2) 4 1 O;have g0:a*p.1<=jx a b p.1 p.2:=sS (l:=gW a b p.1 p.2) 4 0 O;have g1:a*p.2<=jx a b p.1 p.2:=sS (l:=gW a b p.1 p.2) 4 1 O;rcases zW (a:=a) h with⟨h1,h2⟩ | ⟨h1,h2⟩
 ·exact⟨cq l0 h1,cq h2 g1⟩
 ·exact⟨cq l1 h1,cq h2 g0⟩
def GC(mu g:Nat->Rat):Nat->Rat
 | 0=>0
 | l+1=>GC mu g l+mu l*g l
theorem OM(mu g h:Nat->Rat)(u:Rat):∀l,GC mu (fun i=>g i+h i*u) l=GC mu g l+GC mu h l*u
 | 0=>by simp only[GC];grind
 | l+1=>by simp only[GC];rw[OM mu g h u l];grind
theorem TO{M v:Nat->Rat×Rat}{g:Nat->Rat}{m:Nat}(h:∀l,l<m->Sp (v l) (g l)):∀l,l<=m->Sp (cL M v l) (GC (fun l=>(M l).1) g l)
 | 0,_=>⟨cr,cr⟩
 | l+1,hl=>(TO h l O).add ((h l O).mul (a:=(M l).1) (b:=(M l).2))
def bm4(z:Rat):(Pt z:Rat)<=z:=by
 rw[wx,Rat.num_intCast,Rat.den_intCast];have h:(z.den:Int)≠0:=by have:=z.den_pos;omega
 have:=Int.ediv_mul_le z.num h;unfold Pt;generalize z.num/(z.den:Int)*(z.den:Int)=y at *;omega
def Nz(q:Rat)(k:Nat):ki q k<=q:=by
 have h:=bm4 (q*kF k);have hp:0<2^k:=Nat.pow_pos O;have hN:(0:Rat)<kF k:=oQ.2 O;have e:mkRat 1 (2^k)=1/kF k:=by rw[qm];rfl
 unfold ki;rw[e];have h1:(0:Rat)<=1/kF k:=lH (by decide +kernel) hN;have h2:=HS h h1
 have h3:q*kF k*(1/kF k)=q:=by
  have:kF k≠0:=by grind
  grind
 rwa[h3]at h2
def bg0(q:Rat)(k:Nat):q<=SK q k:=by
 have:=Nz (-q) k;rw[<-WH];grind
def Sp.out{p:Rat×Rat}{z:Rat}(k:Nat)(h:Sp p z):Sp (ki p.1 k,SK p.2 k) z:=⟨cq (Nz _ _) h.1,cq h.2 (bg0 _ _)⟩
def Lin(m:Nat)(u:Rat)(a b d:VS):Prop:=∃al be:Nat->Rat,∀i,i<m->Sp (a.getD i (0,0)) (al i)/\Sp (b.getD i (0,0)) (be i)/\Sp (d.getD i (0,0)) (al i+be i*u)
def RF{m i:Nat}{k:Int}{M:Nat->Nat->Rat×Rat}{v:VS}(h:i<m):(jy m k M v).getD i (0,0)=ux m k M v i:=by
 rw[jy,cu,cC,gv h];rfl
def JM{m i:Nat}{k:Int}{M:Nat->Nat->Rat×Rat}{v:VS}{g:Nat->Rat}(hi:i<m)(h:∀l,l<m->Sp (v.getD l (0,0)) (g l)):Sp ((jy m k M v).getD i (0,0)) (GC (fun l=>(M i l).1) g m):=by
 rw[RF hi];exact(TO (M:=M i) (v:=fun l=>v.getD l (0,0)) h m (aY _)).out _
def Lin.step{m:Nat}{u:Rat}{a b d:VS}{k:Int}{M:Nat->Nat->Rat×Rat}(h:Lin m u a b d):Lin m u (jy m k M a) (jy m k M b) (jy m k M d):=by
 obtain⟨al,be,h⟩:=h;refine⟨fun i=>GC (fun l=>(M i l).1) al m,fun i=>GC (fun l=>(M i l).1) be m,fun i hi=>⟨JM hi fun l hl=>(h l hl).1,JM hi fun l hl=>(h l hl).2.1,?_⟩⟩;rw[<-OM];exact JM hi fun l hl=>(h l hl).2.2
def uG(p:Rat×Rat)(u:Rat):Rat×Rat:=(iG [p.1*u,p.2*u] 2,gZ [p.1*u,p.2*u] 2)
def Sp.scale{p:Rat×Rat}{z:Rat}(u:Rat)(h:Sp p z):Sp (uG p u) (z*u):=by
 have l0:(uG p u).1<=p.1*u:=wg (l:=[p.1*u,p.2*u]) 2 0 O;have l1:(uG p u).1<=p.2*u:=wg (l:=[p.1*u,p.2*u]) 2 1 O;have g0:p.1*u<=(uG p u).2:=sS (l:=[p.1*u,p.2*u]) 2 0 O;have g1:p.2*u<=(uG p u).2:=sS (l:=[p.1*u,p.2*u]) 2 1 O;have hb:=zW (a:=u) h;rw[qN u,qN u,qN u]at hb;rcases hb with⟨h1,h2⟩ | ⟨h1,h2⟩
 ·exact⟨cq l0 h1,cq h2 g1⟩
 ·exact⟨cq l1 h1,cq h2 g0⟩
def MK(s t:Rat×Rat):Bool:=decide (gZ [s.1,t.1] 2<=iG [s.2,t.2] 2)
def Zt{c:bA}(hs:c.small=true):c.X.den<=999:=by
 unfold bA.small at hs;rw[dx]at hs;obtain⟨hy,hsp,hx,hyl⟩:=hs;by_cases hk:0<c.kind
 ·rw[bA.X,if_pos hk];decide
 ·rw[bA.X,if_neg hk];exact(bH.xx hx).1
def aU2:Tr:=uQ 36 0 0 1 0 2 1 1 1 1 2 6 7 (iQ 36 0 3 0 4 0 5 1 0 1 1 1 2 10 11 (ID 2 0 1 2 3 40 8 12 (wO 162 3 4 6 13 40 123 (vD 5 5 3 4 5))))
def WS:aM prog f74 bZ [.v (some 6),.v (some 3)]=aU2:=by kernel_rfl
def aQ7:Tr:=Js 208 3 2 11 40 39 (ID 0 3 4 5 1 40 14 16 (wO 235 3 4 3 17 40 39 (dV 168 [(.agg [(U 3 0),(U 3 1),(U 3 2),(U 5 0),(U 5 1),(U 5 2)])] [none] [20] [123] 4 true (jX 6 0 21 (aH 7 0 (.ret [(.agg [tN,(tE (.bool false)),tN,tN,(tE (.bool false)),tN]),(tF false)]) (.ret [(.agg [(U 3 0),(U 3 1),(U 3 2),(U 5 0),(U 5 1),(U 5 2)]),(tF true)]))))))
def aU0:Tr:=ID 0 0 1 2 1 40 8 10 aQ7
def an6:aM prog f161 bZ [.v (some 6),.v (some 6)]=aU0:=by kernel_rfl
def bm8:Tr:=dV 38 [(G3 0),(.agg [(U 0 3),(U 0 4),(U 0 5)])] [none] [4,6] [39,39] 3 true (jb 1 0 0 3 7 (bI 2))
def Zi:aM prog f168 bZ [.v (some 6)]=bm8:=by kernel_rfl
def bi5:Tr:=dV 161 [(G6 0),(G6 1)] [(some 6),none] [8,9] [123,123] 228 false (bI 3)
def VE:aM prog f73 bZ [.v (some 6),.v (some 6)]=bi5:=by kernel_rfl
def qS{a b:Rat}{B:Nat}(ha:Fit B a)(hb:Fit B b):∀x∈[a,b],Fit B x:=fun x hx=>by
 simp only[List.mem_cons,ja,gY]at hx;rcases hx with rfl | rfl
 ·exact ha
 ·exact hb
def ME(p:Rat×Rat)(u:Rat)(A B:Nat)(h1:Fit A p.1)(h2:Fit A p.2)(hu:Fit B u)(hA:1<=A:=by omega)(h:A+B<=8589934592:=by omega):aL prog 74 [(ow p.1 p.2:aG),(qT u:aG)] (.ret [ow (uG p u).1 (uG p u).2]):=by
 refine bw func74 WS ?_;apply aA (bg p.1 u A B h1 hu);apply aA (bg p.2 u A B h2 hu);apply bF (us:=[qC (p.1*u),qC (p.2*u)]);apply aA (Ik [p.1*u,p.2*u] (A+B) (qS (h1.mul hu) (h2.mul hu)) O O (by simp));exact aK
def CP(a b:Rat)(B:Nat)(ha:Fit B a)(hb:Fit B b)(h:B<=8589934592:=by omega):aL prog 168 [(ow a b:aG)] (.ret [.one (.bool (decide (a<=b)))]):=by
 refine bw func168 Zi ?_;apply aA (pN a b B B ha hb);apply vn iO;dsimp only[aO,aP];rw[show decide (a<=b)=decide (ku a b<=0) by rw[lE];exact kM.symm];exact aK
def aH4(s t:Rat×Rat)(B:Nat)(h1:Fit B s.1)(h2:Fit B s.2)(h3:Fit B t.1)(h4:Fit B t.2)(hB:1<=B)(h:B<=8589934592)(hm:MK s t=true):aL prog 161 [(ow s.1 s.2:aG),(ow t.1 t.2:aG)] (.ret [ow (gZ [s.1,t.1] 2) (iG [s.2,t.2] 2),.one (.bool true)]):=by
 refine bw func161 an6 ?_;apply bF (us:=[qC s.1,qC t.1]);apply aA (Ud [s.1,t.1] B (qS h1 h3) hB h (by simp));apply bF (us:=[qC s.2,qC t.2]);apply aA (Xw [s.2,t.2] B (qS h2 h4) hB h (by simp));dsimp only[aO,aP];have hv:=CP (gZ [s.1,t.1] 2) (iG [s.2,t.2] 2) B (pY (qS h1 h3) 2 (by simp) hB) (rV (qS h2 h4) 2 (by simp) hB) h;rw[show decide (gZ [s.1,t.1] 2<=iG [s.2,t.2] 2)=true from hm]at hv;apply aA hv;apply vn lf;refine lR false rfl (fun h=>by cases h) (fun _=>?_);exact aK
def mJ(s t:Rat×Rat)(B:Nat)(h1:Fit B s.1)(h2:Fit B s.2)(h3:Fit B t.1)(h4:Fit B t.2)(hm:MK s t=true)(hB:1<=B:=by omega)(h:B<=8589934592:=by omega):aL prog 73 [(ow s.1 s.2:aG),(ow t.1 t.2:aG)] (.ret [.one (.bool true)]):=by
 refine bw func73 VE ?_;apply aA (aH4 s t B h1 h2 h3 h4 hB h hm);exact aK
def Tz{p:Rat×Rat}{u:Rat}{A B:Nat}(h1:Fit A p.1)(h2:Fit A p.2)(hu:Fit B u)(hA:1<=A):Fit (A+B) (uG p u).1/\Fit (A+B) (uG p u).2:=
 ⟨rV (qS (h1.mul hu) (h2.mul hu)) 2 (by simp),pY (qS (h1.mul hu) (h2.mul hu)) 2 (by simp)⟩
section
variable{c:bA}
def xq(hs:c.small=true)(hok:okF c.E c.X c.Y=true){x:Rat}(hx:jg x):Wg c.E c.X x:=⟨JT hok,Zt hs,hx⟩
def vX(hC:Lz c){x:Rat}{k:Int}(hk:k<=256)(F:Wg c.E c.X x){Y:List Rat}(hY:okF c.E c.X Y=true)(hf:∀y∈Y,Fit 2000 y) :
  aL prog 72 [fT c.E c.X Y,qT x,.one (.int .i64 k)] (.ret [.one (.slice 6 (vS (Wu (fh c.E x k 64 c.X (Ww Y))).1)),.one (.int .i64 (Wu (fh c.E x k 64 c.X (Ww Y))).2)]) /\
  ∀w,fh c.E x k 64 c.X (Ww Y)=some w->w.length=c.E.length-1/\∀p∈w,Fit 768021200 p.1/\Fit 768021200 p.2:=by
 obtain⟨l2,l5,hyl,_,_⟩:=wE hY;have P:=hC.toSmallX.bs5 F hk;have I0:=Wl.first F (v0:=Ww Y) (by rw[aR];exact hyl) (fun p hp=>by obtain⟨y,hy,rfl⟩:=gn.1 hp;exact⟨hf y hy,hf y hy⟩)
 have hck:aL prog 21 [fT c.E c.X Y] (.ret [.one (.int .i64 0)]):=by
  have h:=vi c.E c.X Y hC.e1 hC.xf
  rwa[if_pos hY]at h
 have hval:=Ja c.E c.X Y x k 12000000 768021200 _ P hk l2 l5 (F.xb.fit.mono O) I0;refine⟨GD c.E c.X Y x k _ hck hval,fun w hw=>?_⟩;obtain⟨g,c',hI⟩:=Ys P 64 _ _ I0 hw;exact(P.Pr g c' w hI).2
end
end Go.Sy
