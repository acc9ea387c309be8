/- Part. -/
import Derived.Test.YtacgmapjhpghkaaGreatDoorXi
set_option linter.all false
namespace Go.Sy
open Ord
def RwB(s:Nat)(r:c4):Prop:=∃D:Int,D≠0/\D.natAbs<2^s/\∀a∈r,∃N:Int,a*(D:Rat)=(N:Rat)/\N.natAbs<2^s
def bC0{D:Int}(h:D≠0):(D:Rat)≠0:=fun e=>h (by exact_mod_cast e)
def num_mul(a:Rat):a*((a.den:Int):Rat)=(a.num:Rat):=by
 have h:=Rat.num_divInt_den a;have h2:((a.den:Int):Rat)≠0:=bC0 (by have:=a.den_nz;omega);rw[Rat.divInt_eq_div]at h;have:a=(a.num:Rat)/((a.den:Int):Rat):=h.symm
 grind
def aR6{a:Rat}{D N:Int}(hD:D≠0)(h:a*(D:Rat)=(N:Rat)):a.num.natAbs<=N.natAbs/\a.den<=D.natAbs:=by
 have h1:a.num*D=N*(a.den:Int):=by
  have h2:=num_mul a;have h3:(a.num:Rat)*(D:Rat)=(N:Rat)*((a.den:Int):Rat):=b5
  exact_mod_cast h3
 have h2:a.num.natAbs*D.natAbs=N.natAbs*a.den:=by
  have:=congrArg Int.natAbs h1
  rwa[eA,eA,bj]at this
 have hc:Nat.Coprime a.num.natAbs a.den:=a.reduced;have hD':0<D.natAbs:=O
 have d1:a.den∣D.natAbs:=Nat.Coprime.dvd_of_dvd_mul_left hc.symm (h2▸Bt _ _);have d2:a.num.natAbs∣N.natAbs:=Nat.Coprime.dvd_of_dvd_mul_right hc (h2▸uY _ _);refine⟨?_,Ql hD' d1⟩;rcases ju N.natAbs with h0 | h0
 .rw[h0,ns]at h2;rcases Nat.mul_eq_zero.1 h2 with h | h
  .omega
  .omega
 .exact Ql h0 d2
def RwB.fit{s:Nat}{r:c4}(h:RwB s r):∀a∈r,Fit s a:=fun a ha=>by
 obtain⟨D,hD,hs,hN⟩:=h;obtain⟨N,h1,h2⟩:=hN a ha;have:=aR6 hD h1;exact⟨O,O⟩
def RwB.mono{s t:Nat}{r:c4}(h:RwB s r)(hst:s<=t):RwB t r:=by
 obtain⟨D,hD,hs,hN⟩:=h;have:=gI (n:=2) O hst;exact⟨D,hD,O,fun a ha=>by obtain⟨N,h1,h2⟩:=hN a ha;exact⟨N,h1,O⟩⟩
def iw{a b:Int}{s t:Nat}(ha:a.natAbs<2^s)(hb:b.natAbs<2^t):(a*b).natAbs<2^(s+t):=by
 rw[eA,eK];have h:=Ck (Nat.ne_of_gt (pX t));rcases ju b.natAbs with h0 | h0
 .rw[h0,eo];exact jJ (pX s) h
 .exact cM (sZ ha h0) (dz _ (mW hb))
theorem RwB.of{A:Nat}:∀{r:c4},(∀a∈r,Fit A a)->RwB (A*r.length+1) r
 | [],_=>⟨1,bY,by rw[bu,eo];decide,fun a ha=>absurd ha aT⟩
 | q::r,h=>by
   obtain⟨D,hD,hs,hN⟩:=RwB.of (r:=r) fun a ha=>h a (cg _ ha);have hq:=h q (cE ..);have hd:(q.den:Int)≠0:=by have:=q.den_nz;omega
   have hdl:((q.den:Int)).natAbs<2^A:=by rw[bj];exact hq.2
   have e:A*(q::r).length+1=A*r.length+1+A:=by rw[bB,Nat.mul_succ];omega
   rw[e];refine⟨D*q.den,TK hD hd,iw hs hdl,fun a ha=>?_⟩;rcases cp.1 ha with rfl | ha
   .refine⟨D*a.num,?_,iw hs hq.1⟩;have:=num_mul a;rw[nU,nU]
    grind
   .obtain⟨N,h1,h2⟩:=hN a ha;refine⟨N*q.den,?_,iw h2 hdl⟩;rw[nU,nU]
    grind
def uH{D:Int}{s:Nat}{r:c4}(h:∀a∈r,∃N:Int,a*(D:Rat)=(N:Rat)/\N.natAbs<2^s)(i:Nat):∃N:Int,r.getD i 0*(D:Rat)=(N:Rat)/\N.natAbs<2^s:=by
 rw[fI];cases hq:r[i]? with
 | none=>exact⟨0,by rw[BH];grind,pX s⟩
 | some x=>exact h x (dc hq)
def aA6{a b rk pk D E Na Nr Np Nb:Rat}(hp:pk≠0)(h1:a*D=Na)(h2:rk*D=Nr)(h3:pk*E=Np)(h4:b*E=Nb):(a-rk/pk*b)*(D*Np)=Na*Np-Nr*Nb:=by
 have:rk/pk*pk=rk:=jE hp;subst h1 h2 h3 h4;have e:(a-rk/pk*b)*(D*(pk*E))=a*D*(pk*E)-(rk/pk*pk)*D*(b*E):=b5
 rw[e,this]
def RwB.elim{s k:Nat}{p r:c4}(hp:RwB s p)(hr:RwB s r)(h0:p.getD k 0≠0):RwB (2*s+1) (eW k p r):=by
 by_cases hz:r.getD k 0=0
 .rw[eW,aF hz];exact hr.mono O
 obtain⟨D,hD,hDs,hN⟩:=hr;obtain⟨E,hE,hEs,hM⟩:=hp;obtain⟨Np,p1,p2⟩:=uH hM k;obtain⟨Nr,r1,r2⟩:=uH hN k
 have hNp:Np≠0:=fun e=>by
  rw[e]at p1;rcases jf.1 (p1.trans (show((0:Int):Rat)=0 from rfl))with h | h
  .exact h0 h
  .exact bC0 hE h
 have e:2^(2*s+1)=2^(s+s)+2^(s+s):=by rw[show 2*s+1=s+s+1 by omega,bw];omega
 refine⟨D*Np,TK hD hNp,by have:=iw hDs p2;omega,fun a ha=>?_⟩;obtain⟨i,hi,rfl⟩:=lu.1 ha;obtain⟨Na,a1,a2⟩:=uH hN i;obtain⟨Nb,b1,b2⟩:=uH hM i;have hi':i<r.length:=by rwa[jb]at hi
 have e1:(eW k p r)[i]=(eW k p r).getD i 0:=by rw[fI,bM hi];rfl
 rw[e1,nY hi'];have h1:=iw a2 p2;have h2:=iw r2 b2;split
 .exact⟨Na*Np,by rw[nU,nU,<-a1];grind,O⟩
 .refine⟨Na*Np-Nr*Nb,?_,O⟩;rw[nU,Rat.intCast_sub,nU,nU];exact aA6 h0 a1 r1 p1 b1
def TbB(L s:Nat)(rows:b9):Prop:=∀r∈rows,r.length=L/\RwB s r
def TbB.Zy{m L s:Nat}{rows:b9}(h:TbB L s rows)(hl:rows.length=m):vL m L s rows:=⟨hl,fun r hr=>⟨(h r hr).1,(h r hr).2.fit⟩⟩
def TbB.getD{L s:Nat}{rows:b9}(h:TbB L s rows){i:Nat}(hi:i<rows.length):(rows.getD i []).length=L/\RwB s (rows.getD i []):=by
 rw[fI,bM hi];exact h _ (rj hi)
def TbB.swap{L s k i:Nat}{rows:b9}(h:TbB L s rows)(hk:k<rows.length)(hi:i<rows.length):TbB L s (fT rows k i):=fun r hr=>by
 obtain⟨j,hj,rfl⟩:=lu.1 hr;have e1:(fT rows k i)[j]=(fT rows k i).getD j []:=by rw[fI,bM hj];rfl
 have hl:(fT rows k i).length=rows.length:=by rw[fT,al,al]
 rw[e1,gY hk hi];split
 .exact h.getD hk
 .split
  .exact h.getD hi
  .exact h.getD O
def TbB.elim{L s k:Nat}{rows:b9}(h:TbB L s rows)(hk:k<rows.length)(h0:(rows.getD k []).getD k 0≠0)(n:Nat):TbB L (2*s+1) (cj k rows n):=fun r hr=>by
 obtain⟨j,hj,rfl⟩:=lu.1 hr;have e1:(cj k rows n)[j]=(cj k rows n).getD j []:=by rw[fI,bM hj];rfl
 have hj':j<rows.length:=by rwa[fw]at hj
 rw[e1,iU hj'];split
 .exact⟨by rw[jb];exact(h.getD hj').1,(h.getD hk).2.elim (h.getD hj').2 h0⟩
 .exact⟨(h.getD hj').1,(h.getD hj').2.mono O⟩
open Go Go.Proofs Go.RowKit Tryz Ord
theorem UX.of2{m L G:Nat}:∀(f k s:Nat)(rows:b9),f+k=m->rows.length=m->TbB L s rows->2^f*(s+1)<=G->UX m L G f k rows
 | 0,k,s,rows,hk,hl,h,hs=>(h.Zy hl).mono O
 | f+1,k,s,rows,hk,hl,h,hs=>by
   have hf:=pX f;have e:2^(f+1)*(s+1)=2^f*(2*s+1+1):=by rw[bw,ej];congr 1
   rw[e]at hs;have h1:2*s+1+1<=2^f*(2*s+1+1):=Bn _ hf;refine⟨(h.Zy hl).mono O,fun i hi=>?_⟩;obtain⟨hki,h0⟩:=OA hl hi;have hsl:(fT rows k (k+i)).length=m:=by rw[fT,al,al,hl]
   refine UX.of2 f (k+1) (2*s+1) _ O (by rw[fw,hsl]) ?_ hs;refine(h.swap O O).elim O ?_ _;rw[gY];split
   .next e=>rw[<-e]at h0;exact h0
   .rw[aF rfl];exact h0
def UX.rows{m L A G:Nat}{rows:b9}(h:vL m L A rows)(hG:2^m*(A*L+2)<=G):UX m L G m 0 rows:=
 UX.of2 m 0 (A*L+1) rows rfl h.len (fun r hr=>⟨(h.row r hr).1,(h.row r hr).1▸RwB.of (h.row r hr).2⟩) hG
open Go Go.Proofs Tryz Ord
def wK(row:c4)(i r:Nat)(t sg:Rat):Nat->List Rat
 | 0=>row
 | k+1=>(wK row i r t sg k).set (4*i+k) ((wK row i r t sg k).getD (4*i+k) 0+sg*Bh t r k)
theorem nj(row:c4)(i r:Nat)(t sg:Rat):∀k,(wK row i r t sg k).length=row.length
 | 0=>rfl
 | k+1=>by rw[wK,al,nj row i r t sg k]
theorem EM(row:c4)(i r:Nat)(t sg:Rat)(j:Nat):∀k,4*i+k<=row.length->(wK row i r t sg k).getD j 0=if 4*i<=j/\j<4*i+k then row.getD j 0+sg*Bh t r (j-4*i)else row.getD j 0
 | 0,_=>by rw[aG O];rfl
 | k+1,h=>by
   rw[wK,dQ,nj];by_cases e:4*i+k=j
   .rw[aF ⟨e,O⟩,aF O,EM row i r t sg _ k O,aG O,<-e,show 4*i+k-4*i=k by omega]
   .rw[aG (fun h=>e h.1),EM row i r t sg j k O];by_cases h1:4*i<=j/\j<4*i+k
    .rw[aF h1,aF O]
    .rw[aG h1,aG O]
theorem bA6(row:c4)(i r:Nat)(t sg:Rat)(v:c8):∀k,4*i+k<=row.length->iJ (wK row i r t sg k) v=iJ row v+sg*sm (fun j=>Bh t r j*v (4*i+j)) k
 | 0,_=>by rw[wK,sm];grind
 | k+1,h=>by
   rw[wK,dq (by rw[nj];omega),bA6 row i r t sg v k O,sm];grind
def dE(r:Nat)(a b c d t:Rat):Rat:=match r with
 | 0=>a+b*t+c*t*t+d*t*t*t
 | 1=>b+2*c*t+3*d*t*t
 | _=>2*c+6*d*t
def aq9:rJ (we 0) 0=[1]/\rJ (we 1) 0=[0,1]/\rJ (we 2) 0=[0,0,1]/\rJ (we 3) 0=[0,0,0,1] /\
  rJ (we 0) 1=[]/\rJ (we 1) 1=[1]/\rJ (we 2) 1=[0,2]/\rJ (we 3) 1=[0,0,3] /\
  rJ (we 0) 2=[]/\rJ (we 1) 2=[]/\rJ (we 2) 2=[2]/\rJ (we 3) 2=[0,6]:=b7
def ca2{r:Nat}(hr:r<=2)(t:Rat)(w:c8):sm (fun j=>Bh t r j*w j) 4=dE r (w 0) (w 1) (w 2) (w 3) t:=by
 obtain⟨a0,a1,a2,a3,b0,b1,b2,b3,c0,c1,c2,c3⟩:=aq9;show 0+Bh t r 0*w 0+Bh t r 1*w 1+Bh t r 2*w 2+Bh t r 3*w 3=_
 match r,hr with
 | 0,_=>simp only[Bh,a0,a1,a2,a3,ak,cU,dE];grind
 | 1,_=>simp only[Bh,b0,b1,b2,b3,ak,cU,dE];grind
 | 2,_=>simp only[Bh,c0,c1,c2,c3,ak,cU,dE];grind
def Ys{t:Rat}(ht:Fit 40 t){r k:Nat}(hr:r<=2)(hk:k<4:=by omega):Fit 130 (Bh t r k):=by
 obtain⟨a0,a1,a2,a3,b0,b1,b2,b3,c0,c1,c2,c3⟩:=aq9;have f3:Fit 2 3:=by unfold Fit;decide
 have z:Fit 130 0:=Fit.zero O;have o:Fit 130 1:=CW O;have e1:Fit 130 t:=ht.mono O;have e2:Fit 130 (t*t):=(ht.mul ht).mono O;have e3:Fit 130 (t*t*t):=((ht.mul ht).mul ht).mono O;have e4:Fit 130 (2*t):=(ll.mul ht).mono O;have e5:Fit 130 (3*t*t):=((f3.mul ht).mul ht).mono O;have e6:Fit 130 (6*t):=(qE.mul ht).mono O;have e7:Fit 130 2:=ll.mono O
 match r,hr,k,hk with
 | 0,_,0,_=>rw[Bh,a0,ak,cU,show(0:Rat)*t+1=1 by grind];exact o
 | 0,_,1,_=>rw[Bh,a1,ak,ak,cU,show((0:Rat)*t+1)*t+0=t by grind];exact e1
 | 0,_,2,_=>rw[Bh,a2,ak,ak,ak,cU,show(((0:Rat)*t+1)*t+0)*t+0=t*t by grind];exact e2
 | 0,_,3,_=>rw[Bh,a3,ak,ak,ak,ak,cU,show((((0:Rat)*t+1)*t+0)*t+0)*t+0=t*t*t by grind];exact e3
 | 1,_,0,_=>rw[Bh,b0,cU];exact z
 | 1,_,1,_=>rw[Bh,b1,ak,cU,show(0:Rat)*t+1=1 by grind];exact o
 | 1,_,2,_=>rw[Bh,b2,ak,ak,cU,show((0:Rat)*t+2)*t+0=2*t by grind];exact e4
 | 1,_,3,_=>rw[Bh,b3,ak,ak,ak,cU,show(((0:Rat)*t+3)*t+0)*t+0=3*t*t by grind];exact e5
 | 2,_,0,_=>rw[Bh,c0,cU];exact z
 | 2,_,1,_=>rw[Bh,c1,cU];exact z
 | 2,_,2,_=>rw[Bh,c2,ak,cU,show(0:Rat)*t+2=2 by grind];exact e7
 | 2,_,3,_=>rw[Bh,c3,ak,ak,cU,show((0:Rat)*t+6)*t+0=6*t by grind];exact e6
def Tg{row:c4}{i r A:Nat}{t sg:Rat}(hl:4*i+4<=row.length)(hA:1<=A)(hf:∀a∈row,Fit A a)(ht:Fit 40 t)(hs:Fit 1 sg)(hr:r<=2):∀a∈wK row i r t sg 4,Fit (A+132) a:=fun a ha=>by
 obtain⟨j,hj,rfl⟩:=lu.1 ha;have e1:(wK row i r t sg 4)[j]=(wK row i r t sg 4).getD j 0:=by rw[fH,bM hj];rfl
 rw[e1,EM row i r t sg j 4 hl];have h:=ko hA hf j;split
 .exact(h.add (hs.mul (Ys ht hr))).mono O
 .exact h.mono O
def pd(v:c8)(i r:Nat)(t:Rat):Rat:=dE r (v (4*i)) (v (4*i+1)) (v (4*i+2)) (v (4*i+3)) t
def ab5{row:c4}{i r:Nat}{t sg:Rat}(hl:4*i+4<=row.length)(hr:r<=2)(v:c8):iJ (wK row i r t sg 4) v=iJ row v+sg*pd v i r t:=by
 rw[bA6 row i r t sg v 4 hl,ca2 hr t (fun j=>v (4*i+j))];rfl
def tB(x:c4):List Rat:=List.replicate (4*(x.length-1)) 0
def oc(x:c4):(tB x).length=4*(x.length-1):=dU
def cuP(x y:c4)(i:Nat):List (List Rat×Rat):=[(wK (tB x) i 0 (x.getD i 0) 1 4,y.getD i 0),(wK (tB x) i 0 (x.getD (i+1) 0) 1 4,y.getD (i+1) 0)]
def cd2(x:c4)(i j r:Nat)(s t:Rat):List Rat:=wK (wK (tB x) i r s 1 4) j r t (-1) 4
def cuJ(x:c4)(i:Nat):List (List Rat×Rat):=[(cd2 x (i+1) i 1 (x.getD (i+1) 0) (x.getD (i+1) 0),0),(cd2 x (i+1) i 2 (x.getD (i+1) 0) (x.getD (i+1) 0),0)]
def cuE(x:c4)(k:Nat)(a b:Rat):List (List Rat×Rat):=match k with
 | 0=>[(wK (tB x) 0 2 (x.getD 0 0) 1 4,0),(wK (tB x) (x.length-2) 2 (x.getD (x.length-1) 0) 1 4,0)]
 | 1=>[(wK (tB x) 0 1 (x.getD 0 0) 1 4,a),(wK (tB x) (x.length-2) 1 (x.getD (x.length-1) 0) 1 4,b)]
 | _=>[(cd2 x 0 (x.length-2) 1 (x.getD 0 0) (x.getD (x.length-1) 0),0),(cd2 x 0 (x.length-2) 2 (x.getD 0 0) (x.getD (x.length-1) 0),0)]
def cuR(x y:c4)(k:Nat)(a b:Rat):List (List Rat×Rat):=(List.range (x.length-1)).flatMap (cuP x y)++(List.range (x.length-2)).flatMap (cuJ x)++cuE x k a b
def cuT(x y:c4)(k:Nat)(a b:Rat):List (List Rat):=(cuR x y k a b).map fun p=>p.1++[p.2]
theorem aU4{α:Type}{f:Nat->List α}(hf:∀i,(f i).length=2):∀n,((List.range n).flatMap f).length=2*n
 | 0=>rfl
 | n+1=>by rw[gy,TD,cF,aU4 hf n,uU,TY,cB,hf];omega
def bl6{x y:c4}{k:Nat}{a b:Rat}(h2:2<=x.length):(cuR x y k a b).length=4*(x.length-1):=by
 have h3:(cuE x k a b).length=2:=by unfold cuE;split<;>rfl
 rw[cuR,cF,cF,aU4 (fun _=>rfl),aU4 (fun _=>rfl),h3];omega
def bB9{x:c4}(hx:∀a∈x,Fit 40 a){i r:Nat}{t sg:Rat}(hi:i+1<x.length)(hr:r<=2)(ht:Fit 40 t)(hs:Fit 1 sg):(wK (tB x) i r t sg 4).length=4*(x.length-1)/\∀a∈wK (tB x) i r t sg 4,Fit 133 a:=
 ⟨by rw[nj,oc],Tg (A:=1) (by rw[oc];omega) O (pG O) ht hs hr⟩
def TR{x:c4}(hx:∀a∈x,Fit 40 a){i j r:Nat}{s t:Rat}(hs:Fit 40 s)(ht:Fit 40 t)(hi:i+1<x.length:=by omega)(hj:j+1<x.length:=by omega)(hr:r<=2:=by omega):(cd2 x i j r s t).length=4*(x.length-1)/\∀a∈cd2 x i j r s t,Fit 265 a:=by
 obtain⟨h1,h2⟩:=bB9 (i:=i) (sg:=1) hx hi hr hs (CW O);exact⟨by rw[cd2,nj,h1],Tg (by rw[h1];omega) O h2 ht (Fit.int (n:=-1) O b7) hr⟩
def bS1{x y:c4}{k:Nat}{a b:Rat}(h2:2<=x.length)(hx:∀a∈x,Fit 40 a)(hy:∀a∈y,Fit 40 a)(ha:Fit 40 a)(hb:Fit 40 b):∀p∈cuR x y k a b,(p.1.length=4*(x.length-1)/\∀q∈p.1,Fit 265 q)/\Fit 265 p.2:=fun p hp=>by
 have o:Fit 1 1:=CW O;have z:Fit 265 0:=Fit.zero O;have fx:=fun i=>ko (A:=40) O hx i;have fy:=fun i=>ko (A:=40) O hy i
 have one:∀{i r:Nat}{t c:Rat},i+1<x.length->r<=2->Fit 40 t->Fit 265 c->((wK (tB x) i r t 1 4).length=4*(x.length-1)/\∀q∈wK (tB x) i r t 1 4,Fit 265 q)/\Fit 265 c:=fun hi hr ht hc=>by
  obtain⟨h1,h2⟩:=bB9 hx hi hr ht o;exact⟨⟨h1,fun q hq=>(h2 q hq).mono O⟩,hc⟩
 rw[cuR]at hp;rcases dx.1 hp with hp | hp
 .rcases dx.1 hp with hp | hp
  .obtain⟨i,hi,hp⟩:=uX.1 hp;have hi:=fO.1 hi;simp only[cuP,cp,iZ,iQ]at hp;rcases hp with rfl | rfl
   .exact one O O (fx _) ((fy _).mono O)
   .exact one O O (fx _) ((fy _).mono O)
  .obtain⟨i,hi,hp⟩:=uX.1 hp;have hi:=fO.1 hi;simp only[cuJ,cp,iZ,iQ]at hp;rcases hp with rfl | rfl
   .exact⟨TR hx (fx _) (fx _),z⟩
   .exact⟨TR hx (fx _) (fx _),z⟩
 .unfold cuE at hp;split at hp<;>simp only[cp,iZ,iQ]at hp<;>rcases hp with rfl | rfl
  .exact one O O (fx _) z
  .exact one O O (fx _) z
  .exact one O O (fx _) (ha.mono O)
  .exact one O O (fx _) (hb.mono O)
  .exact⟨TR hx (fx _) (fx _),z⟩
  .exact⟨TR hx (fx _) (fx _),z⟩
def aj9{x y:c4}{k:Nat}{a b:Rat}(h2:2<=x.length)(hx:∀a∈x,Fit 40 a)(hy:∀a∈y,Fit 40 a)(ha:Fit 40 a)(hb:Fit 40 b):vL (4*(x.length-1)) (4*(x.length-1)+1) 265 (cuT x y k a b):=
 ⟨by rw[cuT,aL,bl6 h2],fun r hr=>by
  obtain⟨p,hp,rfl⟩:=dm.1 hr;obtain⟨⟨h1,h2⟩,h3⟩:=bS1 h2 hx hy ha hb p hp;refine⟨by rw[cF,h1];rfl,fun q hq=>?_⟩;rcases dx.1 hq with hq | hq
  .exact h2 q hq
  .rw[da.1 hq];exact h3⟩
def Bk{rows:b9}{v:c8}:Ax rows v↔∀r∈rows,iJ r v=0:=by
 refine⟨fun h r hr=>?_,fun h i hi=>?_⟩
 .obtain⟨i,hi,rfl⟩:=lu.1 hr;have:=h i hi
  rwa[fH,bM hi]at this
 .rw[fH,bM hi];exact h _ (rj hi)
def VO(r:c4)(c:Rat)(v:c8):iJ (r++[c]) v=iJ r v+c*v r.length:=by
 unfold iJ;rw[cF,bB,bu,bW,sm]
 congr 1
 .exact wX _ fun i hi=>by rw[fH,ek hi,<-fH]
 .rw[fH,fi (ah _),fE];rfl
def CuE(x:c4)(k:Nat)(a b:Rat)(v:c8):Prop:=match k with
 | 0=>pd v 0 2 (x.getD 0 0)=0/\pd v (x.length-2) 2 (x.getD (x.length-1) 0)=0
 | 1=>pd v 0 1 (x.getD 0 0)+a*v (4*(x.length-1))=0/\pd v (x.length-2) 1 (x.getD (x.length-1) 0)+b*v (4*(x.length-1))=0
 | _=>pd v 0 1 (x.getD 0 0)=pd v (x.length-2) 1 (x.getD (x.length-1) 0)/\pd v 0 2 (x.getD 0 0)=pd v (x.length-2) 2 (x.getD (x.length-1) 0)
structure CuC(x y:c4)(k:Nat)(a b:Rat)(v:c8):Prop where
 l:∀i,i+1<x.length->pd v i 0 (x.getD i 0)+y.getD i 0*v (4*(x.length-1))=0
 r:∀i,i+1<x.length->pd v i 0 (x.getD (i+1) 0)+y.getD (i+1) 0*v (4*(x.length-1))=0
 j1:∀i,i+2<x.length->pd v (i+1) 1 (x.getD (i+1) 0)=pd v i 1 (x.getD (i+1) 0)
 j2:∀i,i+2<x.length->pd v (i+1) 2 (x.getD (i+1) 0)=pd v i 2 (x.getD (i+1) 0)
 e:CuE x k a b v
section
variable{x y:c4}{k:Nat}{a b:Rat}{v:c8}
def vE{i r:Nat}{t c:Rat}(hi:i+1<x.length:=by omega)(hr:r<=2:=by omega):iJ (wK (tB x) i r t 1 4++[c]) v=pd v i r t+c*v (4*(x.length-1)):=by
 rw[VO,ab5 (by rw[oc];omega) hr,nj,oc,tB,mo];grind
def EJ{i j r:Nat}{s t c:Rat}(hi:i+1<x.length:=by omega)(hj:j+1<x.length:=by omega)(hr:r<=2:=by omega):iJ (cd2 x i j r s t++[c]) v=pd v i r s-pd v j r t+c*v (4*(x.length-1)):=by
 rw[VO,cd2,ab5 (by rw[nj,oc];omega) hr,ab5 (by rw[oc];omega) hr,nj,nj,oc,tB,mo];grind
def Ul(h2:2<=x.length):Ax (cuT x y k a b) v↔CuC x y k a b v:=by
 rw[Bk]
 have hm:(∀r∈cuT x y k a b,iJ r v=0)↔∀p∈cuR x y k a b,iJ (p.1++[p.2]) v=0:=by
  rw[cuT];exact⟨fun h p hp=>h _ (sH hp),fun h r hr=>by obtain⟨p,hp,rfl⟩:=dm.1 hr;exact h p hp⟩
 rw[hm];have hP:∀i,i+1<x.length->∀p∈cuP x y i,p∈cuR x y k a b:=fun i hi p hp=>gV _ (gV _ (uX.2 ⟨i,fO.2 O,hp⟩));have hJ:∀i,i+2<x.length->∀p∈cuJ x i,p∈cuR x y k a b:=fun i hi p hp=>gV _ (ke _ (uX.2 ⟨i,fO.2 O,hp⟩));have hE:∀p∈cuE x k a b,p∈cuR x y k a b:=fun p hp=>ke _ hp
 constructor
 .intro h;refine⟨fun i hi=>?_,fun i hi=>?_,fun i hi=>?_,fun i hi=>?_,?_⟩
  .have:=h _ (hP i hi _ (cE ..));rwa[vE hi]at this
  .have:=h _ (hP i hi _ (cg _ (cE ..)));rwa[vE hi]at this
  .have:=h _ (hJ i hi _ (cE ..));rw[EJ]at this;grind
  .have:=h _ (hJ i hi _ (cg _ (cE ..)));rw[EJ]at this;grind
  .match k,hE with
   | 0,hE=>
     have e1:=h _ (hE _ (cE ..));have e2:=h _ (hE _ (cg _ (cE ..)));rw[vE]at e1 e2;exact⟨b5,b5⟩
   | 1,hE=>
     have e1:=h _ (hE _ (cE ..));have e2:=h _ (hE _ (cg _ (cE ..)));rw[vE]at e1 e2;exact⟨e1,e2⟩
   | k+2,hE=>
     have e1:=h _ (hE _ (cE ..));have e2:=h _ (hE _ (cg _ (cE ..)));rw[EJ]at e1 e2;exact⟨b5,b5⟩
 .intro C p hp;rw[cuR]at hp;rcases dx.1 hp with hp | hp
  .rcases dx.1 hp with hp | hp
   .obtain⟨i,hi,hp⟩:=uX.1 hp;have hi:=fO.1 hi;simp only[cuP,cp,iZ,iQ]at hp;rcases hp with rfl | rfl
    .rw[vE];exact C.l i O
    .rw[vE];exact C.r i O
   .obtain⟨i,hi,hp⟩:=uX.1 hp;have hi:=fO.1 hi;have h1:=C.j1 i O;have h2:=C.j2 i O;simp only[cuJ,cp,iZ,iQ]at hp;rcases hp with rfl | rfl
    .rw[EJ];grind
    .rw[EJ];grind
  .have he:=C.e
   match k,hp,he with
   | 0,hp,he=>
     obtain⟨e1,e2⟩:=he;simp only[cuE,cp,iZ,iQ]at hp;rcases hp with rfl | rfl
     .rw[vE,e1];grind
     .rw[vE,e2];grind
   | 1,hp,he=>
     obtain⟨e1,e2⟩:=he;simp only[cuE,cp,iZ,iQ]at hp;rcases hp with rfl | rfl
     .rw[vE];exact e1
     .rw[vE];exact e2
   | k+2,hp,he=>
     obtain⟨e1,e2⟩:=he;simp only[cuE,cp,iZ,iQ]at hp;rcases hp with rfl | rfl
     .rw[EJ,e1];grind
     .rw[EJ,e2];grind
def bq9{a b c d s t:Rat}(hst:t-s≠0)(h1:dE 0 a b c d s=0)(h2:dE 0 a b c d t=0) :
  dE 1 a b c d s*6=-((t-s)*(2*dE 2 a b c d s+dE 2 a b c d t))/\dE 1 a b c d t*6=(t-s)*(dE 2 a b c d s+2*dE 2 a b c d t) /\
  (dE 2 a b c d s=0->dE 2 a b c d t=0->a=0/\b=0/\c=0/\d=0):=by
 simp only[dE]at *;have h3:(t-s)*(b+c*(s+t)+d*(s*s+s*t+t*t))=0:=b5
 have h4:b+c*(s+t)+d*(s*s+s*t+t*t)=0:=(jf.1 h3).resolve_left hst;have hb:b=-(c*(s+t))-d*(s*s+s*t+t*t):=b5
 refine⟨by rw[hb];grind,by rw[hb];grind,fun e1 e2=>?_⟩;have h5:(t-s)*d=0:=b5
 have hd:d=0:=(jf.1 h5).resolve_left hst;subst hd;have hc:c=0:=b5
 subst hc;have hb0:b=0:=by rw[hb];grind
 subst hb0;exact⟨b5,rfl,rfl,rfl⟩
def zD{r1 r2:c4}(h2:2<=x.length)(h:∀i,i+2<x.length->(dX x).getD i 0*v i+((dX x).getD i 0+(dX x).getD (i+1) 0)*2*v (i+1)+(dX x).getD (i+1) 0*v (i+2)+((cD x y).getD (i+1) 0-(cD x y).getD i 0)*6*v x.length=0)(h3:iJ r1 v=0)(h4:iJ r2 v=0):Ax (sM x y r1 r2) v:=fun i hi=>by
 rw[oY h2]at hi;by_cases e:i+2<x.length
 .rw[Te h2 e,Vl O O];exact h i e
 .by_cases e2:i+2=x.length
  .rw[show i=x.length-2 by omega,Zw h2];exact h3
  .rw[show i=x.length-1 by omega,ae8 h2];exact h4
def Yi(h2:2<=x.length)(h3:2<=k->3<=x.length)(hr:kj true x=true)(C:CuC x y k a b v)(hv:v (4*(x.length-1))=0):∀j,j<4*(x.length-1)->v j=0:=by
 obtain⟨M,hM⟩:∃M:Nat->Rat,M=fun j=>if j+1<x.length then pd v j 2 (x.getD j 0)else if j+1=x.length then pd v (x.length-2) 2 (x.getD (x.length-1) 0)else 0:=⟨_,rfl⟩
 have m1:∀i,i+1<x.length->pd v i 2 (x.getD i 0)=M i:=fun i hi=>by rw[hM];show _=ite _ _ _;rw[aF hi]
 have ml:M (x.length-1)=pd v (x.length-2) 2 (x.getD (x.length-1) 0):=by rw[hM];show ite _ _ _=_;rw[aG O,aF O]
 have m2:∀i,i+1<x.length->pd v i 2 (x.getD (i+1) 0)=M (i+1):=fun i hi=>by
  by_cases e:i+2<x.length
  .rw[<-C.j2 i e,m1 (i+1) e]
  .rw[show i+1=x.length-1 by omega,ml,show i=x.length-2 by omega]
 have mn:M x.length=0:=by rw[hM];show ite _ _ _=_;rw[aG O,aG O]
 have hn:∀i,i+1<x.length->x.getD (i+1) 0-x.getD i 0≠0:=fun i hi=>wne hr hi;have ce:=fun i (hi:i+1<x.length)=>bq9 (a:=v (4*i)) (b:=v (4*i+1)) (c:=v (4*i+2)) (d:=v (4*i+3)) (hn i hi) (by have:=C.l i hi;rw[hv]at this;show pd v i 0 _=0;grind) (by have:=C.r i hi;rw[hv]at this;show pd v i 0 _=0;grind);have s1:∀i,i+1<x.length->pd v i 1 (x.getD i 0)*6=-((dX x).getD i 0*(2*M i+M (i+1))):=fun i hi=>by rw[vP x hi,<-m1 i hi,<-m2 i hi];exact(ce i hi).1
 have s2:∀i,i+1<x.length->pd v i 1 (x.getD (i+1) 0)*6=(dX x).getD i 0*(M i+2*M (i+1)):=fun i hi=>by rw[vP x hi,<-m1 i hi,<-m2 i hi];exact(ce i hi).2.1
 have inn:∀i,i+2<x.length->(dX x).getD i 0*M i+((dX x).getD i 0+(dX x).getD (i+1) 0)*2*M (i+1)+(dX x).getD (i+1) 0*M (i+2)+((cD x y).getD (i+1) 0-(cD x y).getD i 0)*6*M x.length=0:=fun i hi=>by
  have e1:=s2 i O;have e2:=s1 (i+1) hi;rw[C.j1 i hi,e1]at e2;rw[mn];grind
 have z0:x.length-2+1=x.length-1:=O
 have f1:=s1 0 O;have f2:=s2 (x.length-2) O;rw[z0]at f2
 have hz:∀j,j<x.length->M j=0:=by
  have he:=C.e
  match k,he,h3 with
  | 0,he,_=>
    obtain⟨e1,e2⟩:=he;refine XC (y:=y) h2 hr M mn ?_;rw[ba0];exact zD h2 inn (by rw[RZ O,<-m1 0 O];exact e1) (by rw[RZ O,ml];exact e2)
  | 1,he,_=>
    obtain⟨e1,e2⟩:=he;rw[hv]at e1 e2;refine VT (y:=y) h2 hr a b M mn ?_;rw[ba4];exact zD h2 inn (by rw[ad5 h2,mn];grind) (by rw[Zs h2,mn];grind)
  | k+2,he,h3=>
    obtain⟨e1,e2⟩:=he;have h3:=h3 O;refine Xn (y:=y) h3 hr M mn ?_;rw[qk];refine zD h2 inn (by rw[aP2 h3,mn];grind) ?_;rw[aK1 h3,ml,<-m1 0 O,e2];grind
 intro j hj;have hi:j/4+1<x.length:=O
 obtain⟨c0,c1,c2,c3⟩:=(ce (j/4) hi).2.2 (by have:=m1 _ hi;rw[hz _ O]at this;exact this) (by have:=m2 _ hi;rw[hz _ O]at this;exact this);rcases(show j=4*(j/4)\/j=4*(j/4)+1\/j=4*(j/4)+2\/j=4*(j/4)+3 by omega)with e | e | e | e<;>rw[e]<;>assumption
def bF8(h2:2<=x.length)(h3:2<=k->3<=x.length)(hx:∀a∈x,Fit 40 a)(hy:∀a∈y,Fit 40 a)(ha:Fit 40 a)(hb:Fit 40 b)(hr:kj true x=true)(C:CuC x y k a b v)(hv:v (4*(x.length-1))=-1) :
  ∃sol,fQ (cuT x y k a b)=some sol/\sol.length=4*(x.length-1)/\∀j,j<4*(x.length-1)->sol.getD j 0=v j:=by
 have T:=aj9 (k:=k) h2 hx hy ha hb;obtain⟨sol,e1,e2,e3⟩:=qH T.len (fun i hi=>by obtain⟨r,_,h1,h2,_⟩:=T.get hi;rw[h1];exact h2) fun w hw hN=>Yi h2 h3 hr ((Ul h2).1 hN) hw;refine⟨sol,e1,e2,fun j hj=>?_⟩
 have hN:Ax (cuT x y k a b) (fun j=>v j-1*ym (4*(x.length-1)) sol j):=Bk.2 fun r hr=>by
  have h1:=Bk.1 ((Ul h2).2 C) r hr;have h2:=Bk.1 e3 r hr;unfold iJ at *;have h:=Sh (fun j=>r.getD j 0*v j) (fun j=>r.getD j 0*ym (4*(x.length-1)) sol j) 1 r.length;rw[h1,h2]at h;rw[<-wX r.length (fun i _=>(show r.getD i 0*v i-1*(r.getD i 0*ym (4*(x.length-1)) sol i)=r.getD i 0*(v i-1*ym (4*(x.length-1)) sol i) by grind)),h];grind
 have:=Yi h2 h3 hr ((Ul h2).1 hN) (by show v _-1*ym _ _ _=0;rw[hv,Gn];grind) j hj;have this:v j-1*ym (4*(x.length-1)) sol j=0:=this;rw[ij sol hj]at this
 grind
def Ya(n:Nat)(P:Nat->List Rat)(j:Nat):Rat:=if j=4*n then -1 else(P (j/4)).getD (j%4) 0
def uC{n i j:Nat}{P:Nat->List Rat}(hi:i<n)(hj:j<4:=by omega):Ya n P (4*i+j)=(P i).getD j 0:=by
 rw[Ya,aG O,show(4*i+j)/4=i by omega,show(4*i+j)%4=j by omega]
def Yv(a b c d:Rat):(pD a b c d).getD 0 0=a/\(pD a b c d).getD 1 0=b/\(pD a b c d).getD 2 0=c/\(pD a b c d).getD 3 0=d:=by
 unfold pD;exact⟨gw _ _,gw _ _,gw _ _,gw _ _⟩
def bG8{p:c4}(h:∃a b c d,p=pD a b c d):trim [p.getD 0 0,p.getD 1 0,p.getD 2 0,p.getD 3 0]=p:=by
 obtain⟨a,b,c,d,rfl⟩:=h;obtain⟨h0,h1,h2,h3⟩:=Yv a b c d;rw[h0,h1,h2,h3];rfl
def Sa{n i:Nat}{P:Nat->List Rat}(hi:i<n)(h:∃a b c d,P i=pD a b c d)(t:Rat):pd (Ya n P) i 0 t=ev (P i) t/\pd (Ya n P) i 1 t=ev (mU (P i)) t/\pd (Ya n P) i 2 t=ev (mU (mU (P i))) t:=by
 have h0:Ya n P (4*i)=(P i).getD 0 0:=uC (j:=0) hi;unfold pd;rw[h0,uC hi,uC hi,uC hi];obtain⟨a,b,c,d,e⟩:=h;rw[e];obtain⟨h0,h1,h2,h3⟩:=Yv a b c d;rw[h0,h1,h2,h3,sJ,sJ,fJ,fJ,fJ];refine⟨rfl,?_,?_⟩<;>simp only[dE]<;>grind
def rK(x y m:c4)(i:Nat):∃a b c d,jG x y m i=pD a b c d:=⟨_,_,_,_,um x y m i⟩
def bY3{m:c4}(D:wI x y)(he:vF x y m)(hE:CuE x k a b (Ya (x.length-1) (jG x y m))):CuC x y k a b (Ya (x.length-1) (jG x y m)):=by
 have hv:Ya (x.length-1) (jG x y m) (4*(x.length-1))=-1:=aF rfl;have P:=fun i (hi:i<x.length-1) t=>Sa hi (rK x y m i) t;refine⟨fun i hi=>?_,fun i hi=>?_,fun i hi=>?_,fun i hi=>?_,hE⟩
 .rw[(P i O _).1,hv,bf0 D.hr D.hxy hi];grind
 .rw[(P i O _).1,hv,aL3 D.hr D.hxy hi];grind
 .rw[(P i O _).2.1,(P (i+1) O _).2.1,aS9 D.hr D.hxy hi (he i hi)]
 .rw[(P i O _).2.2,(P (i+1) O _).2.2,zG D.hr D.hxy O,Dq D.hr D.hxy O]
def bm7{m:c4}(D:wI x y)(h0:m.getD 0 0=0)(hn:m.getD (x.length-1) 0=0):CuE x 0 a b (Ya (x.length-1) (jG x y m)):=by
 have h2:=D.h2;have z0:x.length-2+1=x.length-1:=O
 have P:=fun i (hi:i<x.length-1) t=>Sa hi (rK x y m i) t;have h1:=zG (m:=m) D.hr D.hxy (show x.length-2+1<x.length by omega);rw[z0]at h1;exact⟨by rw[(P 0 O _).2.2,Dq D.hr D.hxy O,h0],by rw[(P (x.length-2) O _).2.2,h1,hn]⟩
def bf5{m:c4}(D:wI x y)(e1:(dX x).getD 0 0*2*m.getD 0 0+(dX x).getD 0 0*m.getD 1 0=((cD x y).getD 0 0-a)*6)
  (e2:(dX x).getD (x.length-2) 0*m.getD (x.length-2) 0+(dX x).getD (x.length-2) 0*2*m.getD (x.length-1) 0=(b-(cD x y).getD (x.length-2) 0)*6):CuE x 1 a b (Ya (x.length-1) (jG x y m)):=by
 have h2:=D.h2;have z0:x.length-2+1=x.length-1:=O
 have hv:Ya (x.length-1) (jG x y m) (4*(x.length-1))=-1:=aF rfl;have P:=fun i (hi:i<x.length-1) t=>Sa hi (rK x y m i) t;have h1:=zh (m:=m) D.hr D.hxy (show x.length-2+1<x.length by omega);rw[z0]at h1;exact⟨by rw[(P 0 O _).2.1,HA D.hr D.hxy O,hv,cvB];grind,by rw[(P (x.length-2) O _).2.1,h1,hv];grind⟩
def be5{m:c4}(D:wI x y)(e1:m.getD 0 0=m.getD (x.length-1) 0)
  (e2:(dX x).getD 0 0*2*m.getD 0 0+(dX x).getD 0 0*m.getD 1 0+(dX x).getD (x.length-2) 0*m.getD (x.length-2) 0+(dX x).getD (x.length-2) 0*2*m.getD (x.length-1) 0=((cD x y).getD 0 0-(cD x y).getD (x.length-2) 0)*6):CuE x 2 a b (Ya (x.length-1) (jG x y m)):=by
 have h2:=D.h2;have z0:x.length-2+1=x.length-1:=O
 have P:=fun i (hi:i<x.length-1) t=>Sa hi (rK x y m i) t;have h1:=zh (m:=m) D.hr D.hxy (show x.length-2+1<x.length by omega);have h3:=zG (m:=m) D.hr D.hxy (show x.length-2+1<x.length by omega);rw[z0]at h1 h3;exact⟨by rw[(P 0 O _).2.1,(P (x.length-2) O _).2.1,h1,HA D.hr D.hxy O,cvB];grind,by rw[(P 0 O _).2.2,(P (x.length-2) O _).2.2,h3,Dq D.hr D.hxy O,e1]⟩
end
end Go.Sy
