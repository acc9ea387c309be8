/- Part. -/
import Derived.Test.YtacgmapjhpghkaaGreatDoorWe
set_option linter.all false
namespace Go.Sy
open Ord
def sm(f:Nat->Rat):Nat->Rat
 | 0=>0
 | n+1=>sm f n+f n
theorem BV{f g:Nat->Rat}:∀n,(∀i,i<n->f i=g i)->sm f n=sm g n
 | 0,_=>rfl
 | n+1,h=>by rw[sm,sm,BV n fun i hi=>h i (by omega),h n (by omega)]
theorem Qm{f:Nat->Rat}:∀n,(∀i,i<n->f i=0)->sm f n=0
 | 0,_=>rfl
 | n+1,h=>by rw[sm,Qm n fun i hi=>h i (by omega),h n (by omega)];grind
theorem ay4(f g:Nat->Rat)(a:Rat):∀n,sm (fun i=>f i-a*g i) n=sm f n-a*sm g n
 | 0=>by simp only[sm];grind
 | n+1=>by rw[sm,sm,sm,ay4 f g a n];grind
theorem aG0{f:Nat->Rat}{k:Nat}:∀{n},k<n->(∀i,i<n->i≠k->f i=0)->sm f n=f k
 | 0,h,_=>by omega
 | n+1,hk,h=>by
   rw[sm];by_cases e:k=n
   ·subst e;rw[Qm k fun i hi=>h i (by omega) (by omega)];grind
   ·rw[aG0 (n:=n) (by omega) fun i hi=>h i (by omega),h n (by omega) (by omega)];grind
theorem WW{f:Nat->Rat}{j k:Nat}(hj:j<k):∀{n},k<n->(∀i,i<n->i≠j->i≠k->f i=0)->sm f n=f j+f k
 | 0,h,_=>by omega
 | n+1,hk,h=>by
   rw[sm];by_cases e:k=n
   ·subst e;rw[aG0 hj fun i hi h1=>h i (by omega) h1 (by omega)]
   ·rw[WW hj (n:=n) (by omega) fun i hi=>h i (by omega),h n (by omega) (by omega) (by omega)];grind
def yH(r:List Rat)(v:Nat->Rat):Rat:=sm (fun j=>r.getD j 0*v j) r.length
def Vt(rows:List (List Rat))(v:Nat->Rat):Prop:=∀i,i<rows.length->yH (rows.getD i []) v=0
theorem jC{α:Type}{l:List α}{i:Nat}{d:α}:l.getD i d=(l[i]?).getD d:=ew
theorem iY{rows:List (List Rat)}{k i j:Nat}(hk:k<rows.length:=by omega)(hi:i<rows.length:=by omega):(iH rows k i).getD j []=if j=i then rows.getD k []else if j=k then rows.getD i []else rows.getD j []:=by
 rw[iH,jC,oE,bH];by_cases h:i=j
 ·rw[aD h,aD hi,aD h.symm];rfl
 ·rw[aH h,aH (gB h),oE];by_cases h2:k=j
  ·rw[aD h2,aD hk,aD h2.symm];rfl
  ·rw[aH h2,aH (gB h2),<-jC]
theorem iw{k:Nat}{rows:List (List Rat)}{n j:Nat}(hj:j<rows.length):(cu k rows n).getD j []=if j<n/\j≠k then ez k (rows.getD k []) (rows.getD j [])else rows.getD j []:=by
 have h1:rows[j]?=some (rows.getD j []):=by rw[jC,bB hj];rfl
 rw[jC,ff,h1];rfl
theorem pW{k:Nat}{p r:List Rat}{i:Nat}(hi:i<r.length):(ez k p r).getD i 0=if r.getD k 0=0\/i<k then r.getD i 0 else r.getD i 0-r.getD k 0/p.getD k 0*p.getD i 0:=by
 unfold ez;by_cases h:r.getD k 0=0
 ·rw[aD h,aD (.inl h)]
 ·rw[aH h];have h1:r[i]?=some (r.getD i 0):=by rw[jC,bB hi];rfl
  rw[jC,nV,h1,cJ,fY];by_cases h2:i<k
  ·rw[aH (by omega),aD (.inr h2)]
  ·rw[aD ⟨by omega,hi⟩,aH (by intro h3;rcases h3 with h3 | h3;exact h h3;exact h2 h3)]
structure GJ(n k:Nat)(rows:List (List Rat)):Prop where
 len:rows.length=n
 row:∀i,i<n->(rows.getD i []).length=n+1
 off:∀c,c<k->∀i,i<n->i≠c->(rows.getD i []).getD c 0=0
 dia:∀c,c<k->(rows.getD c []).getD c 0≠0
theorem GJ.swap{n k i:Nat}{rows:List (List Rat)}(h:GJ n k rows)(hk:k<n)(hi:i<n)(hki:k<=i):GJ n k (iH rows k i):=by
 have hl:=h.len;refine⟨(mP _ _ _).trans hl,fun j hj=>?_,fun c hc j hj hjc=>?_,fun c hc=>?_⟩
 ·rw[iY];split
  ·exact h.row k hk
  ·split
   ·exact h.row i hi
   ·exact h.row j hj
 ·rw[iY];split
  ·exact h.off c hc k hk (by omega)
  ·split
   ·exact h.off c hc i hi (by omega)
   ·exact h.off c hc j hj hjc
 ·rw[iY,aH (by omega),aH (by omega)];exact h.dia c hc
theorem GJ.elim{n k:Nat}{rows:List (List Rat)}(h:GJ n k rows)(hk:k<n)(hp:(rows.getD k []).getD k 0≠0):GJ n (k+1) (cu k rows n):=by
 have hl:=h.len
 have key:∀j,j<n->∀c,c<k->((cu k rows n).getD j []).getD c 0=(rows.getD j []).getD c 0:=fun j hj c hc=>by
  rw[iw (by omega)];split
  ·rw[pW (by rw[h.row j hj];omega),aD (.inr hc)]
  ·rfl
 refine⟨(ig _ _ _).trans hl,fun j hj=>?_,fun c hc j hj hjc=>?_,fun c hc=>?_⟩
 ·rw[iw (by omega)];split
  ·rw[nU];exact h.row j hj
  ·exact h.row j hj
 ·by_cases e:c=k
  ·subst e;rw[iw (by omega),aD ⟨hj,hjc⟩,pW (by rw[h.row j hj];omega)];split
   ·rename_i h1;rcases h1 with h1 | h1
    ·exact h1
    ·omega
   ·rw[mS hp];grind
  ·rw[key j hj c (by omega)];exact h.off c (by omega) j hj hjc
 ·by_cases e:c=k
  ·subst e;rw[iw (by omega),aH (by omega)];exact hp
  ·rw[key c (by omega) c (by omega)];exact h.dia c (by omega)
theorem af0{k:Nat}{p r:List Rat}{v:Nat->Rat}(hl:p.length=r.length)(h0:∀c,c<k->p.getD c 0=0):yH (ez k p r) v=yH r v-(if r.getD k 0=0 then 0 else r.getD k 0/p.getD k 0)*yH p v:=by
 unfold yH;rw[nU,hl,<-ay4];refine BV _ fun i hi=>?_;rw[pW hi];by_cases h1:r.getD k 0=0
 ·rw[aD (.inl h1),aD h1];grind
 ·rw[aH h1];by_cases h2:i<k
  ·rw[aD (.inr h2),h0 i h2];grind
  ·rw[aH (by intro h3;rcases h3 with h3 | h3;exact h1 h3;exact h2 h3)];grind
theorem Vt.swap{n k i:Nat}{rows:List (List Rat)}(hl:rows.length=n)(hk:k<n)(hi:i<n)(v:Nat->Rat):Vt (iH rows k i) v↔Vt rows v:=by
 constructor
 ·intro h j hj;have hl2:(iH rows k i).length=n:=(mP _ _ _).trans hl;by_cases e:j=k
  ·subst e;have:=h i (by omega)
   rwa[iY,aD rfl]at this
  ·by_cases e2:j=i
   ·subst e2;have:=h k (by omega);rw[iY]at this;by_cases e3:k=j
    ·rw[aD e3]at this;rwa[<-e3]
    ·rwa[aH e3,aD rfl]at this
   ·have:=h j (by omega)
    rwa[iY,aH e2,aH e]at this
 ·intro h j hj;rw[mP]at hj;rw[iY];split
  ·exact h k (by omega)
  ·split
   ·exact h i (by omega)
   ·exact h j hj
theorem Vt.elim{n k:Nat}{rows:List (List Rat)}(h:GJ n k rows)(hk:k<n)(v:Nat->Rat):Vt (cu k rows n) v↔Vt rows v:=by
 have hl:=h.len;have hp0:∀c,c<k->(rows.getD k []).getD c 0=0:=fun c hc=>h.off c hc k hk (by omega)
 have hE:∀j,j<n->j≠k->yH ((cu k rows n).getD j []) v=yH (rows.getD j []) v-(if(rows.getD j []).getD k 0=0 then 0 else(rows.getD j []).getD k 0/(rows.getD k []).getD k 0)*yH (rows.getD k []) v:=fun j hj hjk=>by
  rw[iw (by omega),aD ⟨hj,hjk⟩,af0 (by rw[h.row k hk,h.row j hj]) hp0]
 have hK:(cu k rows n).getD k []=rows.getD k []:=by rw[iw (by omega),aH (by omega)]
 have hlE:(cu k rows n).length=n:=(ig _ _ _).trans hl
 constructor
 ·intro hN j hj;have h1:=hN k (by omega);rw[hK]at h1;by_cases e:j=k
  ·rw[e];exact h1
  ·have h2:=hN j (by omega);rw[hE j (by omega) e,h1]at h2
   grind
 ·intro hN j hj;rw[hlE]at hj;by_cases e:j=k
  ·rw[e,hK];exact hN k (by omega)
  ·rw[hE j hj e,hN k (by omega),hN j (by omega)];grind
theorem ad8{k i n:Nat}{rows:List (List Rat)}(hl:rows.length=n)(h:Lj k rows=some i):k+i<n/\(rows.getD (k+i) []).getD k 0≠0:=by
 rw[Lj,NS]at h;obtain⟨h1,h2,_⟩:=h;have h3:i<rows.length-k:=by rwa[cj]at h1
 refine⟨by omega,?_⟩;rw[NK]at h2;have h4:k+i<rows.length:=by omega
 rw[show rows.getD (k+i) []=rows[k+i] by rw[jC,bB h4];rfl]
 simpa using h2
theorem ac2{k n:Nat}{rows:List (List Rat)}(hl:rows.length=n)(h:Lj k rows=none):∀i,k<=i->i<n->(rows.getD i []).getD k 0=0:=by
 intro i hi hn;rw[Lj,List.findIdx?_eq_none_iff]at h
 have h1:=h (rows.getD i []) (by
  rw[zj];refine⟨i-k,?_⟩;rw[er,show k+(i-k)=i by omega,jC,bB (by omega)];rfl)
 simpa using h1
theorem yx{n:Nat}:∀(f k:Nat)(rows:List (List Rat)),GJ n k rows->k+f=n ->
  (∃rs,ga f k rows=some rs/\GJ n n rs/\∀v,Vt rs v↔Vt rows v)\/(∃v,Vt rows v/\v n=0/\∃j,j<n/\v j≠0)
 | 0,k,rows,h,hkn=>by
   obtain rfl:k=n:=by omega
   exact .inl ⟨rows,rfl,h,fun v=>mQ⟩
 | f+1,k,rows,h,hkn=>by
   have hl:=h.len;cases hp:Lj k rows with
   | some i=>
     obtain⟨h1,h2⟩:=ad8 hl hp;have g1:=h.swap (by omega) h1 (vH k i)
     have hpk:((iH rows k (k+i)).getD k []).getD k 0≠0:=by
      rw[iY];split
      ·rename_i e;rw[<-e]at h2;exact h2
      ·rw[aD rfl];exact h2
     have g2:=g1.elim (by omega) hpk;have hN:∀v,Vt (cu k (iH rows k (k+i)) n) v↔Vt rows v:=fun v=>(Vt.elim g1 (by omega) v).trans (Vt.swap hl (by omega) h1 v);have hS:ga (f+1) k rows=ga f (k+1) (cu k (iH rows k (k+i)) n):=by rw[ga,hp,hl]
     rw[hS];rcases yx f (k+1) _ g2 (by omega)with⟨rs,e1,e2,e3⟩ | ⟨v,e1,e2,e3⟩
     ·exact .inl ⟨rs,e1,e2,fun v=>(e3 v).trans (hN v)⟩
     ·exact .inr ⟨v,(hN v).1 e1,e2,e3⟩
   | none=>
     right
     have h0:=ac2 hl hp;refine⟨fun j=>if j=k then 1 else if j<k then -((rows.getD j []).getD k 0/(rows.getD j []).getD j 0)else 0,fun i hi=>?_,?_,k,by omega,?_⟩
     ·unfold yH;rw[h.row i (by omega)];by_cases e:i<k
      ·rw[WW e (n:=n+1) (by omega)]
       ·dsimp only;rw[aH (by omega),aD e,aD rfl];have:=mS (a:=(rows.getD i []).getD k 0) (h.dia i e)
        grind
       ·intro c hc h1 h2;dsimp only;rw[aH h2];split
        ·rename_i h3;rw[h.off c h3 i (by omega) (by omega)];grind
        ·grind
      ·rw[Qm];intro c hc;dsimp only;by_cases h1:c=k
       ·rw[h1,h0 i (by omega) (by omega)];grind
       ·rw[aH h1];split
        ·rename_i h3;rw[h.off c h3 i (by omega) (by omega)];grind
        ·grind
     ·dsimp only;rw[aH (by omega),aH (by omega)]
     ·dsimp only;rw[aD rfl];decide
def Tv(n:Nat)(sol:List Rat)(j:Nat):Rat:=if j=n then -1 else sol.getD j 0
theorem UX{n:Nat}{rows:List (List Rat)}(hl:rows.length=n)(hr:∀i,i<n->(rows.getD i []).length=n+1)(hns:∀v:Nat->Rat,v n=0->Vt rows v->∀j,j<n->v j=0) :
  ∃sol,il rows=some sol/\sol.length=n/\Vt rows (Tv n sol):=by
 rcases yx n 0 rows ⟨hl,hr,fun c hc=>by omega,fun c hc=>by omega⟩ (by omega)with⟨rs,e1,e2,e3⟩ | ⟨v,e1,e2,j,hj,e3⟩
 ·have hlr:=e2.len;refine⟨(List.range rs.length).map (kx rs),by rw[il,hl,e1];rfl,by rw[aJ,lM];exact hlr,(e3 _).1 fun i hi=>?_⟩
  have hs:∀j,j<n->((List.range rs.length).map (kx rs)).getD j 0=(rs.getD j []).getD n 0/(rs.getD j []).getD j 0:=fun j hj=>by
   rw[jC,cU,iv (by omega),cJ,fY,kx,e2.row j hj];rfl
  unfold yH;rw[e2.row i (by omega),WW (j:=i) (k:=n) (by omega) (by omega)]
  ·rw[Tv,Tv,aH (by omega),aD rfl,hs i (by omega)];have:=mS (a:=(rs.getD i []).getD n 0) (e2.dia i (by omega))
   grind
  ·intro c hc h1 h2;rw[Tv,aH h2,e2.off c (by omega) i (by omega) (by omega)];grind
 ·exact absurd (hns v e2 e1 j hj) e3
open Go Go.Proofs Tryz Ord
theorem bk7(x:List Rat){i:Nat}(hi:i+1<x.length):(km x).getD i 0=x.getD (i+1) 0-x.getD i 0:=by
 rw[km,pP,jC,cU,iv (by omega)];rfl
theorem aR5{x:List Rat}(hr:nW true x=true){i:Nat}(hi:i+1<x.length):0<(km x).getD i 0:=by
 rw[bk7 x hi];have:=bc1 hr (AG i) hi
 grind
theorem Qr:Fit 2 2:=by unfold Fit;decide
def Jq(v:Nat->Rat)(i F P:Nat):Prop:=∃p q,v i=p-q*v (i+1)/\0<=q/\q<=1/\Fit F q/\Fit P p
theorem Jq.next{v:Nat->Rat}{i F P H G:Nat}{a b g:Rat}(h:Jq v i F P)(ha:0<a)(hb:0<b)(fa:Fit H a)(fb:Fit H b)(fg:Fit G g)
  (e:a*v i+(a+b)*2*v (i+1)+b*v (i+2)=g):Jq v (i+1) (F+(4*H+6)) (P+F+G+(4*H+8)):=by
 obtain⟨p,q,hv,h0,h1,fq,fp⟩:=h;have haq:0<=a*(1-q):=Rat.mul_nonneg (AK ha) (by grind);have hD:b<=(a+b)*2-a*q:=by grind
 have hD0:0<(a+b)*2-a*q:=by grind
 have fD:Fit (3*H+F+4) ((a+b)*2-a*q):=(((fa.add fb).mul Qr).sub (fa.mul fq)).mono (by omega);generalize hDD:(a+b)*2-a*q=D at *;have hne:D≠0:=by intro e;rw[e]at hD0;exact absurd hD0 (by decide)
 have hb2:b/D*D=b:=mS hne;have hp2:(g-a*p)/D*D=g-a*p:=mS hne;refine⟨(g-a*p)/D,b/D,?_,?_,?_,(fb.div fD).mono (by omega),((fg.sub (fa.mul fp)).div fD).mono (by omega)⟩
 ·generalize (g-a*p)/D=p' at *;generalize b/D=q' at *
  have h3:(v (i+1)-(p'-q'*v (i+2)))*D=0:=by
   rw[hv]at e;have e2:v (i+1)*D=v (i+1)*((a+b)*2-a*q):=by rw[hDD]
   grind
  rcases lk.1 h3 with h4 | h4
  ·grind
  ·exact absurd h4 hne
 ·refine lU.1 fun hn=>?_;have:=sZ (show 0 < -(b/D) by grind) hD0
  grind
 ·refine lU.1 fun hn=>?_;have:=sZ (show 0<b/D-1 by grind) hD0
  grind
theorem Jq.mono{v:Nat->Rat}{i F P F' P':Nat}(h:Jq v i F P)(hF:F<=F')(hP:P<=P'):Jq v i F' P':=by
 obtain⟨p,q,h1,h2,h3,h4,h5⟩:=h;exact⟨p,q,h1,h2,h3,h4.mono hF,h5.mono hP⟩
def Sa(H F:Nat)(i:Nat):Nat:=F+i*(4*H+6)
def Vs(H G F P:Nat):Nat->Nat
 | 0=>P
 | i+1=>Vs H G F P i+Sa H F i+G+(4*H+8)
theorem Ui{n:Nat}{h g v:Nat->Rat}{F P H G:Nat}(hpos:∀i,i+1<n->0<h i)(fh:∀i,i+1<n->Fit H (h i))(fg:∀i,i+2<n->Fit G (g (i+1)))
  (hin:∀i,i+2<n->h i*v i+(h i+h (i+1))*2*v (i+1)+h (i+1)*v (i+2)=g (i+1)) (h0:Jq v 0 F P):∀i,i+1<n->Jq v i (Sa H F i) (Vs H G F P i)
 | 0,_=>h0.mono (by rw[Sa];omega) (by rw[Vs];omega)
 | i+1,hi=>((Ui hpos fh fg hin h0 i (by omega)).next (hpos i (by omega)) (hpos (i+1) hi) (fh i (by omega)) (fh (i+1) hi) (fg i hi) (hin i hi)).mono (by rw[Sa,Sa,bf];omega) (by rw[Vs];exact aY _)
theorem af4(H G F P:Nat):∀{i j:Nat},i<=j->Vs H G F P i<=Vs H G F P j:=fun {i j} hij=>by
 induction j with
 | zero=>rw[show i=0 by omega];exact aY _
 | succ j ih=>
   by_cases e:i=j+1
   ·rw[e];exact aY _
   ·have:=ih (by omega);rw[Vs];omega
theorem VL(x:Rat)(xs:List Rat):trim (x::xs)=if nZ zr xs=0/\zr x=true then[]else x::trim xs:=by
 unfold trim;simp only[nZ];split<;>simp
theorem lE:∀(p:List Rat)(s:Nat),(trim p).getD s 0=p.getD s 0
 | [],s=>rfl
 | x::xs,s=>by
   have ih:=lE xs;rw[VL];split
   ·rename_i h;have hx:x=0:=by simpa[zr]using h.2
    have ht:trim xs=[]:=eO (by rw[ir];exact h.1);cases s with
    | zero=>rw[hx];rfl
    | succ s=>
      have:=ih s;rw[ht]at this;exact this
   ·cases s with
    | zero=>rfl
    | succ s=>exact ih s
def tM(a b c d:Rat):List Rat:=trim [a,b,c,d]
theorem xL(a b c d:Rat):nK (tM a b c d):=im _
theorem iP(a b c d x:Rat):ev (tM a b c d) x=a+b*x+c*x*x+d*x*x*x:=by
 rw[tM,lj,au,au,au,au,dA];grind
theorem Pf(f:Nat->Rat)(x:Rat)(m:Nat):∀k,(∀i,m<=i->f i=0)->ev ((List.range (m+k)).map f) x=ev ((List.range m).map f) x
 | 0,_=>rfl
 | k+1,h=>by
   rw[<-kP,gu,cP,Ln,Pf f x m k h,ep,mR,h (m+k) (by omega),au,dA];grind
theorem aT7{f:Nat->Rat}{x:Rat}{m n:Nat}(hm:∀i,m<=i->f i=0)(hn:∀i,n<=i->f i=0):ev ((List.range m).map f) x=ev ((List.range n).map f) x:=by
 rcases Nat.le_total m n with h | h
 ·have:=Pf f x m (n-m) hm;rw[show m+(n-m)=n by omega]at this;exact this.symm
 ·have:=Pf f x n (m-n) hn;rw[show n+(m-n)=m by omega]at this;exact this
theorem PA(a b c d:Rat):nX (tM a b c d)=tM b (2*c) (3*d) 0:=by
 refine Gp (im _) (xL _ _ _ _) fun x=>?_;have hg:∀i,dvI (tM a b c d) i=[a,b,c,d].getD (i+1) 0*(((i:Int)+1:Int):Rat):=fun i=>by rw[dvI,tM,lE]
 rw[nX,lj,aT7 (n:=3),iP]
 ·show ev [dvI (tM a b c d) 0,dvI (tM a b c d) 1,dvI (tM a b c d) 2] x=_;rw[hg,hg,hg,au,au,au,dA];show((0*x+d*3)*x+c*2)*x+b*1=_
  grind
 ·intro i hi;rw[dvI,jC,gj (by omega)];exact Rat.zero_mul _
 ·intro i hi;rw[hg,jC,gj (by simp only[ak,bX];omega)];exact Rat.zero_mul _
section
variable(x y m:List Rat)(i:Nat)
end
section
variable{x y m:List Rat}{i:Nat}(hr:nW true x=true)(hxy:y.length=x.length)(hi:i+1<x.length)
include hr hxy hi
end
def aW0(x y:List Rat)(r1 r2:List Rat):List (List Rat):=(List.range ((km x).length-1)).map (fun j=>mF (km x) (gP x y) x.length (j+1))++[r1,r2]
section
variable{x y r1 r2:List Rat}(h2:2<=x.length)
include h2
theorem as5:(aW0 x y r1 r2).length=x.length:=by
 rw[aW0,cK,aJ,lM,nh];show x.length-1-1+2=_;omega
end
def bg7(x y m:List Rat):Prop:=∀i,i+2<x.length->(km x).getD i 0*m.getD i 0+((km x).getD i 0+(km x).getD (i+1) 0)*2*m.getD (i+1) 0+(km x).getD (i+1) 0*m.getD (i+2) 0=((gP x y).getD (i+1) 0-(gP x y).getD i 0)*6
theorem bc2{n j:Nat}(m:List Rat)(h:j<n):Tv n m j=m.getD j 0:=aH (by omega)
theorem bz2(n:Nat)(m:List Rat):Tv n m n=-1:=aD rfl
section
variable{x y:List Rat}(h2:2<=x.length)(hr:nW true x=true)
include h2 hr
end
theorem ZV:Fit 3 6:=by unfold Fit;decide
theorem af8(H F:Nat){i j:Nat}(h:i<=j:=by omega):Sa H F i<=Sa H F j:=Nat.add_le_add_left (bu _ h) _
structure Dat(x y:List Rat):Prop where
 h2:2<=x.length
 h8:x.length<=8
 hr:nW true x=true
 hxy:y.length=x.length
 hx:∀a∈x,Fit 40 a
 hy:∀a∈y,Fit 40 a
section
variable{x y:List Rat}(D:Dat x y)
include D
theorem Dat.h(i:Nat):Fit 81 ((km x).getD i 0):=aE (od (by omega) D.hx) i
theorem Dat.d(i:Nat):Fit 162 ((gP x y).getD i 0):=aE (uk D.hx D.hy) i
theorem Dat.g(i:Nat):Fit 328 (((gP x y).getD (i+1) 0-(gP x y).getD i 0)*6):=(((D.d (i+1)).sub (D.d i)).mul ZV).mono (by omega)
theorem Dat.eK{m:List Rat}(he:bg7 x y m){F P:Nat}(h0:Jq (fun j=>m.getD j 0) 0 F P):∀i,i+1<x.length->Jq (fun j=>m.getD j 0) i (Sa 81 F 7) (Vs 81 328 F P 7):=fun i hi=>by
 have h8:=D.h8;exact(Ui (h:=fun i=>(km x).getD i 0) (g:=fun i=>((gP x y).getD i 0-(gP x y).getD (i-1) 0)*6) (fun i hi=>aR5 D.hr hi) (fun i _=>D.h i) (fun i _=>D.g i) (fun i hi=>he i hi) h0 i hi).mono (af8 _ _) (af4 _ _ _ _ (by omega))
end
def MM(p:List Rat):Nat:=p.foldr (fun a d=>a.den*d) 1
theorem wg:∀{p:List Rat}{a:Rat},a∈p->a.den∣MM p
 | b::p,a,h=>by
   rcases eU.1 h with rfl | h
   ·exact qQ _ _
   ·exact Nat.dvd_trans (wg h) (AN _ _)
theorem Ai:∀p:List Rat,MM p≠0
 | []=>by decide
 | a::p=>eh a.den_nz (Ai p)
theorem zn{A:Nat}:∀{p:List Rat},(∀a∈p,Fit A a)->MM p<=2^(A*p.length)
 | [],_=>mb
 | a::p,h=>by
   have h1:=(h a (by simp)).2;have h2:=zn (A:=A) (p:=p) fun b hb=>h b (by simp[hb]);show a.den*MM p<=_;rw[ak,eY,de,bz,bo];exact eD h2 (iJ h1)
theorem sk{A D:Nat}{a:Rat}(h:Fit A a)(hd:a.den∣D):Bd D (2^A) a:=⟨hd,bF (iJ h.1) (mH _ a.den_pos)⟩
theorem aQ5{D E A:Nat}(hD:D<=2^(4*A))(hE:E<=2^A):vo D E (2^A) (2^A) 4<2^(16*A+40):=by
 unfold vo;have hx:1<=2^A:=mb;have e4:(4*2^A+1)<=2^(A+3):=by rw[bz];omega
 have h1:(4*2^A+1)^4<=2^(4*A+12):=by
  rw[show 4*A+12=(A+3)*4 by omega,PX];exact nu e4 4
 have h2:2^A*(4*2^A+1)^4+1<=2^(5*A+13):=by
  have:=dF (2^A) h1;rw[<-bz,show A+(4*A+12)=5*A+12 by omega]at this;have h3:1<=2^(5*A+12):=mb;rw[show 5*A+13=5*A+12+1 by omega,bW];exact bF (Nat.add_le_add this h3) (sX (Nat.mul_two _).symm)
 have h3:2^A+1<=2^(A+1):=by rw[bW];omega
 have h4:D*E^4*E<=2^(9*A):=by
  have a1:=nu hE 4;rw[<-PX]at a1;have:=eD (eD hD a1) hE;rw[<-bz,<-bz]at this
  rwa[show 4*A+A*4+A=9*A by omega]at this
 have h5:(4+1)*((2^A*(4*2^A+1)^4+1)*(2^A+1))<=2^(6*A+17):=by
  have:=eD (show 4+1<=2^3 by decide) (eD h2 h3);rw[<-bz,<-bz]at this
  rwa[show 3+(5*A+13+(A+1))=6*A+17 by omega]at this
 have:=eD h4 h5;rw[<-bz]at this;exact dV this (nq (by omega) (by omega))
theorem ae6(p:List Rat)(c:Rat)(A:Nat)(hp:∀a∈p,Fit A a)(hc:Fit A c)(hl:p.length<=4)(hA:A<=100000000:=by omega):aW prog 205 [.one (sQ p),qT c] (.ret [.one (sQ (OL p c))]):=by
 refine RW p c (MM p) c.den (2^A) (2^A) 4 (16*A+40) (fun a ha=>sk (hp a ha) (wg ha)) (sk hc (qJ _)) hl (aQ5 (bF (zn hp) (ey (by omega) ?_)) (iJ hc.2)) (Ai p) c.den_nz mb;rw[bo];exact bu _ hl
theorem Ab{A:Nat}{l:List Rat}{i:Nat}{a:Rat}(h:∀q∈l,Fit A q)(ha:Fit A a):∀q∈l.set i a,Fit A q:=fun q hq=>by
 rcases oT hq with hq | rfl
 ·exact h q hq
 ·exact ha
theorem aN9{A n:Nat}(hA:1<=A):∀q∈List.replicate n (0:Rat),Fit A q:=fun q hq=>by rw[(jg.1 hq).2];exact Fit.zero hA
theorem Uv:Fit 2 ((2:Int):Rat):=Qr
theorem Fp:Fit 3 ((6:Int):Rat):=ZV
section
variable{x y:List Rat}(D:Dat x y)
include D
theorem Dat.inn(i:Nat)(h1:1<=i):∀a∈mF (km x) (gP x y) x.length i,Fit 400 a:=
 Ab (Ab (Ab (Ab (aN9 (by omega)) (((((D.d i).sub (D.d (i-1))).mul Fp)).mono (by omega))) ((D.h _).mono (by omega))) ((((D.h _).add (D.h _)).mul Uv).mono (by omega))) ((D.h _).mono (by omega))
theorem Dat.tab{r1 r2:List Rat}(h1:r1.length=x.length+1/\∀a∈r1,Fit 400 a)(h2:r2.length=x.length+1/\∀a∈r2,Fit 400 a):yM x.length (x.length+1) 400 (aW0 x y r1 r2):=by
 refine⟨as5 D.h2,fun r hr=>?_⟩;rw[aW0]at hr;rcases eL.1 hr with hr | hr
 ·obtain⟨j,_,rfl⟩:=dn.1 hr;exact⟨BE _ _ _ _,D.inn _ (by omega)⟩
 ·simp only[eU,wC,wm]at hr;rcases hr with rfl | rfl
  ·exact h1
  ·exact h2
theorem Dat.bc5{m:List Rat}(hm:∀a∈m,Fit 800000 a)(i:Nat):∀q∈cvP x y m i,Fit 2500000 q:=fun q hq=>by
 have fm:=fun j=>aE hm j;simp only[cvP,eU,wC,wm]at hq;rcases hq with rfl | rfl | rfl | rfl
 ·exact(aE D.hy _).mono (by omega)
 ·exact((D.d i).sub ((D.h i).mul ((((fm i).add (fm i)).add (fm (i+1))).div Fp))).mono (by omega)
 ·exact((fm i).div Uv).mono (by omega)
 ·exact(((fm (i+1)).sub (fm i)).div ((D.h i).mul Fp)).mono (by omega)
theorem Dat.shift{m:List Rat}(hm:∀a∈m,Fit 800000 a)(i:Nat):aW prog 205 [.one (sQ (cvP x y m i)),qT (-(x.getD i 0))] (.ret [.one (sQ (zV x y m i))]):=
 ae6 _ _ 2500000 (D.bc5 hm i) ((aE D.hx i).neg.mono (by omega)) (aY 4)
end
end Go.Sy
