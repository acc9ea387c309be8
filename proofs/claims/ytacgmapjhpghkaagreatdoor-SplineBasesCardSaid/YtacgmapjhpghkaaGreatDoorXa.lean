/- Part. -/
import Derived.Test.YtacgmapjhpghkaaGreatDoorWe
set_option linter.all false
namespace Go.Sy
open Ord
def sm(f:Nat->Rat):Nat->Rat
 | 0=>0
 | n+1=>sm f n+f n
theorem Tf{f g:Nat->Rat}:∀n,(∀i,i<n->f i=g i)->sm f n=sm g n
 | 0,_=>rfl
 | n+1,h=>by rw[sm,sm,Tf n fun i hi=>h i (by omega),h n (by omega)]
theorem aC3(f g:Nat->Rat)(a:Rat):∀n,sm (fun i=>f i-a*g i) n=sm f n-a*sm g n
 | 0=>by simp only[sm];grind
 | n+1=>by rw[sm,sm,sm,aC3 f g a n];grind
def VE(r:List Rat)(v:Nat->Rat):Rat:=sm (fun j=>r.getD j 0*v j) r.length
def Nul(rows:List (List Rat))(v:Nat->Rat):Prop:=∀i,i<rows.length->VE (rows.getD i []) v=0
theorem rP{α:Type}{l:List α}{i:Nat}{d:α}:l.getD i d=(l[i]?).getD d:=fQ
theorem jc{rows:List (List Rat)}{k i j:Nat}(hk:k<rows.length:=by omega)(hi:i<rows.length:=by omega):(mo rows k i).getD j []=if j=i then rows.getD k []else if j=k then rows.getD i []else rows.getD j []:=by
 rw[mo,rP,mR,bJ];by_cases h:i=j
 ·rw[aK h,aK hi,aK h.symm];rfl
 ·rw[aG h,aG (kI h),mR];by_cases h2:k=j
  ·rw[aK h2,aK hk,aK h2.symm];rfl
  ·rw[aG h2,aG (kI h2),<-rP]
theorem iv{k:Nat}{rows:List (List Rat)}{n j:Nat}(hj:j<rows.length):(eK k rows n).getD j []=if j<n/\j≠k then ir k (rows.getD k []) (rows.getD j [])else rows.getD j []:=by
 have h1:rows[j]?=some (rows.getD j []):=by rw[rP,bQ hj];rfl
 rw[rP,ig,h1];rfl
theorem pf{k:Nat}{p r:List Rat}{i:Nat}(hi:i<r.length):(ir k p r).getD i 0=if r.getD k 0=0\/i<k then r.getD i 0 else r.getD i 0-r.getD k 0/p.getD k 0*p.getD i 0:=by
 unfold ir;by_cases h:r.getD k 0=0
 ·rw[aK h,aK (.inl h)]
 ·rw[aG h];have h1:r[i]?=some (r.getD i 0):=by rw[rP,bQ hi];rfl
  rw[rP,pP,h1,cK,gO];by_cases h2:i<k
  ·rw[aG (by omega),aK (.inr h2)]
  ·rw[aK ⟨by omega,hi⟩,aG (by intro h3;rcases h3 with h3 | h3;exact h h3;exact h2 h3)]
structure GJ(n k:Nat)(rows:List (List Rat)):Prop where
 len:rows.length=n
 row:∀i,i<n->(rows.getD i []).length=n+1
 off:∀c,c<k->∀i,i<n->i≠c->(rows.getD i []).getD c 0=0
 dia:∀c,c<k->(rows.getD c []).getD c 0≠0
theorem GJ.swap{n k i:Nat}{rows:List (List Rat)}(h:GJ n k rows)(hk:k<n)(hi:i<n)(hki:k<=i):GJ n k (mo rows k i):=by
 have hl:=h.len;refine⟨(mD _ _ _).trans hl,fun j hj=>?_,fun c hc j hj hjc=>?_,fun c hc=>?_⟩
 ·rw[jc];split
  ·exact h.row k hk
  ·split
   ·exact h.row i hi
   ·exact h.row j hj
 ·rw[jc];split
  ·exact h.off c hc k hk (by omega)
  ·split
   ·exact h.off c hc i hi (by omega)
   ·exact h.off c hc j hj hjc
 ·rw[jc,aG (by omega),aG (by omega)];exact h.dia c hc
theorem GJ.elim{n k:Nat}{rows:List (List Rat)}(h:GJ n k rows)(hk:k<n)(hp:(rows.getD k []).getD k 0≠0):GJ n (k+1) (eK k rows n):=by
 have hl:=h.len
 have key:∀j,j<n->∀c,c<k->((eK k rows n).getD j []).getD c 0=(rows.getD j []).getD c 0:=fun j hj c hc=>by
  rw[iv (by omega)];split
  ·rw[pf (by rw[h.row j hj];omega),aK (.inr hc)]
  ·rfl
 refine⟨(ij _ _ _).trans hl,fun j hj=>?_,fun c hc j hj hjc=>?_,fun c hc=>?_⟩
 ·rw[iv (by omega)];split
  ·rw[nR];exact h.row j hj
  ·exact h.row j hj
 ·by_cases e:c=k
  ·subst e;rw[iv (by omega),aK ⟨hj,hjc⟩,pf (by rw[h.row j hj];omega)];split
   ·rename_i h1;rcases h1 with h1 | h1
    ·exact h1
    ·omega
   ·rw[oQ hp];grind
  ·rw[key j hj c (by omega)];exact h.off c (by omega) j hj hjc
 ·by_cases e:c=k
  ·subst e;rw[iv (by omega),aG (by omega)];exact hp
  ·rw[key c (by omega) c (by omega)];exact h.dia c (by omega)
theorem aj2{k:Nat}{p r:List Rat}{v:Nat->Rat}(hl:p.length=r.length)(h0:∀c,c<k->p.getD c 0=0):VE (ir k p r) v=VE r v-(if r.getD k 0=0 then 0 else r.getD k 0/p.getD k 0)*VE p v:=by
 unfold VE;rw[nR,hl,<-aC3];refine Tf _ fun i hi=>?_;rw[pf hi];by_cases h1:r.getD k 0=0
 ·rw[aK (.inl h1),aK h1];grind
 ·rw[aG h1];by_cases h2:i<k
  ·rw[aK (.inr h2),h0 i h2];grind
  ·rw[aG (by intro h3;rcases h3 with h3 | h3;exact h1 h3;exact h2 h3)];grind
theorem Nul.swap{n k i:Nat}{rows:List (List Rat)}(hl:rows.length=n)(hk:k<n)(hi:i<n)(v:Nat->Rat):Nul (mo rows k i) v↔Nul rows v:=by
 constructor
 ·intro h j hj;have hl2:(mo rows k i).length=n:=(mD _ _ _).trans hl;by_cases e:j=k
  ·subst e;have:=h i (by omega)
   rwa[jc,aK rfl]at this
  ·by_cases e2:j=i
   ·subst e2;have:=h k (by omega);rw[jc]at this;by_cases e3:k=j
    ·rw[aK e3]at this;rwa[<-e3]
    ·rwa[aG e3,aK rfl]at this
   ·have:=h j (by omega)
    rwa[jc,aG e2,aG e]at this
 ·intro h j hj;rw[mD]at hj;rw[jc];split
  ·exact h k (by omega)
  ·split
   ·exact h i (by omega)
   ·exact h j hj
theorem Nul.elim{n k:Nat}{rows:List (List Rat)}(h:GJ n k rows)(hk:k<n)(v:Nat->Rat):Nul (eK k rows n) v↔Nul rows v:=by
 have hl:=h.len;have hp0:∀c,c<k->(rows.getD k []).getD c 0=0:=fun c hc=>h.off c hc k hk (by omega)
 have hE:∀j,j<n->j≠k->VE ((eK k rows n).getD j []) v=VE (rows.getD j []) v-(if(rows.getD j []).getD k 0=0 then 0 else(rows.getD j []).getD k 0/(rows.getD k []).getD k 0)*VE (rows.getD k []) v:=fun j hj hjk=>by
  rw[iv (by omega),aK ⟨hj,hjk⟩,aj2 (by rw[h.row k hk,h.row j hj]) hp0]
 have hK:(eK k rows n).getD k []=rows.getD k []:=by rw[iv (by omega),aG (by omega)]
 have hlE:(eK k rows n).length=n:=(ij _ _ _).trans hl
 constructor
 ·intro hN j hj;have h1:=hN k (by omega);rw[hK]at h1;by_cases e:j=k
  ·rw[e];exact h1
  ·have h2:=hN j (by omega);rw[hE j (by omega) e,h1]at h2
   grind
 ·intro hN j hj;rw[hlE]at hj;by_cases e:j=k
  ·rw[e,hK];exact hN k (by omega)
  ·rw[hE j hj e,hN k (by omega),hN j (by omega)];grind
open Go Go.Proofs Tryz Ord
theorem bp0(x:List Rat){i:Nat}(hi:i+1<x.length):(kU x).getD i 0=x.getD (i+1) 0-x.getD i 0:=by
 rw[kU,pV,rP,cn,kv (by omega)];rfl
theorem aV3{x:List Rat}(hr:gT true x=true){i:Nat}(hi:i+1<x.length):0<(kU x).getD i 0:=by
 rw[bp0 x hi];have:=bg5 hr (vx i) hi
 grind
theorem QQ:Fit 2 2:=by unfold Fit;decide
def Im(v:Nat->Rat)(i F P:Nat):Prop:=∃p q,v i=p-q*v (i+1)/\0<=q/\q<=1/\Fit F q/\Fit P p
theorem Im.next{v:Nat->Rat}{i F P H G:Nat}{a b g:Rat}(h:Im v i F P)(ha:0<a)(hb:0<b)(fa:Fit H a)(fb:Fit H b)(fg:Fit G g)
  (e:a*v i+(a+b)*2*v (i+1)+b*v (i+2)=g):Im v (i+1) (F+(4*H+6)) (P+F+G+(4*H+8)):=by
 obtain⟨p,q,hv,h0,h1,fq,fp⟩:=h;have haq:0<=a*(1-q):=Rat.mul_nonneg (sq ha) (by grind);have hD:b<=(a+b)*2-a*q:=by grind
 have hD0:0<(a+b)*2-a*q:=by grind
 have fD:Fit (3*H+F+4) ((a+b)*2-a*q):=(((fa.add fb).mul QQ).sub (fa.mul fq)).mono (by omega);generalize hDD:(a+b)*2-a*q=D at *;have hne:D≠0:=by intro e;rw[e]at hD0;exact absurd hD0 (by decide)
 have hb2:b/D*D=b:=oQ hne;have hp2:(g-a*p)/D*D=g-a*p:=oQ hne;refine⟨(g-a*p)/D,b/D,?_,?_,?_,(fb.div fD).mono (by omega),((fg.sub (fa.mul fp)).div fD).mono (by omega)⟩
 ·generalize (g-a*p)/D=p' at *;generalize b/D=q' at *
  have h3:(v (i+1)-(p'-q'*v (i+2)))*D=0:=by
   rw[hv]at e;have e2:v (i+1)*D=v (i+1)*((a+b)*2-a*q):=by rw[hDD]
   grind
  rcases nz.1 h3 with h4 | h4
  ·grind
  ·exact absurd h4 hne
 ·refine fu.1 fun hn=>?_;have:=sy (show 0 < -(b/D) by grind) hD0
  grind
 ·refine fu.1 fun hn=>?_;have:=sy (show 0<b/D-1 by grind) hD0
  grind
theorem Im.mono{v:Nat->Rat}{i F P F' P':Nat}(h:Im v i F P)(hF:F<=F')(hP:P<=P'):Im v i F' P':=by
 obtain⟨p,q,h1,h2,h3,h4,h5⟩:=h;exact⟨p,q,h1,h2,h3,h4.mono hF,h5.mono hP⟩
def SM(H F:Nat)(i:Nat):Nat:=F+i*(4*H+6)
def VP(H G F P:Nat):Nat->Nat
 | 0=>P
 | i+1=>VP H G F P i+SM H F i+G+(4*H+8)
theorem UG{n:Nat}{h g v:Nat->Rat}{F P H G:Nat}(hpos:∀i,i+1<n->0<h i)(fh:∀i,i+1<n->Fit H (h i))(fg:∀i,i+2<n->Fit G (g (i+1)))
  (hin:∀i,i+2<n->h i*v i+(h i+h (i+1))*2*v (i+1)+h (i+1)*v (i+2)=g (i+1)) (h0:Im v 0 F P):∀i,i+1<n->Im v i (SM H F i) (VP H G F P i)
 | 0,_=>h0.mono (by rw[SM];omega) (by rw[VP];omega)
 | i+1,hi=>((UG hpos fh fg hin h0 i (by omega)).next (hpos i (by omega)) (hpos (i+1) hi) (fh i (by omega)) (fh (i+1) hi) (fg i hi) (hin i hi)).mono (by rw[SM,SM,bX];omega) (by rw[VP];exact aa _)
theorem aj7(H G F P:Nat):∀{i j:Nat},i<=j->VP H G F P i<=VP H G F P j:=fun {i j} hij=>by
 induction j with
 | zero=>rw[show i=0 by omega];exact aa _
 | succ j ih=>
   by_cases e:i=j+1
   ·rw[e];exact aa _
   ·have:=ih (by omega);rw[VP];omega
theorem Wj(x:Rat)(xs:List Rat):trim (x::xs)=if nX zr xs=0/\zr x=true then[]else x::trim xs:=by
 unfold trim;simp only[nX];split<;>simp
theorem ke:∀(p:List Rat)(s:Nat),(trim p).getD s 0=p.getD s 0
 | [],s=>rfl
 | x::xs,s=>by
   have ih:=ke xs;rw[Wj];split
   ·rename_i h;have hx:x=0:=by simpa[zr]using h.2
    have ht:trim xs=[]:=eV (by rw[gX];exact h.1);cases s with
    | zero=>rw[hx];rfl
    | succ s=>
      have:=ih s;rw[ht]at this;exact this
   ·cases s with
    | zero=>rfl
    | succ s=>exact ih s
def tV(a b c d:Rat):List Rat:=trim [a,b,c,d]
theorem xD(a b c d:Rat):lz (tV a b c d):=gj _
theorem iM(a b c d x:Rat):ev (tV a b c d) x=a+b*x+c*x*x+d*x*x*x:=by
 rw[tV,lW,bP,bP,bP,bP,ec];grind
theorem Pk(f:Nat->Rat)(x:Rat)(m:Nat):∀k,(∀i,m<=i->f i=0)->ev ((List.range (m+k)).map f) x=ev ((List.range m).map f) x
 | 0,_=>rfl
 | k+1,h=>by
   rw[<-jA,gx,bt,wj,Pk f x m k h,en,mN,h (m+k) (by omega),bP,ec];grind
theorem aX5{f:Nat->Rat}{x:Rat}{m n:Nat}(hm:∀i,m<=i->f i=0)(hn:∀i,n<=i->f i=0):ev ((List.range m).map f) x=ev ((List.range n).map f) x:=by
 rcases Nat.le_total m n with h | h
 ·have:=Pk f x m (n-m) hm;rw[show m+(n-m)=n by omega]at this;exact this.symm
 ·have:=Pk f x n (m-n) hn;rw[show n+(m-n)=m by omega]at this;exact this
theorem PK(a b c d:Rat):ly (tV a b c d)=tV b (2*c) (3*d) 0:=by
 refine uR (gj _) (xD _ _ _ _) fun x=>?_;have hg:∀i,dvI (tV a b c d) i=[a,b,c,d].getD (i+1) 0*(((i:Int)+1:Int):Rat):=fun i=>by rw[dvI,tV,ke]
 rw[ly,lW,aX5 (n:=3),iM]
 ·show ev [dvI (tV a b c d) 0,dvI (tV a b c d) 1,dvI (tV a b c d) 2] x=_;rw[hg,hg,hg,bP,bP,bP,ec];show((0*x+d*3)*x+c*2)*x+b*1=_
  grind
 ·intro i hi;rw[dvI,rP,iR (by omega)];exact Rat.zero_mul _
 ·intro i hi;rw[hg,rP,iR (by simp only[an,bo];omega)];exact Rat.zero_mul _
section
variable(x y m:List Rat)(i:Nat)
end
section
variable{x y m:List Rat}{i:Nat}(hr:gT true x=true)(hxy:y.length=x.length)(hi:i+1<x.length)
include hr hxy hi
end
def ba7(x y:List Rat)(r1 r2:List Rat):List (List Rat):=(List.range ((kU x).length-1)).map (fun j=>ll (kU x) (gS x y) x.length (j+1))++[r1,r2]
section
variable{x y r1 r2:List Rat}(h2:2<=x.length)
include h2
theorem av6:(ba7 x y r1 r2).length=x.length:=by
 rw[ba7,cJ,aI,oh,nY];show x.length-1-1+2=_;omega
end
def bl3(x y m:List Rat):Prop:=∀i,i+2<x.length->(kU x).getD i 0*m.getD i 0+((kU x).getD i 0+(kU x).getD (i+1) 0)*2*m.getD (i+1) 0+(kU x).getD (i+1) 0*m.getD (i+2) 0=((gS x y).getD (i+1) 0-(gS x y).getD i 0)*6
section
variable{x y:List Rat}(h2:2<=x.length)(hr:gT true x=true)
include h2 hr
end
theorem ac3:Fit 3 6:=by unfold Fit;decide
theorem ak1(H F:Nat){i j:Nat}(h:i<=j:=by omega):SM H F i<=SM H F j:=Nat.add_le_add_left (cN _ h) _
structure Dat(x y:List Rat):Prop where
 h2:2<=x.length
 h8:x.length<=8
 hr:gT true x=true
 hxy:y.length=x.length
 hx:∀a∈x,Fit 40 a
 hy:∀a∈y,Fit 40 a
section
variable{x y:List Rat}(D:Dat x y)
include D
theorem Dat.h(i:Nat):Fit 81 ((kU x).getD i 0):=aD (oV (by omega) D.hx) i
theorem Dat.d(i:Nat):Fit 162 ((gS x y).getD i 0):=aD (ug D.hx D.hy) i
theorem Dat.g(i:Nat):Fit 328 (((gS x y).getD (i+1) 0-(gS x y).getD i 0)*6):=(((D.d (i+1)).sub (D.d i)).mul ac3).mono (by omega)
theorem Dat.eE{m:List Rat}(he:bl3 x y m){F P:Nat}(h0:Im (fun j=>m.getD j 0) 0 F P):∀i,i+1<x.length->Im (fun j=>m.getD j 0) i (SM 81 F 7) (VP 81 328 F P 7):=fun i hi=>by
 have h8:=D.h8;exact(UG (h:=fun i=>(kU x).getD i 0) (g:=fun i=>((gS x y).getD i 0-(gS x y).getD (i-1) 0)*6) (fun i hi=>aV3 D.hr hi) (fun i _=>D.h i) (fun i _=>D.g i) (fun i hi=>he i hi) h0 i hi).mono (ak1 _ _) (aj7 _ _ _ _ (by omega))
end
def aq4(p:List Rat):Nat:=p.foldr (fun a d=>a.den*d) 1
theorem VG:∀{p:List Rat}{a:Rat},a∈p->a.den∣aq4 p
 | b::p,a,h=>by
   rcases ez.1 h with rfl | h
   ·exact Af _ _
   ·exact Nat.dvd_trans (VG h) (MC _ _)
theorem ZQ:∀p:List Rat,aq4 p≠0
 | []=>by decide
 | a::p=>lG a.den_nz (ZQ p)
theorem YZ{A:Nat}:∀{p:List Rat},(∀a∈p,Fit A a)->aq4 p<=2^(A*p.length)
 | [],_=>vA
 | a::p,h=>by
   have h1:=(h a (by simp)).2;have h2:=YZ (A:=A) (p:=p) fun b hb=>h b (by simp[hb]);show a.den*aq4 p<=_;rw[an,ep,dZ,eP,cD];exact iA h2 (mE h1)
theorem LQ{A D:Nat}{a:Rat}(h:Fit A a)(hd:a.den∣D):Bd D (2^A) a:=⟨hd,aq (mE h.1) (kd _ a.den_pos)⟩
theorem aU6{D E A:Nat}(hD:D<=2^(4*A))(hE:E<=2^A):vZ D E (2^A) (2^A) 4<2^(16*A+40):=by
 unfold vZ;have hx:1<=2^A:=vA;have e4:(4*2^A+1)<=2^(A+3):=by rw[eP];omega
 have h1:(4*2^A+1)^4<=2^(4*A+12):=by
  rw[show 4*A+12=(A+3)*4 by omega,Nat.pow_mul];exact qO e4 4
 have h2:2^A*(4*2^A+1)^4+1<=2^(5*A+13):=by
  have:=dr (2^A) h1;rw[<-eP,show A+(4*A+12)=5*A+12 by omega]at this;have h3:1<=2^(5*A+12):=vA;rw[show 5*A+13=5*A+12+1 by omega,bh];exact aq (Nat.add_le_add this h3) (su (Nat.mul_two _).symm)
 have h3:2^A+1<=2^(A+1):=by rw[bh];omega
 have h4:D*E^4*E<=2^(9*A):=by
  have a1:=qO hE 4;rw[<-Nat.pow_mul]at a1;have:=iA (iA hD a1) hE;rw[<-eP,<-eP]at this
  rwa[show 4*A+A*4+A=9*A by omega]at this
 have h5:(4+1)*((2^A*(4*2^A+1)^4+1)*(2^A+1))<=2^(6*A+17):=by
  have:=iA (show 4+1<=2^3 by decide) (iA h2 h3);rw[<-eP,<-eP]at this
  rwa[show 3+(5*A+13+(A+1))=6*A+17 by omega]at this
 have:=iA h4 h5;rw[<-eP]at this;exact eh this (Nat.pow_lt_pow_right (by omega) (by omega))
theorem ai6(p:List Rat)(c:Rat)(A:Nat)(hp:∀a∈p,Fit A a)(hc:Fit A c)(hl:p.length<=4)(hA:A<=100000000:=by omega):aU prog 205 [.one (sQ p),qT c] (.ret [.one (sQ (OK p c))]):=by
 refine SH p c (aq4 p) c.den (2^A) (2^A) 4 (16*A+40) (fun a ha=>LQ (hp a ha) (VG ha)) (LQ hc (Nat.dvd_refl _)) hl (aU6 (aq (YZ hp) (hU (by omega) ?_)) (mE hc.2)) (ZQ p) c.den_nz vA;rw[cD];exact cN _ hl
theorem zb{A:Nat}{l:List Rat}{i:Nat}{a:Rat}(h:∀q∈l,Fit A q)(ha:Fit A a):∀q∈l.set i a,Fit A q:=fun q hq=>by
 rcases oB hq with hq | rfl
 ·exact h q hq
 ·exact ha
theorem aR1{A n:Nat}(hA:1<=A):∀q∈List.replicate n (0:Rat),Fit A q:=fun q hq=>by rw[(jW.1 hq).2];exact Fit.zero hA
theorem UP:Fit 2 ((2:Int):Rat):=QQ
theorem Ef:Fit 3 ((6:Int):Rat):=ac3
section
variable{x y:List Rat}(D:Dat x y)
include D
theorem Dat.inn(i:Nat)(h1:1<=i):∀a∈ll (kU x) (gS x y) x.length i,Fit 400 a:=
 zb (zb (zb (zb (aR1 (by omega)) (((((D.d i).sub (D.d (i-1))).mul Ef)).mono (by omega))) ((D.h _).mono (by omega))) ((((D.h _).add (D.h _)).mul UP).mono (by omega))) ((D.h _).mono (by omega))
theorem Dat.tab{r1 r2:List Rat}(h1:r1.length=x.length+1/\∀a∈r1,Fit 400 a)(h2:r2.length=x.length+1/\∀a∈r2,Fit 400 a):Mh x.length (x.length+1) 400 (ba7 x y r1 r2):=by
 refine⟨av6 D.h2,fun r hr=>?_⟩;rw[ba7]at hr;rcases fI.1 hr with hr | hr
 ·obtain⟨j,_,rfl⟩:=dH.1 hr;exact⟨Bc _ _ _ _,D.inn _ (by omega)⟩
 ·simp only[ez,QL,or_false]at hr;rcases hr with rfl | rfl
  ·exact h1
  ·exact h2
theorem Dat.bh1{m:List Rat}(hm:∀a∈m,Fit 800000 a)(i:Nat):∀q∈cvP x y m i,Fit 2500000 q:=fun q hq=>by
 have fm:=fun j=>aD hm j;simp only[cvP,ez,QL,or_false]at hq;rcases hq with rfl | rfl | rfl | rfl
 ·exact(aD D.hy _).mono (by omega)
 ·exact((D.d i).sub ((D.h i).mul ((((fm i).add (fm i)).add (fm (i+1))).div Ef))).mono (by omega)
 ·exact((fm i).div UP).mono (by omega)
 ·exact(((fm (i+1)).sub (fm i)).div ((D.h i).mul Ef)).mono (by omega)
theorem Dat.shift{m:List Rat}(hm:∀a∈m,Fit 800000 a)(i:Nat):aU prog 205 [.one (sQ (cvP x y m i)),qT (-(x.getD i 0))] (.ret [.one (sQ (yo x y m i))]):=
 ai6 _ _ 2500000 (D.bh1 hm i) ((aD D.hx i).neg.mono (by omega)) (aa 4)
end
end Go.Sy
