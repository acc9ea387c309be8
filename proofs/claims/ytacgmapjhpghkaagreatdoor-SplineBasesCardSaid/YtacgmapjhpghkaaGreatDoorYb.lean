/- Part. -/
import Derived.Test.YtacgmapjhpghkaaGreatDoorYa
import Derived.Test.YtacgmapjhpghkaaGreatDoorXf
set_option linter.all false
namespace Go.Sy
open Go Go.Proofs Tryz Ord
def nZ(f:Nat->Rat):Nat->Rat
 | 0=>0
 | n+1=>nZ f n+f n
theorem eF{f g:Nat->Rat}:∀n,(∀s,s<n->f s=g s)->nZ f n=nZ g n
 | 0,_=>rfl
 | n+1,h=>by rw[nZ,nZ,eF n fun s hs=>h s (by omega),h n (by omega)]
theorem nr(f g:Nat->Rat):∀n,nZ (fun s=>f s+g s) n=nZ f n+nZ g n
 | 0=>by simp only[nZ];grind
 | n+1=>by simp only[nZ];rw[nr f g n];grind
theorem zL(f:Nat->Rat)(k:Rat):∀n,nZ (fun s=>k*f s) n=k*nZ f n
 | 0=>by simp only[nZ];grind
 | n+1=>by simp only[nZ];rw[zL f k n];grind
theorem wG(f:Nat->Rat):∀n,nZ f (n+1)=f 0+nZ (fun s=>f (s+1)) n
 | 0=>by simp only[nZ];grind
 | n+1=>by rw[nZ,wG f n,nZ];grind
theorem LR(c A B:Nat->Rat)(e:Nat):nZ (fun s=>c s*((if 1<=s then A s else 0)+(if s<=e then B s else 0))) (e+2)=nZ (fun s=>c (s+1)*A (s+1)+c s*B s) (e+1):=by
 rw[eF (g:=fun s=>c s*(if 1<=s then A s else 0)+c s*(if s<=e then B s else 0)) _ fun s _=>by grind,nr,wG,nr];have h1:nZ (fun s=>c (s+1)*(if 1<=s+1 then A (s+1)else 0)) (e+1)=nZ (fun s=>c (s+1)*A (s+1)) (e+1):=eF _ fun s _=>by rw[aK (by omega)]
 have h2:nZ (fun s=>c s*(if s<=e then B s else 0)) (e+2)=nZ (fun s=>c s*B s) (e+1):=by
  rw[nZ,aG (by omega),eF (g:=fun s=>c s*B s) _ fun s hs=>by rw[aK (by omega)]]
  grind
 rw[h1,h2,aG (by omega)]
 grind
structure Kno(kn:List Rat)(κ:Nat):Prop where
 hr:gT false kn=true
 lt:kn.getD κ 0<kn.getD (κ+1) 0
theorem Kno.pos{kn:List Rat}{κ:Nat}(K:Kno kn κ){i j:Nat}(hi:i<=κ)(hj:κ+1<=j)(hl:j<kn.length):kn.getD j 0-kn.getD i 0≠0:=by
 have h1:=dS K.hr hi;have h2:=dS K.hr hj hl;have:=K.lt
 grind
theorem inv_one{q:Rat}(h:q≠0):q*(1/q)=1:=by rw[Rat.mul_comm,oQ h]
theorem ae1(a x:Rat):ev [-a,((1:Int):Rat)] x=x-a:=by
 show((0*x+1)*x + -a:Rat)=_
 grind
theorem aT5(a x:Rat):ev [a,((-1:Int):Rat)] x=a-x:=by
 show((0*x + -1)*x+a:Rat)=_
 grind
theorem UR{a q:Rat}(x:Rat)(hq:q≠0):ev (gV [-a,((1:Int):Rat)] q) x=(x-a)*(1/q):=by
 rw[gV,aG hq,sL,ae1];rfl
theorem Tn{a q:Rat}(x:Rat)(hq:q≠0):ev (gV [a,((-1:Int):Rat)] q) x=(x-a)*(-(1/q)):=by
 rw[gV,aG hq,sL,aT5];have:((1:Int):Rat)/q=1/q:=rfl;rw[this];grind
theorem aH2{p b:List Rat}{a k:Rat}(h:∀x,ev p x=(x-a)*k)(x:Rat):ev (ly (fP p b)) x=k*ev b x+(x-a)*k*ev (ly b) x:=by
 rw[uy (q:=wi (fP b [-a,((1:Int):Rat)]) k) fun y=>by rw[mK,sL,mK,ae1,h];grind];rw[aa4,Cm];grind
section
variable{kn:List Rat}{κ:Nat}
abbrev wq(kn:List Rat)(e i:Nat):Rat:=1/(kn.getD (i+(e+1)) 0-kn.getD i 0)
theorem bU5(K:Kno kn κ){e i:Nat}(h1:i<=κ)(h2:κ<=i+e+1)(hl:κ+e+1<kn.length)(x:Rat):ev (jn kn κ (e+1) i) x=(if κ<=i+e then(x-kn.getD i 0)*wq kn e i*ev (jn kn κ e i) x else 0)+(if i+1<=κ then(x-kn.getD (i+1+(e+1)) 0)*(-(wq kn e (i+1)))*ev (jn kn κ e (i+1)) x else 0):=by
 rw[jn,aG (by omega),jx,mK,mK]
 congr 1
 ·split
  ·rw[UR x (K.pos h1 (by omega) (by omega))]
  ·rw[mP e (show κ<i\/i+e<κ by omega)];show _*0=_;grind
 ·rw[show i+(e+1)+1=i+1+(e+1) by omega];split
  ·rw[Tn x (K.pos (by omega) (by omega) (by omega))]
  ·rw[mP e (show κ<i+1\/i+1+e<κ by omega)];show _*0=_;grind
theorem bY1(K:Kno kn κ){e i:Nat}(h1:i<=κ)(h2:κ<=i+e+1)(hl:κ+e+1<kn.length)(x:Rat):ev (ly (jn kn κ (e+1) i)) x=(if κ<=i+e then wq kn e i*ev (jn kn κ e i) x+(x-kn.getD i 0)*wq kn e i*ev (ly (jn kn κ e i)) x else 0)+(if i+1<=κ then -(wq kn e (i+1))*ev (jn kn κ e (i+1)) x+(x-kn.getD (i+1+(e+1)) 0)*(-(wq kn e (i+1)))*ev (ly (jn kn κ e (i+1))) x else 0):=by
 rw[jn,aG (by omega),Qy]
 congr 1
 ·split
  ·rw[aH2 (fun y=>UR y (K.pos h1 (by omega) (by omega)))]
  ·rw[mP e (show κ<i\/i+e<κ by omega),wb];rfl
 ·rw[show i+(e+1)+1=i+1+(e+1) by omega];split
  ·rw[aH2 (fun y=>Tn y (K.pos (by omega) (by omega) (by omega)))]
  ·rw[mP e (show κ<i+1\/i+1+e<κ by omega),wb];rfl
def sS(kn:List Rat)(κ e:Nat)(c:Nat->Rat)(x:Rat):Rat:=nZ (fun s=>c (κ-e+s)*ev (jn kn κ e (κ-e+s)) x) (e+1)
def sD(kn:List Rat)(κ e:Nat)(c:Nat->Rat)(x:Rat):Rat:=nZ (fun s=>c (κ-e+s)*ev (ly (jn kn κ e (κ-e+s))) x) (e+1)
def lam(kn:List Rat)(e:Nat)(c:Nat->Rat)(x:Rat)(j:Nat):Rat:=((kn.getD (j+(e+1)) 0-x)*c (j-1)+(x-kn.getD j 0)*c j)*wq kn e j
def lad(kn:List Rat)(e:Nat)(c:Nat->Rat)(j:Nat):Rat:=(c j-c (j-1))*wq kn e j
theorem Zj(K:Kno kn κ){e:Nat}(he:e+1<=κ)(hl:κ+e+1<kn.length)(c:Nat->Rat)(x:Rat):sS kn κ (e+1) c x=sS kn κ e (lam kn e c x) x:=by
 have h:=LR (fun s=>c (κ-(e+1)+s)) (fun s=>(x-kn.getD (κ-(e+1)+s) 0)*wq kn e (κ-(e+1)+s)*ev (jn kn κ e (κ-(e+1)+s)) x) (fun s=>(x-kn.getD (κ-(e+1)+s+1+(e+1)) 0)*(-(wq kn e (κ-(e+1)+s+1)))*ev (jn kn κ e (κ-(e+1)+s+1)) x) e;rw[sS,show e+1+1=e+2 by omega];refine Eq.trans (eF _ fun s hs=>?_) (h.trans (eF _ fun s hs=>?_))
 ·rw[bU5 K (by omega) (by omega) hl]
  congr 1
  congr 1
  ·by_cases h1:1<=s
   ·rw[aK h1,aK (by omega)]
   ·rw[aG h1,aG (by omega)]
  ·by_cases h1:s<=e
   ·rw[aK h1,aK (by omega)]
   ·rw[aG h1,aG (by omega)]
 ·rw[show κ-(e+1)+(s+1)=κ-e+s by omega,show κ-(e+1)+s+1=κ-e+s by omega,lam,show κ-e+s-1=κ-(e+1)+s by omega]
  grind
theorem aa8(K:Kno kn κ){e:Nat}(he:e+1<=κ)(hl:κ+e+1<kn.length)(c:Nat->Rat)(x:Rat):sD kn κ (e+1) c x=sD kn κ e (lam kn e c x) x+sS kn κ e (lad kn e c) x:=by
 have h:=LR (fun s=>c (κ-(e+1)+s)) (fun s=>wq kn e (κ-(e+1)+s)*ev (jn kn κ e (κ-(e+1)+s)) x+(x-kn.getD (κ-(e+1)+s) 0)*wq kn e (κ-(e+1)+s)*ev (ly (jn kn κ e (κ-(e+1)+s))) x) (fun s=>-(wq kn e (κ-(e+1)+s+1))*ev (jn kn κ e (κ-(e+1)+s+1)) x+(x-kn.getD (κ-(e+1)+s+1+(e+1)) 0)*(-(wq kn e (κ-(e+1)+s+1)))*ev (ly (jn kn κ e (κ-(e+1)+s+1))) x) e;rw[sD,show e+1+1=e+2 by omega,sD,sS,<-nr];refine Eq.trans (eF _ fun s hs=>?_) (h.trans (eF _ fun s hs=>?_))
 ·rw[bY1 K (by omega) (by omega) hl]
  congr 1
  congr 1
  ·by_cases h1:1<=s
   ·rw[aK h1,aK (by omega)]
   ·rw[aG h1,aG (by omega)]
  ·by_cases h1:s<=e
   ·rw[aK h1,aK (by omega)]
   ·rw[aG h1,aG (by omega)]
 ·rw[show κ-(e+1)+(s+1)=κ-e+s by omega,show κ-(e+1)+s+1=κ-e+s by omega,lam,lad,show κ-e+s-1=κ-(e+1)+s by omega]
  grind
theorem Sk{e:Nat}{c d:Nat->Rat}{x:Rat}(he:e<=κ)(h:∀j,κ-e<=j->j<=κ->c j=d j):sS kn κ e c x=sS kn κ e d x:=
 eF _ fun s hs=>by rw[h _ (by omega) (by omega)]
theorem bq0(e:Nat)(c:Nat->Rat)(k x:Rat):sS kn κ e (fun j=>k*c j) x=k*sS kn κ e c x:=by
 rw[sS,sS,<-zL];exact eF _ fun s _=>by grind
theorem bO0(e:Nat)(c d:Nat->Rat)(x:Rat):sS kn κ e (fun j=>c j+d j) x=sS kn κ e c x+sS kn κ e d x:=by
 rw[sS,sS,sS,<-nr];exact eF _ fun s _=>by grind
theorem bj6(K:Kno kn κ)(x:Rat):∀(e:Nat)(c:Nat->Rat),e+1<=κ->κ+e+1<kn.length->sD kn κ (e+1) c x=((e:Nat)+1:Rat)*sS kn κ e (lad kn e c) x
 | 0,c,he,hl=>by
   rw[aa8 K he hl]
   have:sD kn κ 0 (lam kn 0 c x) x=0:=by
    rw[sD,nZ,nZ,jn,aK (by omega)];show 0+_*(0:Rat)=0
    grind
   rw[this];grind
 | e+1,c,he,hl=>by
   rw[aa8 K he hl,bj6 K x e _ (by omega) (by omega)]
   have h1:sS kn κ e (lad kn e (lam kn (e+1) c x)) x=sS kn κ (e+1) (lad kn (e+1) c) x:=by
    rw[Zj K (by omega) (by omega)];refine Sk (by omega) fun j h1 h2=>?_;have p1:=K.pos (i:=j) (j:=j+(e+1+1)) h2 (by omega) (by omega);have p2:=K.pos (i:=j-1) (j:=j+(e+1)) (by omega) (by omega) (by omega);have p3:=K.pos (i:=j) (j:=j+(e+1)) h2 (by omega) (by omega);simp only[lad,lam,wq];rw[show j-1+(e+1+1)=j+(e+1) by omega];generalize kn.getD (j+(e+1+1)) 0=a at *;generalize kn.getD (j+(e+1)) 0=b at *;generalize kn.getD (j-1) 0=d at *;generalize kn.getD j 0=g at *;generalize c (j-1-1)=c0;generalize c (j-1)=c1;generalize c j=c2;have e1:=inv_one p1;have e2:=inv_one p2;generalize 1/(a-g)=A at *;generalize 1/(b-d)=B at *;generalize 1/(b-g)=C at *
    grind
   rw[h1];have:(((e+1:Nat):Nat):Rat)=((e:Nat):Rat)+1:=by grind
   rw[this];grind
end
section
variable{kn:List Rat}{κ:Nat}
theorem bV7(K:Kno kn κ){e:Nat}(he:e+1<=κ)(hl:κ+e+1<kn.length)(c:Nat->Rat)(u x:Rat):sS kn κ (e+1) c x+(u-x)*sD kn κ (e+1) c x*(1/((e:Nat)+1:Rat))=sS kn κ e (lam kn e c u) x:=by
 have hne:((e:Nat)+1:Rat)≠0:=by
  have:(0:Rat)<=((e:Nat):Rat):=Rat.natCast_nonneg
  grind
 have h1:=inv_one hne;rw[Zj K he hl,bj6 K x e c he hl]
 have h2:sS kn κ e (lam kn e c u) x=sS kn κ e (lam kn e c x) x+(u-x)*sS kn κ e (lad kn e c) x:=by
  rw[<-bq0,<-bO0];refine Sk (by omega) fun j _ _=>?_;simp only[lam,lad]
  grind
 rw[h2];generalize 1/(((e:Nat):Rat)+1)=y at *
 grind
def cL(kn:List Rat)(κ e:Nat)(c:Nat->Rat):Nat->List Rat
 | 0=>[]
 | n+1=>kH (cL kn κ e c n) (wi (jn kn κ e (κ-e+n)) (c (κ-e+n)))
theorem aN8(e:Nat)(c:Nat->Rat)(x:Rat):∀n,ev (cL kn κ e c n) x=nZ (fun s=>c (κ-e+s)*ev (jn kn κ e (κ-e+s)) x) n
 | 0=>rfl
 | n+1=>by rw[cL,jx,sL,aN8 e c x n,nZ];grind
theorem bj4(e:Nat)(c:Nat->Rat)(x:Rat):∀n,ev (ly (cL kn κ e c n)) x=nZ (fun s=>c (κ-e+s)*ev (ly (jn kn κ e (κ-e+s))) x) n
 | 0=>rfl
 | n+1=>by rw[cL,Qy,aa4,bj4 e c x n,nZ];grind
end
def es:List Rat->Nat->Rat
 | _,0=>1
 | [],_+1=>0
 | u::l,k+1=>es l (k+1)+u*es l k
theorem qZ(l:List Rat):es l 0=1:=by cases l<;>rfl
theorem aZ7(u v:Rat)(l:List Rat):∀k,es (u::v::l) k=es (v::u::l) k
 | 0=>rfl
 | 1=>by simp only[es,qZ];grind
 | k+2=>by simp only[es];grind
theorem bd5{l l':List Rat}(u:Rat)(h:∀k,es l k=es l' k):∀k,es (u::l) k=es (u::l') k
 | 0=>rfl
 | k+1=>by rw[es,es,h,h]
theorem ZM{l l':List Rat}(h:l.Perm l'):∀k,es l k=es l' k:=by
 induction h with
 | nil=>exact fun _=>rfl
 | cons u _ ih=>exact bd5 u ih
 | swap u v l=>exact aZ7 v u l
 | trans _ _ h1 h2=>exact fun k=>(h1 k).trans (h2 k)
theorem zo:∀(l:List Rat)(k:Nat),l.length<k->es l k=0
 | [],k+1,_=>rfl
 | u::l,k+1,h=>by
   simp only[an]at h;rw[es,zo l (k+1) (by omega),zo l k (by omega)];grind
def qy(n:Nat):Nat->Rat
 | 0=>1
 | k+1=>qy n k*(((n:Int)-(k:Int):Int):Rat)/(((k:Int)+1:Int):Rat)
theorem bb8(n k:Nat):(((n:Int)-(k:Int):Int):Rat)=(n:Rat)-(k:Rat):=by rw[Rat.intCast_sub];rfl
theorem rJ(k:Nat):(((k:Int)+1:Int):Rat)=(k:Rat)+1:=by rw[Rat.intCast_add];rfl
theorem wN(k:Nat):((k:Nat):Rat)+1≠0:=by
 have:(0:Rat)<=((k:Nat):Rat):=Rat.natCast_nonneg
 grind
theorem zD(n k:Nat):qy n (k+1)*((k:Rat)+1)=qy n k*((n:Rat)-(k:Rat)):=by
 rw[qy,bb8,rJ,oQ (wN k)]
theorem bm1(n:Nat):∀k,qy (n+1) k*((n:Rat)+1-(k:Rat))=((n:Rat)+1)*qy n k
 | 0=>by
   show(1:Rat)*((n:Rat)+1-((0:Nat):Rat))=((n:Rat)+1)*1;have:((0:Nat):Rat)=0:=rfl;rw[this];grind
 | k+1=>by
   have h1:=zD (n+1) k;have h2:=zD n k;have h3:=bm1 n k;have c1:((n+1:Nat):Rat)=(n:Rat)+1:=by grind
   have c2:((k+1:Nat):Rat)=(k:Rat)+1:=by grind
   have hk:=wN k;rw[c1]at h1;rw[c2];have e:=inv_one hk;generalize ((k:Nat):Rat)=a at *;generalize ((n:Nat):Rat)=b at *;generalize qy (n+1) (k+1)=p at *;generalize qy (n+1) k=q at *;generalize qy n (k+1)=r at *;generalize qy n k=s at *;generalize 1/(a+1)=i at *;have hp:p=q*(b+1-a)*i:=by grind
   have hr:r=s*(b-a)*i:=by grind
   grind
theorem Vn{n:Nat}:∀k,k<=n->qy n k≠0
 | 0,_=>by show(1:Rat)≠0;decide
 | k+1,h=>by
   have h1:=zD n k;have h2:=Vn (n:=n) k (by omega)
   have h3:(n:Rat)-(k:Rat)≠0:=by
    have:((k:Nat):Rat)<((n:Nat):Rat):=(Rat.natCast_lt_natCast (a:=k) (b:=n)).2 (by omega)
    grind
   intro h0;rw[h0]at h1;have:qy n k*((n:Rat)-(k:Rat))=0:=by grind
   exact(nz.1 this).elim h2 h3
def OJ(p l:List Rat):Rat:=nZ (fun k=>p.getD k 0*es l k*(1/qy l.length k)) (l.length+1)
theorem Cz{p l l':List Rat}(h:l.Perm l'):OJ p l=OJ p l':=by
 rw[OJ,OJ,h.length_eq];exact eF _ fun k _=>by rw[ZM h]
theorem ae4{C0 C1 i0 i1 a y z:Rat}(e0:C0*i0=1)(e1:C1*i1=1)(ey:(a+1)*y=1)(h:C1*z=(a+1)*C0):i1=z*y*i0:=by
 have f:z*y*i0*C1=1:=by
  have:z*y*i0*C1=y*i0*(C1*z):=by grind
  rw[this,h];have:y*i0*((a+1)*C0)=((a+1)*y)*(C0*i0):=by grind
  rw[this,ey,e0];grind
 have:i1=z*y*i0*C1*i1:=by rw[f];grind
 rw[this];have:z*y*i0*C1*i1=z*y*i0*(C1*i1):=by grind
 rw[this,e1];grind
theorem aP1{p0 p1 E b y i0 u a:Rat}(ey:(a+1)*y=1):p0*E*((a+1-b)*y*i0)+u*p1*E*((b+1)*y*i0)=(p0-p0*b*y+u*(p1*(b+1))*y)*E*i0:=by
 have:(a+1-b)*y=1-b*y:=by grind
 rw[this];grind
theorem av7{p p' l:List Rat}{u:Rat}(h:∀k:Nat,p'.getD k 0=p.getD k 0-p.getD k 0*(k:Rat)*(1/((l.length:Rat)+1))+u*(p.getD (k+1) 0*((k:Rat)+1))*(1/((l.length:Rat)+1))):OJ p (u::l)=OJ p' l:=by
 rw[OJ,OJ,an];obtain⟨n,hn⟩:∃n,l.length=n:=⟨_,rfl⟩
 rw[hn]at h|-
 have s1:nZ (fun k=>p.getD k 0*es (u::l) k*(1/qy (n+1) k)) (n+1+1)=nZ (fun k=>p.getD k 0*es l k*(1/qy (n+1) k)) (n+1+1)+nZ (fun k=>u*p.getD (k+1) 0*es l k*(1/qy (n+1) (k+1))) (n+1):=by
  rw[wG,wG (fun k=>p.getD k 0*es l k*(1/qy (n+1) k)),qZ,qZ,Rat.add_assoc,<-nr]
  congr 1
  refine eF _ fun k _=>?_;rw[es];grind
 rw[s1,nZ,zo l (n+1) (by omega)]
 have s2:nZ (fun k=>p.getD k 0*es l k*(1/qy (n+1) k)) (n+1)+p.getD (n+1) 0*0*(1/qy (n+1) (n+1))+nZ (fun k=>u*p.getD (k+1) 0*es l k*(1/qy (n+1) (k+1))) (n+1)=nZ (fun k=>p.getD k 0*es l k*(1/qy (n+1) k)+u*p.getD (k+1) 0*es l k*(1/qy (n+1) (k+1))) (n+1):=by
  rw[nr];grind
 rw[s2];refine eF _ fun k hk=>?_;rw[h];have hup:=bm1 n k;have hsu:=zD (n+1) k;have c1:((n+1:Nat):Rat)=(n:Rat)+1:=by grind
 rw[c1]at hsu;have e0:=inv_one (Vn (n:=n) k (by omega));have e1:=inv_one (Vn (n:=n+1) k (by omega));have e2:=inv_one (Vn (n:=n+1) (k+1) (by omega));have ey:=inv_one (wN n);rw[ae4 e0 e1 ey hup,ae4 e0 e2 ey (show qy (n+1) (k+1)*((k:Rat)+1)=((n:Rat)+1)*qy n k by rw[hsu,hup])];exact aP1 ey
theorem aQ2(p:List Rat):∀k:Nat,(0::ly p).getD k 0=p.getD k 0*(k:Rat)
 | 0=>by show(0:Rat)=_*((0:Nat):Rat);have:((0:Nat):Rat)=0:=rfl;rw[this];grind
 | k+1=>by
   rw[List.getD_cons_succ,sK,rJ];have:((k+1:Nat):Rat)=(k:Rat)+1:=by grind
   rw[this]
theorem VB{kn:List Rat}{κ:Nat}(K:Kno kn κ){e:Nat}(he:e+1<=κ)(hl:κ+e+1<kn.length)(c:Nat->Rat)(u:Rat)(l:List Rat)(hll:l.length=e):OJ (cL kn κ (e+1) c (e+2)) (u::l)=OJ (cL kn κ e (lam kn e c u) (e+1)) l:=by
 refine av7 fun k=>?_;rw[hll]
 have hev:∀x,ev (cL kn κ e (lam kn e c u) (e+1)) x=ev (kH (cL kn κ (e+1) c (e+2)) (wi (kH (wi (ly (cL kn κ (e+1) c (e+2))) u) (wi (0::ly (cL kn κ (e+1) c (e+2))) (-1))) (1/((e:Rat)+1)))) x:=fun x=>by
  have h:=bV7 K he hl c u x;rw[aN8,jx,sL,jx,sL,sL,bP,aN8,bj4];show sS kn κ e (lam kn e c u) x=sS kn κ (e+1) c x+(sD kn κ (e+1) c x*u+(sD kn κ (e+1) c x*x+0) * -1)*(1/((e:Rat)+1));rw[<-h];grind
 rw[VH hev k,xe,Mg,xe,Mg,Mg,sK,rJ];rw[aQ2];grind
def qk(kn:List Rat)(l d:Nat):List Rat:=(List.range d).map fun r=>kn.getD (l+1+r) 0
theorem ad0(kn:List Rat)(l d:Nat):(qk kn l d).length=d:=by simp[qk]
theorem Uu(kn:List Rat)(l d:Nat):qk kn l (d+1)=kn.getD (l+1) 0::qk kn (l+1) d:=by
 rw[qk,Sd,en,et]
 congr 1
 exact fW fun r _=>by show kn.getD (l+1+(r+1)) 0=kn.getD (l+1+1+r) 0;rw[show l+1+(r+1)=l+1+1+r by omega]
theorem Lb(kn:List Rat)(l d:Nat):(qk kn l (d+1)).Perm (kn.getD (l+1+d) 0::qk kn l d):=by
 rw[qk,gx,bt];exact List.perm_append_comm
theorem bH1{kn:List Rat}{κ:Nat}(K:Kno kn κ):∀(d:Nat)(c:Nat->Rat)(l:Nat),d<=κ->κ+d<kn.length->κ<=l+d->l<=κ->OJ (cL kn κ d c (d+1)) (qk kn l d)=c l
 | 0,c,l,_,_,h1,h2=>by
   obtain rfl:l=κ:=by omega
   show 0+(kH [] (wi (jn kn l 0 (l-0+0)) (c (l-0+0)))).getD 0 0*1*(1/1)=c l;rw[xe,Mg,jn,aK (by omega)];show 0+(0+((1:Int):Rat)*c l)*1*(1/1)=c l;have:((1:Int):Rat)=1:=rfl;rw[this];grind
 | e+1,c,l,hd,hl,h1,h2=>by
   by_cases h:κ<=l+e
   ·rw[Cz (Lb kn l e),VB K hd hl c _ _ (ad0 _ _ _),bH1 K e _ l (by omega) (by omega) h h2,lam];have p:=inv_one (K.pos (i:=l) (j:=l+(e+1)) h2 (by omega) (by omega));rw[show l+1+e=l+(e+1) by omega];simp only[wq];generalize 1/(kn.getD (l+(e+1)) 0-kn.getD l 0)=y at *
    grind
   ·rw[Uu,VB K hd hl c _ _ (ad0 _ _ _),bH1 K e _ (l+1) (by omega) (by omega) (by omega) (by omega),lam,jS];have p:=inv_one (K.pos (i:=l+1) (j:=l+1+(e+1)) (by omega) (by omega) (by omega));simp only[wq];generalize 1/(kn.getD (l+1+(e+1)) 0-kn.getD (l+1) 0)=y at *
    grind
theorem bz2{a b s t:Rat}(l:List Rat)(h:s+t=1):∀k,es ((s*a+t*b)::l) k=s*es (a::l) k+t*es (b::l) k
 | 0=>by rw[qZ,qZ,qZ];grind
 | k+1=>by
   rw[es,es,es]
   have:es l (k+1)=s*es l (k+1)+t*es l (k+1):=by
    have:s*es l (k+1)+t*es l (k+1)=(s+t)*es l (k+1):=by grind
    rw[this,h];grind
   grind
theorem ba6{p l:List Rat}{a b s t:Rat}(h:s+t=1):OJ p ((s*a+t*b)::l)=s*OJ p (a::l)+t*OJ p (b::l):=by
 simp only[OJ,an];rw[<-zL,<-zL,<-nr];refine eF _ fun k _=>?_;rw[bz2 l h]
 grind
theorem bB3{kn cf:List Rat}{κ d:Nat}(hd:d<=κ)(hk:κ+d+1<kn.length):nW kn d cf κ=cL kn κ d (fun i=>cf.getD i 0) (d+1):=by
 have h:∀n,rN kn d cf κ (κ-d) n=cL kn κ d (fun i=>cf.getD i 0) n:=fun n=>by
  induction n with
  | zero=>rfl
  | succ n ih=>rw[gv,cL,ih]
 rw[nW,h,show min κ (kn.length-d-1-1)+1-(κ-d)=d+1 by omega]
theorem Zt{kn:List Rat}{x:Rat}{lo hi:Nat}(h:∀t,t<kn.length->kn.getD t 0=x->lo<=t/\t<hi):∀n,n<=kn.length->mulN kn x n<=min n hi-lo
 | 0,_=>aq (Sg kn x 0) (cz _)
 | n+1,hn=>by
   have ih:=Zt h n (by omega);rw[mg];split
   ·rename_i hc;have:=h n (by omega) (gL.1 hc);omega
   ·omega
def fx(kn:List Rat)(x:Rat)(k:Nat):List Rat:=kn.take (k+1)++[x]++kn.drop (k+1)
theorem Sv{kn:List Rat}{x:Rat}{k:Nat}(hk:k+1<=kn.length):(fx kn x k).length=kn.length+1:=by
 rw[fx,cJ,cJ,bK,cW,lF];omega
theorem mG{kn:List Rat}{x:Rat}{k:Nat}(hk:k+1<=kn.length)(j:Nat):(fx kn x k).getD j 0=if j<=k then kn.getD j 0 else if j=k+1 then x else kn.getD (j-1) 0:=by
 have hl:(kn.take (k+1)).length=k+1:=by rw[bK];omega
 rw[fx,dq,fQ,mC];rw[hl];by_cases h1:j<=k
 ·rw[aK (by omega),aK h1,dm,aK (by omega),fQ]
 ·rw[aG (by omega),aG h1];by_cases h2:j=k+1
  ·subst h2;rw[aK rfl,fU];rfl
  ·rw[aG h2];obtain⟨q,hq⟩:∃q,j-(k+1)=q+1:=⟨j-(k+1)-1,by omega⟩
   rw[hq,vh,qB,eo,fQ,show k+1+q=j-1 by omega]
structure Add(kn:List Rat)(x:Rat)(k d:Nat):Prop where
 hr:gT false kn=true
 l1:kn.getD k 0<=x
 l2:x<kn.getD (k+1) 0
 hd:d<=k
 hk:k+d+1<kn.length
theorem Add.at{kn:List Rat}{x:Rat}{k d κ j:Nat}(A:Add kn x k d)(hj:j+1<kn.length+1)(hκ:κ+1<kn.length)(h0:(fx kn x k).getD j 0<(fx kn x k).getD (j+1) 0)(h1:kn.getD κ 0<=(fx kn x k).getD j 0)(h2:(fx kn x k).getD (j+1) 0<=kn.getD (κ+1) 0):κ=if j<=k then j else j-1:=by
 have hk:=A.hk;have r1:=A.l1;have r2:=A.l2;have at':=mG (kn:=kn) (x:=x) (k:=k) (by omega);by_cases c1:j+1<=k
 ·rw[at' j,aK (by omega)]at h0 h1;rw[at' (j+1),aK c1]at h0 h2;rw[aK (by omega)];rcases tI κ j with h | h | h
  ·have:=dS A.hr (show κ+1<=j by omega);grind
  ·exact h
  ·have:=dS A.hr (show j+1<=κ by omega);grind
 ·by_cases c2:j=k
  ·subst c2;rw[at' j,aK (aa _)]at h0 h1;rw[at' (j+1),aG (by omega),aK rfl]at h0 h2;rw[aK (aa _)];rcases tI κ j with h | h | h
   ·have:=dS A.hr (show κ+1<=j by omega);grind
   ·exact h
   ·have:=dS A.hr (show j+1<=κ by omega);grind
  ·rw[at' (j+1),aG (by omega),aG (by omega),jS]at h0 h2;rw[aG (by omega)];by_cases c3:j=k+1
   ·subst c3;rw[at' (k+1),aG (by omega),aK rfl]at h0 h1;rw[jS];rcases tI κ k with h | h | h
    ·have:=dS A.hr (show κ+1<=k by omega);grind
    ·exact h
    ·have:=dS A.hr (show k+1<=κ by omega);grind
   ·rw[at' j,aG (by omega),aG c3]at h0 h1;rcases tI κ (j-1)with h | h | h
    ·have:=dS A.hr (show κ+1<=j-1 by omega);grind
    ·exact h
    ·have:=dS A.hr (show j<=κ by omega);grind
theorem Add.cn0{kn:List Rat}{x:Rat}{k d i:Nat}(A:Add kn x k (d+1))(h1:k<i+(d+1))(h2:i<=k):(qk (fx kn x k) i (d+1)).Perm (x::qk kn i d):=by
 have hk:=A.hk;obtain⟨p,hp⟩:∃p,k-i=p:=⟨_,rfl⟩
 have e1:qk (fx kn x k) i (d+1)=(List.range p).map (fun r=>kn.getD (i+1+r) 0)++x::(List.range (d-p)).map (fun r=>kn.getD (i+1+(p+r)) 0):=by
  rw[qk,show d+1=p+(1+(d-p)) by omega,List.range_add,bt,et]
  congr 1
  ·refine fW fun r hr=>?_;have:=fL.1 hr;rw[mG (by omega),aK (by omega)]
  ·rw[List.range_add,bt];show _::_=_
   congr 1
   ·show(fx kn x k).getD (i+1+(p+0)) 0=x;rw[mG (by omega),aG (by omega),aK (by omega)]
   ·rw[et];refine fW fun r hr=>?_;show(fx kn x k).getD (i+1+(p+(1+r))) 0=_;rw[mG (by omega),aG (by omega),aG (by omega),show i+1+(p+(1+r))-1=i+1+(p+r) by omega]
 have e2:qk kn i d=(List.range p).map (fun r=>kn.getD (i+1+r) 0)++(List.range (d-p)).map (fun r=>kn.getD (i+1+(p+r)) 0):=by
  rw[qk,show d=p+(d-p) by omega,List.range_add,bt,et,show p+(d-p)-p=d-p by omega];rfl
 rw[e1,e2];exact List.perm_middle
theorem bB0{kn cf:List Rat}{x:Rat}{k d κ i j:Nat}(A:Add kn x k d)(hi:i+d<kn.length)(hij:i<=j)(hji:j<=i+d)(hκ:κ+1<kn.length)(hκd:d<=κ)(hκl:κ+d+1<kn.length)(h0:(fx kn x k).getD j 0<(fx kn x k).getD (j+1) 0)(h1:kn.getD κ 0<=(fx kn x k).getD j 0)(h2:(fx kn x k).getD (j+1) 0<=kn.getD (κ+1) 0):OJ (nW kn d cf κ) (qk (fx kn x k) i d)=sF kn cf x d k (mulN kn x kn.length) i:=by
 have hk:=A.hk;have hdk:=A.hd;have hat:=A.at (by omega) hκ h0 h1 h2;have K:Kno kn κ:=⟨A.hr,by grind⟩
 rw[bB3 hκd hκl,sF];have D:=fun l=>bH1 K d (fun i=>cf.getD i 0) l hκd (by omega);by_cases c1:i+d<=k
 ·rw[aK (by omega),show qk (fx kn x k) i d=qk kn i d from fW fun r hr=>by
   have:=fL.1 hr;rw[mG (by omega),aK (by omega)]]
  rw[aK (by omega)]at hat;exact D i (by omega) (by omega)
 rw[aG (by omega)];by_cases c2:k<i
 ·rw[aK (by omega),show qk (fx kn x k) i d=qk kn (i-1) d from fW fun r hr=>by
   rw[mG (by omega),aG (by omega),aG (by omega),show i+1+r-1=i-1+1+r by omega]]
  rw[aG (by omega)]at hat;exact D (i-1) (by omega) (by omega)
 obtain⟨e,rfl⟩:∃e,d=e+1:=⟨d-1,by omega⟩
 have hκ1:i<=κ/\κ<=i+e:=by
  split at hat<;>omega
 have p:=K.pos (i:=i) (j:=i+(e+1)) hκ1.1 (by omega) (by omega);have hq:=inv_one p;have ha:qk kn (i-1) (e+1)=kn.getD i 0::qk kn i e:=by rw[Uu,show i-1+1=i by omega]
 have d1:=D (i-1) (by omega) (by omega);have d2:=D i (by omega) (by omega);rw[ha]at d1;rw[Cz (Lb kn i e),show i+1+e=i+(e+1) by omega]at d2;obtain⟨y,hy⟩:∃y,1/(kn.getD (i+(e+1)) 0-kn.getD i 0)=y:=⟨_,rfl⟩
 have hx:x=(1-(x-kn.getD i 0)*y)*kn.getD i 0+((x-kn.getD i 0)*y)*kn.getD (i+(e+1)) 0:=by
  rw[hy]at hq;have:(1-(x-kn.getD i 0)*y)*kn.getD i 0+((x-kn.getD i 0)*y)*kn.getD (i+(e+1)) 0=kn.getD i 0+(x-kn.getD i 0)*((kn.getD (i+(e+1)) 0-kn.getD i 0)*y):=by grind
  rw[this,hq];grind
 have main:OJ (cL kn κ (e+1) (fun i=>cf.getD i 0) (e+1+1)) (qk (fx kn x k) i (e+1))=(1-(x-kn.getD i 0)*y)*cf.getD (i-1) 0+((x-kn.getD i 0)*y)*cf.getD i 0:=by
  rw[Cz (A.cn0 (by omega) (by omega))]
  conv=>lhs;rw[hx]
  rw[ba6 (by grind),d1,d2]
 rw[main];have hdv:(x-kn.getD i 0)/(kn.getD (i+(e+1)) 0-kn.getD i 0)=(x-kn.getD i 0)*y:=by rw[<-hy,pa,pa,vD]
 have h1':((1:Int):Rat)=1:=rfl;rw[hdv,h1'];split
 ·rename_i hm
  have hxe:kn.getD i 0=x:=by
   have l1:=A.l1;have l2:=A.l2;have:=dS A.hr (show i<=k by omega);refine Decidable.byContradiction fun hne=>?_
   have hlt:kn.getD i 0<x:=by grind
   have:=Zt (kn:=kn) (x:=x) (lo:=i+1) (hi:=k+1) (fun t ht he=>by
    constructor
    ·refine Decidable.byContradiction fun h=>?_
     have:=dS A.hr (show t<=i by omega)
     grind
    ·refine Decidable.byContradiction fun h=>?_
     have:=dS A.hr (show k+1<=t by omega) ht
     grind) kn.length (aa _)
   omega
  rw[hxe];grind
 ·grind
def bs3:Tr:=aR 9 0 (bA 0 0 2 0 32 24 25 (bW 10 4 51 26 (ju 11 32 27 (fH 4 64 3 12 23 28 32 (ao 2 1 3 21 (gq 0 14 13)))))) (uz 3 30 32 (ju 1 32 33 (fH 4 64 3 11 32 34 32 (Xl 10 32 36 37 (TI 4 64 12 13 35 38 32 (nP 4 14))))))
def bx6:Tr:=aR 5 0 (bA 0 0 2 0 32 13 14 (bW 6 4 51 15 (yJ 7 1 16 17 (qS .leq 3 18 0 8 0 4 bs3)))) (uz 3 30 32 (ju 1 32 33 (fH 4 64 3 7 32 34 32 (Xl 6 32 36 37 (TI 4 64 8 9 35 38 32 (nP 4 10))))))
def bB8:Tr:=xr (al 0 0 9 32 (dD 2 0 4 3 8 10 4 bx6))
theorem aE2:aV prog f42 ck [.v none,.v (some 4)]=bB8:=by kernel_rfl
def aX7:Tr:=bW 19 4 51 43 (pD 77 18 18 1 18 2 18 3 20 0 20 1 20 2 20 3 40 44 (pD 99 16 16 1 16 2 16 3 21 0 21 1 21 2 21 3 35 45 (cF 14 13 32 30 31 (.need (.strow 14 4 (.u 13 0) 0 [(.u 22 0),(.u 22 1),(.u 22 2),(.u 22 3)]) (.store 51 (tT 47) (tT 46)) 0 false (dp 13 1 28 (gq 1 24 23))))))
def aT6:Tr:=aR 15 0 (cF 14 13 32 32 33 (OM 14 13 4 51 34 (dp 13 1 37 (cF 14 17 32 36 38 (OM 14 17 4 51 39 (bA 1 0 4 0 32 41 42 aX7)))))) (ao 4 1 3 17 (gq 0 16 14))
def bA3:Tr:=pI 39 0 4 2 51 (ju 8 32 20 (fH 4 64 5 9 19 21 32 (uz 10 23 32 (dp 11 1 24 (.loop 1 [lV 12 0,.row 10] (qS .gtr 3 26 0 13 0 4 aT6))))))
def aY7:Tr:=Lt 39 30 4 77 51 (fO 77 [(.agg [(U 15 0),(U 16 0),(U 17 0),(U 18 0)]),(G4 31)] [(some 4)] [73,78] [51,51] 51 false (ao 10 1 3 80 (nL 39 33 4 81 2 51 (pD 151 32 32 1 32 2 32 3 34 0 34 1 34 2 34 3 79 82 (ao 10 1 3 54 (.back 0 [lV 36 0,lV 28 0,lV 28 1,lV 28 2,lV 28 3,lV 35 0,lV 35 1,lV 35 2,lV 35 3]))))))
def aR5:Tr:=cF 5 10 32 65 66 (OM 5 10 4 51 67 (fO 77 [(G4 24),(G4 25)] [(some 4)] [64,68] [51,51] 51 false (pD 151 26 26 1 26 2 26 3 15 0 16 0 17 0 18 0 69 70 (pD 99 11 12 0 13 0 14 0 27 0 27 1 27 2 27 3 60 71 (al 1 0 74 32 (eH 29 10 0 3 75 76 aY7))))))
def aU2:Tr:=Lt 39 24 4 77 51 (fO 77 [(.agg [(U 15 0),(U 16 0),(U 17 0),(U 18 0)]),(G4 25)] [(some 4)] [73,78] [51,51] 51 false (ao 10 1 3 80 (nL 39 27 4 81 2 51 (pD 151 26 26 1 26 2 26 3 28 0 28 1 28 2 28 3 79 82 (ao 10 1 3 54 (.back 0 [lV 30 0,lV 11 0,lV 12 0,lV 13 0,lV 14 0,lV 29 0,lV 29 1,lV 29 2,lV 29 3]))))))
def ba1:Tr:=oe .leq 3 50 52 10 0 19 0 4 (aR 20 0 (al 0 0 57 102 (dD 10 0 21 3 56 58 4 (aR 22 0 (bA 0 0 10 0 102 61 62 (bW 23 4 51 63 aR5)) (al 1 0 74 32 (eH 23 10 0 3 75 76 aU2))))) (pA 11 12 0 13 0 14 0))
def bI2:Tr:=al 1 0 14 32 (dD 4 0 6 3 13 15 4 (aR 7 0 bA3 (pI 39 0 4 2 51 (pI 39 1 4 2 51 (.loop 0 [lK 0,lV 8 0,lV 8 1,lV 8 2,lV 8 3,lV 9 0,lV 9 1,lV 9 2,lV 9 3] (al 1 0 51 32 ba1))))))
def bE0:Tr:=pI 39 1 4 2 51 (ju 2 32 11 (Ed 0 3 bI2))
theorem aA4:aV prog f121 ck [.v none,.v none]=bE0:=by kernel_rfl
theorem WH{E sz b T ty:Nat}{x y z:Operand}{k k':IntKind}{l h:Nat}{ts:List (List aC)}(he:dY prog T=some (E,sz,b))(h1:l<=h)(h2:h<=ts.length):ah prog (.slice T x (some y) (some z) none) ty [.one (.slice sz ts),.one (.int k (l:Int)),.one (.int k' (h:Int))] (.one (.slice sz ((ts.take h).drop l))):=by
 intro M w ρ o ho _ hr;have hx:(aC.slice sz ts).rep M w (ρ x):=hr.1;have hy:ρ y=.int k l/\_:=hr.2.1;have hz:ρ z=.int k' h/\_:=hr.2.2.1;have hx':=hx;obtain⟨ad,cap,hv,hc,hm,_⟩:=hx;rw[hv]at hx';obtain⟨ie,hu,hie,hies,_⟩:=bZ he;have:=qD (l:=l) (h:=h) (m:=cap) hx' h1 h2 (by omega) (aa _);refine⟨_,?_,this⟩;have i1:(0:Int)<=(l:Int)/\(l:Int)<=(h:Int):=⟨by omega,by omega⟩
 have i2:(0:Int)<=(h:Int)/\(h:Int)<=(cap:Int):=⟨by omega,by omega⟩
 have i3:h<=cap:=by omega
 simp[execOp,ho,hv,hy.1,hz.1,Instr.sliceAt,Instr.slice,Instr.sliceBounds,Instr.sliceBound,asIntOf,eY hu,sizeOf,typeInfo,hie,hies,i1,i2,i3,h1]
theorem aM7(t:List RQ)(x:RQ)(k A:Nat)(hk:∀a∈t,Fit A a.q)(hx:Fit A x.q)(hs:t.length<=60)(h1:∀i,i<=k->(t.getD i .nil).q<=x.q)(h2:x.q<(t.getD (k+1) .nil).q)(hA1:1<=A:=by omega)(hA:A<=1000000:=by omega)(hlt:k+1<t.length:=by omega):aU prog 42 [(.one (sR t):aN),(qw x:aN)] (.ret [.one (sR (t.take (k+1)++[x]++t.drop (k+1)))]):=by
 refine dL func42 aE2 ?_;refine bE {i:Nat // i<=k+1} (fun g=>[.one (.int .i64 (g.1:Int)),.rows (rR (t.take g.1))]) (fun g=>t.length-g.1) ⟨0,cz _⟩ aZ.rfl (fun _=>rfl) ?_;rintro⟨i,hi⟩;dsimp only[aE,aF]at hi|-;have htl:(t.take i).length=i:=by rw[bK];omega
 apply vn (aP eG (aI _));apply vn aj;rw[bV (show(i:Int)<(t.length:Int) by omega)];refine jm true rfl (fun _=>?_) (fun h=>by cases h);apply vn (aJ (f:=rC) eG (m:=i) (by omega) (av i) (bf (show i<t.length by omega)));apply vn (aQ gB (by decide) (by simp) (.inl rfl));dsimp only[aE,aF];apply aA (jw _ _ A A (af hk _ hA1) hx);apply vn jO;refine vs _ rfl ?_ ?_<;>intro h8
 ·have hik:i<k+1:=by
   refine Decidable.byContradiction fun h=>?_
   obtain rfl:i=k+1:=by omega
   exact Rat.not_le.2 h2 (nI.1 ‹_›)
  apply vn (aJ (f:=rC) eG (m:=i) (by omega) (av i) (bf (show i<t.length by omega)));apply vn (aQ gB (by decide) (by simp) (.inl rfl));dsimp only[aE,aF];apply eL (us:=[rC (t.getD i .nil)]);refine iE (xs:=t.take i) (x:=t.getD i .nil) (f:=rC) rfl rfl (by omega) (by simp only[maxLen];omega) ?_;rw[show t.take i++[t.getD i .nil]=t.take (i+1) by rw[ma,bf (show i<t.length by omega)];rfl];apply vn (aB (by omega) (by omega));dsimp only[aE,aF];exact ab rfl ⟨⟨i+1,by omega⟩,aZ.rfl,by show t.length-(i+1)<t.length-i;omega⟩
 obtain rfl:i=k+1:=by
  refine Decidable.byContradiction fun h=>?_
  exact ‹¬ef _ _<=0› (nI.2 (h1 i (by omega)))
 refine Hl rfl ((aI _).trans htl) ?_;apply eL (us:=[rC x]);refine iE (xs:=t.take (k+1)) (x:=x) (f:=rC) rfl rfl (by omega) (by simp only[maxLen];omega) ?_;apply vn (DP (f:=rC) (ds:=t) eG (m:=k+1) (by omega) (by omega) (by omega));dsimp only[aE,aF];refine uH (ts:=rR (t.take (k+1)++[x])) (us:=rR (t.drop (k+1))) (vs:=rR (t.take (k+1)++[x]++t.drop (k+1))) rfl (.inr aC.Sub.same) (bt).symm (by rw[aI,cJ,cJ,cW,htl,lF];omega) (by rw[aI,cJ,cJ,cW,htl,lF];simp only[maxLen];omega) ?_;exact aL
def eT(u:List RQ)(i k:Nat):Rat:=es ((u.map RQ.q).take i).reverse k
theorem Ah(u:List RQ)(i:Nat):eT u i 0=1:=qZ _
theorem Zq{u:List RQ}{i:Nat}(hi:i<u.length)(k:Nat):eT u (i+1) (k+1)=eT u i (k+1)+(u.getD i .nil).q*eT u i k:=by
 have h:((u.map RQ.q).take (i+1)).reverse=(u.getD i .nil).q::((u.map RQ.q).take i).reverse:=by
  rw[ma,cn,bf hi,MU];rfl
 rw[eT,h,es];rfl
theorem aX2{u:List RQ}{i k:Nat}(h:i<k):eT u i k=0:=zo _ _ (by rw[eO,bK];omega)
def eM(u:List RQ)(i k j:Nat):Rat:=if k<j then eT u (i+1) j else eT u i j
def FB(A:Nat):Nat->Nat
 | 0=>1
 | i+1=>2*FB A i+A+1
theorem pv{A:Nat}{u:List RQ}(hA1:1<=A)(hu:∀a∈u,Fit A a.q):∀(i:Nat),i<=u.length->∀k,Fit (FB A i) (eT u i k)
 | 0,_,0=>(Fit.int (n:=1) (B:=1) (by omega) (by omega):Fit 1 _)
 | 0,_,k+1=>Fit.zero (aa 1)
 | i+1,h,0=>by
   rw[Ah];have:=pv hA1 hu i (by omega) 0;rw[Ah]at this;exact this.mono (by rw[FB];omega)
 | i+1,h,k+1=>by
   rw[Zq (by omega)];exact((pv hA1 hu i (by omega) (k+1)).add ((af hu i hA1).mul (pv hA1 hu i (by omega) k))).mono (by rw[FB];omega)
def Ps(p u:List RQ):Nat->Rat
 | 0=>((0:Int):Rat)
 | k+1=>if k<p.length then Ps p u k+(p.getD k .nil).q*eT u u.length k/qy u.length k else Ps p u k
theorem aW4(p u:List RQ):Ps p u (u.length+1)=OJ (p.map RQ.q) (u.map RQ.q):=by
 have h:∀n,Ps p u n=nZ (fun k=>(p.map RQ.q).getD k 0*es (u.map RQ.q) k*(1/qy (u.map RQ.q).length k)) n:=fun n=>by
  induction n with
  | zero=>rfl
  | succ n ih=>
    rw[Ps,nZ,ih,aI];split
    ·rw[fN,eT,dP (by rw[aI];exact aa _),ZM (List.reverse_perm _),pa,pa,vD]
    ·rename_i hn;have:(p.map RQ.q).getD n 0=0:=sG (by rw[aI];omega);rw[this];grind
 rw[h,OJ,aI]
theorem YB{n:Nat}(hn:n<=60):∀k,k<=60->Fit (1+k*124) (qy n k)
 | 0,_=>(Fit.int (n:=1) (B:=1) (by omega) (by omega):Fit 1 _)
 | k+1,h=>by
   have h1:=YB hn k (by omega);exact((h1.mul (Fit.int (n:=(n:Int)-(k:Int)) (B:=62) (by omega) (by omega))).div (Fit.int (n:=(k:Int)+1) (B:=62) (by omega) (by omega))).mono (by omega)
theorem ae5{P A:Nat}{p u:List RQ}(hP1:1<=P)(hA1:1<=A)(hp:∀a∈p,Fit P a.q)(hu:∀a∈u,Fit A a.q)(hn:u.length<=59):∀k,k<=u.length+1->Fit (1+k*(P+FB A u.length+8000)) (Ps p u k)
 | 0,_=>by
   rw[lX];exact(Fit.zero (aa 1):Fit 1 0)
 | k+1,h=>by
   have h1:=ae5 hP1 hA1 hp hu hn k (by omega);rw[Ps];split
   ·exact(h1.add (((af hp k hP1).mul (pv hA1 hu _ (aa _) k)).div (YB (by omega) k (by omega)))).mono (by rw[bX];omega)
   ·exact h1.mono (by rw[bX];omega)
abbrev eR'(u:List RQ)(i k n:Nat):List RQ:=(List.range n).map fun j=>.of (eM u i k j)
theorem az9{u:List RQ}{i k n j:Nat}(h:j<n):(eR' u i k n)[j]?=some (.of (eM u i k j)):=by rw[cn,kv h];rfl
theorem aJ9(u:List RQ)(i:Nat):((List.range (i+1)).map fun j=>RQ.of (eT u i j))++[.of ((0:Int):Rat)]=eR' u i (i+1) (i+2):=by
 rw[eR',gx (n:=i+1),bt]
 congr 1
 ·exact fW fun j hj=>by rw[eM,aG (by have:=fL.1 hj;omega)]
 ·show _=[RQ.of (eM u i (i+1) (i+1))];rw[eM,aG (by omega),aX2 (by omega)];rfl
theorem bI7(u:List RQ)(i:Nat):eR' u i 0 (i+2)=(List.range (i+2)).map fun j=>RQ.of (eT u (i+1) j):=fW fun j hj=>by
 rw[eM];split
 ·rfl
 ·obtain rfl:j=0:=by omega
  rw[Ah,Ah]
theorem bK3{u:List RQ}{i k n:Nat}(hi:i<u.length)(hk:k+1<n:=by omega):(eR' u i (k+1) n).set (k+1) (.of (eM u i (k+1) (k+1)+eM u i (k+1) k*(u.getD i .nil).q))=eR' u i k n:=by
 apply fJ;intro j;rw[mR,cn,cn];by_cases h:k+1=j
 ·subst h;rw[aK rfl,aK (by simp;omega),kv hk];show some _=some (RQ.of (eM u i k (k+1)));rw[eM,eM,eM,aG (by omega),aG (by omega),aK (by omega),Zq hi,Rat.mul_comm]
 ·rw[aG h];cases hj:(List.range n)[j]? with
  | none=>rfl
  | some y=>
    obtain rfl:y=j:=by
     have:=(dM.1 hj)
     obtain⟨h1,h2⟩:=this;rw[List.getElem_range]at h2;exact h2.symm
    show some (RQ.of _)=some (RQ.of _);rw[eM,eM];by_cases c:k<y
    ·rw[aK (by omega),aK c]
    ·rw[aG (by omega),aG c]
theorem Yy{A:Nat}{u:List RQ}(hA1:1<=A)(hu:∀a∈u,Fit A a.q){i:Nat}(hi:i<u.length)(k j:Nat):Fit (FB A (i+1)) (eM u i k j):=by
 rw[eM];split
 ·exact pv hA1 hu _ (by omega) j
 ·exact(pv hA1 hu _ (by omega) j).mono (by rw[FB];omega)
theorem bK8{A i n:Nat}(h:i<=n):FB A i<=FB A n:=by
 induction n with
 | zero=>rw[show i=0 by omega];exact aa _
 | succ n ih=>
   by_cases e:i=n+1
   ·rw[e];exact aa _
   ·have:=ih (by omega);rw[FB];omega
theorem aG5(p u:List RQ)(P A:Nat)(hP1:1<=P)(hA1:1<=A)(hA:A<=1000000)(hp:∀a∈p,Fit P a.q)(hu:∀a∈u,Fit A a.q)(hl:p.length<=1000)(hb:60*(P+FB A u.length+8000)<=1000000000)(hn:u.length<=50:=by omega):aU prog 121 [(.one (sR p):aN),(.one (sR u):aN)] (.ret [qw (.of (Ps p u (u.length+1)))]):=by
 refine dL func121 aA4 ?_;obtain⟨z0,hz0⟩:∃z,RQ.of ((0:Int):Rat)=z:=⟨_,rfl⟩
 apply aA (jd 1);apply eL (us:=[rC (.of ((1:Int):Rat))]);refine bE {i:Nat // i<=u.length} (fun g=>[.one (.int .i64 (g.1:Int)),.rows (rR ((List.range (g.1+1)).map fun j=>RQ.of (eT u g.1 j)))]) (fun g=>u.length-g.1) ⟨0,cz _⟩ aZ.rfl (fun _=>rfl) ?_;rintro⟨i,hi⟩;dsimp only[aE,aF]at hi|-;apply vn (aP eG (aI _));apply vn aj;refine vs _ rfl ?_ ?_<;>intro h5
 ·have hi':i<u.length:=by omega
  obtain⟨X,hX⟩:∃X,((List.range (i+1)).map fun j=>RQ.of (eT u i j))=X:=⟨_,rfl⟩
  have hXl:X.length=i+1:=by rw[<-hX,aI,oh]
  rw[hX];apply aA (jd 0);rw[hz0];apply eL (us:=[rC z0]);dsimp only[aE,aF];refine iE (xs:=X) (x:=z0) (f:=rC) rfl rfl (by omega) (by simp only[maxLen];omega) ?_;rw[<-hz0,<-hX,aJ9];refine Hl (n:=i+2) rfl (by simp) ?_;apply vn (aH (by omega) (by omega));dsimp only[aE,aF];rw[show(((i+2:Nat):Int)-1)=((i+1:Nat):Int) by omega];refine bE {k:Nat // k<=i+1} (fun g=>[.one (.int .i64 (g.1:Int)),.rows (rR (eR' u i g.1 (i+2)))]) (fun g=>g.1) ⟨i+1,aa _⟩ aZ.rfl (fun _=>rfl) ?_;rintro⟨k,hk⟩;dsimp only[aE,aF]at hk|-;apply vn fB;refine vs _ rfl ?_ ?_<;>intro h13
  ·obtain⟨k,rfl⟩:∃k',k=k'+1:=⟨k-1,by omega⟩
   have hln:(eR' u i (k+1) (i+2)).length=i+2:=by simp
   have hes:=bK8 (A:=A) (show i+1<=u.length by omega);refine br (xs:=eR' u i (k+1) (i+2)) (f:=rC) rfl rfl (by omega) (by rw[hln];omega) ?_;refine Kj (xs:=eR' u i (k+1) (i+2)) (f:=rC) (m:=k+1) rfl rfl (by omega) (by omega) (az9 (by omega)) (.inl rfl) rfl ?_;dsimp only[aE,aF,Yi,List.drop,List.take];apply vn (aH (by omega) (by omega));refine br (xs:=eR' u i (k+1) (i+2)) (f:=rC) rfl rfl (by omega) (by rw[hln];omega) ?_;refine Kj (xs:=eR' u i (k+1) (i+2)) (f:=rC) (m:=k) rfl rfl (by omega) (by omega) (az9 (by omega)) (.inl rfl) rfl ?_;dsimp only[aE,aF,Yi,List.drop,List.take];apply vn (aJ (f:=rC) eG (m:=i) (by omega) (av i) (bf hi'));apply vn (aQ gB (by decide) (by simp) (.inl rfl));apply aA (uJ (.of (eM u i (k+1) k)) (u.getD i .nil) (FB A (i+1)) A (Yy hA1 hu hi' _ _) (af hu i hA1));apply aA (uG (.of (eM u i (k+1) (k+1))) (.of (eM u i (k+1) k*(u.getD i .nil).q)) (FB A (i+1)) (FB A (i+1)+A) (Yy hA1 hu hi' _ _) ((Yy hA1 hu hi' _ _).mul (af hu i hA1)));dsimp only[aE,aF];refine br (xs:=eR' u i (k+1) (i+2)) (f:=rC) rfl rfl (by omega) (by rw[hln];omega) ?_;refine iJ (xs:=eR' u i (k+1) (i+2)) (f:=rC) (m:=k+1) (d':=.of (eM u i (k+1) (k+1)+eM u i (k+1) k*(u.getD i .nil).q)) rfl rfl (by omega) (by omega) (az9 (by omega)) rfl ?_;rw[bK3 hi'];apply vn (aH (by omega) (by omega));dsimp only[aE,aF];rw[show(((k+1:Nat):Int)-1)=(k:Int) by omega];exact ab rfl ⟨⟨k,by omega⟩,aZ.rfl,vx k⟩
  obtain rfl:k=0:=by omega
  rw[bI7];apply vn (aB (by omega) (by omega));dsimp only[aE,aF];exact ab rfl ⟨⟨i+1,by omega⟩,aZ.rfl,by show u.length-(i+1)<u.length-i;omega⟩
 obtain rfl:i=u.length:=by omega
 apply aA (jd 0);apply aA (jd 1);refine bE {k:Nat // k<=u.length+1} (fun g=>(.one (.int .i64 (g.1:Int)):aN)::((rC (.of (Ps p u g.1))).map .one++(rC (.of (qy u.length g.1))).map .one)) (fun g=>u.length+1-g.1) ⟨0,cz _⟩ aZ.rfl (fun _=>rfl) ?_;rintro⟨k,hk⟩;dsimp only[aE,aF,List.map]at hk|-;apply vn (aP eG (aI _));apply vn jO;refine vs _ rfl ?_ ?_<;>intro h34
 ·have hk':k<=u.length:=by omega
  have hpf:=ae5 hP1 hA1 hp hu (by omega) k hk;have hbf:=YB (n:=u.length) (by omega) k (by omega);have hk2:k*(P+FB A u.length+8000)<=58*(P+FB A u.length+8000):=cN _ (by omega);have hbne:=Vn (n:=u.length) k hk';have hnext:RQ.of (qy u.length k*(((u.length:Int)-(k:Int):Int):Rat)/(((k:Int)+1:Int):Rat))=.of (qy u.length (k+1)):=rfl;apply vn (aP jv (aI _));apply vn aj;dsimp only[aE,aF];refine vs _ rfl ?_ ?_<;>intro h37
  ·have hlt:k<p.length:=by omega
   apply vn (aJ (f:=rC) jv (m:=k) (by omega) (av k) (bf hlt));apply vn (aQ gB (by decide) (by simp) (.inl rfl));refine br (xs:=(List.range (u.length+1)).map fun j=>RQ.of (eT u u.length j)) (f:=rC) rfl rfl (by omega) (by simp;omega) ?_;refine Kj (xs:=(List.range (u.length+1)).map fun j=>RQ.of (eT u u.length j)) (f:=rC) (d:=.of (eT u u.length k)) (m:=k) rfl rfl (by omega) (by omega) (by rw[cn,kv (by omega)];rfl) (.inl rfl) rfl ?_;dsimp only[aE,aF,Yi,List.drop,List.take];apply aA (uJ (p.getD k .nil) (.of (eT u u.length k)) P (FB A u.length) (af hp k hP1) (pv hA1 hu _ (aa _) k));apply aA (MN (.of ((p.getD k .nil).q*eT u u.length k)) (.of (qy u.length k)) (P+FB A u.length) (1+k*124) hbne ((af hp k hP1).mul (pv hA1 hu _ (aa _) k)) hbf);apply aA (uG (.of (Ps p u k)) (.of ((p.getD k .nil).q*eT u u.length k/qy u.length k)) (1+k*(P+FB A u.length+8000)) (P+FB A u.length+(1+k*124)) hpf (((af hp k hP1).mul (pv hA1 hu _ (aa _) k)).div hbf));apply vn (aP eG (aI _));dsimp only[aE,aF];apply vn (aH (by omega) (by omega));apply aA (jd ((u.length:Int)-(k:Int)));apply aA (uJ (.of (qy u.length k)) (.of (((u.length:Int)-(k:Int):Int):Rat)) (1+k*124) 62 hbf (Fit.int (by omega) (by omega)));apply vn (aB (by omega) (by omega));dsimp only[aE,aF];apply aA (jd ((k:Int)+1));apply aA (MN (.of (qy u.length k*(((u.length:Int)-(k:Int):Int):Rat))) (.of (((k:Int)+1:Int):Rat)) (1+k*124+62) 62 (by rw[RQ.Pv,rJ];exact wN k) (hbf.mul (Fit.int (by omega) (by omega))) (Fit.int (by omega) (by omega))) rfl;apply vn (aB (by omega) (by omega));dsimp only[aE,aF];exact ab rfl ⟨⟨k+1,by omega⟩,⟨.inl rfl,.inl (by rw[Ps,aK hlt];rfl),.inl (by rw[Ps,aK hlt];rfl),.inl (by rw[Ps,aK hlt];rfl),.inl (by rw[Ps,aK hlt];rfl),.inl rfl,.inl rfl,.inl rfl,.inl rfl,trivial⟩,by show u.length+1-(k+1)<u.length+1-k;omega⟩
  have hge:¬k<p.length:=by omega
  apply vn (aP eG (aI _));apply vn (aH (by omega) (by omega));apply aA (jd ((u.length:Int)-(k:Int)));apply aA (uJ (.of (qy u.length k)) (.of (((u.length:Int)-(k:Int):Int):Rat)) (1+k*124) 62 hbf (Fit.int (by omega) (by omega)));dsimp only[aE,aF];apply vn (aB (by omega) (by omega));apply aA (jd ((k:Int)+1));apply aA (MN (.of (qy u.length k*(((u.length:Int)-(k:Int):Int):Rat))) (.of (((k:Int)+1:Int):Rat)) (1+k*124+62) 62 (by rw[RQ.Pv,rJ];exact wN k) (hbf.mul (Fit.int (by omega) (by omega))) (Fit.int (by omega) (by omega))) rfl;apply vn (aB (by omega) (by omega));dsimp only[aE,aF];exact ab rfl ⟨⟨k+1,by omega⟩,⟨.inl rfl,.inl (by rw[Ps,aG hge];rfl),.inl (by rw[Ps,aG hge];rfl),.inl (by rw[Ps,aG hge];rfl),.inl (by rw[Ps,aG hge];rfl),.inl rfl,.inl rfl,.inl rfl,.inl rfl,trivial⟩,by show u.length+1-(k+1)<u.length+1-k;omega⟩
 rw[show k=u.length+1 by omega];exact aL
end Go.Sy
