/- Part. -/
import Derived.Test.YtacgmapjhpghkaaGreatDoorXe
set_option linter.all false
namespace Go.Sy
open Go Go.Proofs Tryz Ord
theorem aS4 {x y:List dJ} (h:wO x y 8=true) (hg:mR (aU x) (aU y)=true):Ar (aU x) (aU y):=by
 simp only [wO,Bool.and_eq_true,Bool.not_eq_true',Bool.and_eq_false_iff,decide_eq_false_iff_not] at h;simp only [mR,Bool.and_eq_true,decide_eq_true_eq] at hg;obtain ⟨g1,g2,g3,g4⟩:=hg;have hl:(aU x).length=x.length:=aK _;refine ⟨g1,?_,g4,g3,(pG h.1).2,(pG h.2.1).2⟩;rcases h.2.2 with e | e<;>omega
open Go Go.Proofs Tryz Ord
theorem xN (f:Nat->Rat) (n s:Nat):((List.range n).map f).getD s 0=if s<n then f s else 0:=by
 rw [fV,dL];split
 .rename_i h;rw [List.getElem?_range h];rfl
 .rename_i h;rw [List.getElem?_eq_none (by rw [mV];omega)];rfl
theorem oZ {p:List Rat} {i:Nat} (h:p.length<=i:=by omega):p.getD i 0=0:=by rw [fV,List.getElem?_eq_none h];rfl
theorem sE (p q:List Rat) (i:Nat):(iM p q).getD i 0=p.getD i 0+q.getD i 0:=by
 rw [iM,iH,xN];split
 .rfl
 .rw [oZ (p:=p),oZ (p:=q)];grind
theorem Ug (p:List Rat) (k:Rat) (i:Nat):(wF p k).getD i 0=p.getD i 0*k:=by
 rw [wF,iH,xN];split
 .rfl
 .rw [oZ (p:=p)];grind
theorem sI (p:List Rat) (i:Nat):(cM p).getD i 0=p.getD (i+1) 0*(((i:Int)+1:Int):Rat):=by
 rw [cM,iH,xN];split
 .rfl
 .rw [oZ (p:=p)];grind
theorem rE (p:List Rat):(pE p).getD 0 0=0:=by
 rw [pE,iH,xN,if_pos (by omega),igI,if_pos rfl]
theorem yI (p:List Rat) (i:Nat):(pE p).getD (i+1) 0=p.getD i 0/(((i:Int)+1:Int):Rat):=by
 have hne:(((i+1:Nat):Int):Rat)≠0:=by
  intro e;have:((i+1:Nat):Int)=0:=by exact_mod_cast e
  omega
 rw [pE,iH,xN];split
 .rw [igI,if_neg (by omega),Nat.add_sub_cancel,Qm hne];rfl
 .rw [oZ (p:=p),Rat.div_def,Rat.zero_mul]
theorem pO {p q:List Rat} (h:∀ i,p.getD i 0=q.getD i 0) (x:Rat):ev p x=ev q x:=by
 rw [<-oP x p (max p.length q.length) (by omega),<-oP x q (max p.length q.length) (by omega)]
 congr 1
 exact List.map_congr_left fun i _=>h i
theorem Ud {p q:List Rat} (h:∀ x,ev p x=ev q x) (i:Nat):p.getD i 0=q.getD i 0:=by
 have:trim p=trim q:=Al (hU _) (hU _) fun x=>by rw [kW,kW,h]
 rw [<-iH p,<-iH q,this]
theorem ac3 {p q:List Rat} (h:∀ x,ev p x=ev q x) (x:Rat):ev (cM p) x=ev (cM q) x:=pO (fun i=>by rw [sI,sI,Ud h]) x
theorem So {p q:List Rat} (h:∀ x,ev p x=ev q x) (x:Rat):ev (pE p) x=ev (pE q) x:=pO (fun i=>by
 cases i with
 | zero=>rw [rE,rE]
 | succ i=>rw [yI,yI,Ud h]) x
theorem Ac (p q:List Rat) (x:Rat):ev (cM (iM p q)) x=ev (cM p) x+ev (cM q) x:=by
 rw [<-iC];exact pO (fun i=>by rw [sI,sE,sE,sI,sI];grind) x
theorem Ti (p:List Rat) (k x:Rat):ev (cM (wF p k)) x=ev (cM p) x*k:=by
 rw [<-iR];exact pO (fun i=>by rw [sI,Ug,Ug,sI];grind) x
theorem ak1 (p q:List Rat) (x:Rat):ev (pE (iM p q)) x=ev (pE p) x+ev (pE q) x:=by
 rw [<-iC]
 exact pO (fun i=>by
  cases i with
  | zero=>rw [sE,rE,rE,rE];grind
  | succ i=>rw [sE,yI,yI,yI,sE,Rat.div_def,Rat.div_def,Rat.div_def];grind) x
theorem aK3 (p:List Rat) (k x:Rat):ev (pE (wF p k)) x=ev (pE p) x*k:=by
 rw [<-iR]
 exact pO (fun i=>by
  cases i with
  | zero=>rw [Ug,rE,rE];grind
  | succ i=>rw [Ug,yI,yI,Ug,Rat.div_def,Rat.div_def];grind) x
theorem aK2 (i:Nat):(((i:Int)+1:Int):Rat)≠0:=by
 intro e;have:((i:Int)+1)=0:=by exact_mod_cast e
 omega
theorem aK7 (G:List Rat) (x:Rat):ev (pE (cM G)) x=ev G x-G.getD 0 0:=by
 have h:ev G x=ev (iM (pE (cM G)) [G.getD 0 0]) x:=pO (fun i=>by
  cases i with
  | zero=>rw [sE,rE];show _=0+G.getD 0 0;grind
  | succ i=>rw [sE,yI,sI,oZ (p:=[G.getD 0 0]) (by simp),Rat.mul_div_cancel (aK2 i)];grind) x
 rw [h,iC,bE,dF];grind
theorem bt0 (p:List Rat) (x:Rat):ev (cM (pE p)) x=ev p x:=pO (fun i=>by rw [sI,yI,Rat.div_mul_cancel (aK2 i)]) x
theorem XE (c:Rat) (r:List Rat) (x:Rat):ev (cM (c::r)) x=ev r x+x*ev (cM r) x:=by
 have h:ev (cM (c::r)) x=ev (iM r (0::cM r)) x:=pO (fun i=>by
  rw [sI,sE];cases i with
  | zero=>show r.getD 0 0*_=r.getD 0 0+0;have:(((0:Nat):Int)+1:Int)=1:=rfl;grind
  | succ i=>
    show r.getD (i+1) 0*_=r.getD (i+1) 0+(cM r).getD i 0;rw [sI]
    have e:((((i+1:Nat):Int)+1:Int):Rat)=(((i:Int)+1:Int):Rat)+1:=by
     rw [show (((i+1:Nat):Int)+1:Int)=((i:Int)+1)+1 by omega,Rat.intCast_add];rfl
    rw [e];grind) x
 rw [h,iC,bE];grind
theorem Wl {R S y r:Rat} (h1:-R<=y) (h2:y<=R) (h3:-S<=r) (h4:r<=S):-(R*S)<=y*r/\y*r<=R*S:=by
 have a1:=Rat.mul_nonneg (show 0<=R-y by grind) (show 0<=S+r by grind);have a2:=Rat.mul_nonneg (show 0<=R+y by grind) (show 0<=S-r by grind);have a3:=Rat.mul_nonneg (show 0<=R-y by grind) (show 0<=S-r by grind);have a4:=Rat.mul_nonneg (show 0<=R+y by grind) (show 0<=S+r by grind)
 constructor<;>grind
theorem aL6 (R:Rat) (hR:0<=R):∀ p:List Rat,∃ B,0<=B/\∀ x,-R<=x->x<=R -> -B<=ev p x/\ev p x<=B
 | []=>⟨0,Rat.le_refl,fun x _ _=>by rw [dF];constructor<;>grind⟩
 | c::p=>by
   obtain ⟨B,h0,h⟩:=aL6 R hR p;have hRB:=Rat.mul_nonneg hR h0;by_cases hc:0<=c
   .refine ⟨R*B+c,by grind,fun x h1 h2=>?_⟩;obtain ⟨h3,h4⟩:=h x h1 h2;have:=Wl h1 h2 h3 h4;rw [bE];constructor<;>grind
   .refine ⟨R*B-c,by grind,fun x h1 h2=>?_⟩;obtain ⟨h3,h4⟩:=h x h1 h2;have:=Wl h1 h2 h3 h4;rw [bE];constructor<;>grind
theorem sq_nonneg (d:Rat):0<=d*d:=by
 by_cases h:0<=d
 .exact Rat.mul_nonneg h h
 .have:=Rat.mul_nonneg (show 0 <= -d by grind) (show 0 <= -d by grind);grind
theorem al4 (R:Rat) (hR:0<=R):∀ p:List Rat,∃ C,0<=C/\∀ x y,-R<=x->x<=R -> -R<=y->y<=R -> -(C*((y-x)*(y-x)))<=ev p y-ev p x-(y-x)*ev (cM p) x/\ev p y-ev p x-(y-x)*ev (cM p) x<=C*((y-x)*(y-x))
 | []=>⟨0,Rat.le_refl,fun x y _ _ _ _=>by
   have:ev (cM []) x=0:=rfl;rw [dF,dF,this];constructor<;>grind⟩
 | c::p=>by
   obtain ⟨C,h0,h⟩:=al4 R hR p;obtain ⟨B,b0,hb⟩:=aL6 R hR (cM p);have hRC:=Rat.mul_nonneg hR h0;refine ⟨R*C+B,by grind,fun x y x1 x2 y1 y2=>?_⟩;obtain ⟨h1,h2⟩:=h x y x1 x2 y1 y2;obtain ⟨b1,b2⟩:=hb x x1 x2;have hd:=sq_nonneg (y-x);have m1:=Wl y1 y2 h1 h2;have m2:=Rat.mul_le_mul_of_nonneg_left b2 hd;have m3:=Rat.mul_le_mul_of_nonneg_left b1 hd;rw [bE,bE,XE];have e:ev p y*y+c-(ev p x*x+c)-(y-x)*(ev p x+x*ev (cM p) x)=y*(ev p y-ev p x-(y-x)*ev (cM p) x)+(y-x)*(y-x)*ev (cM p) x:=by grind
   rw [e];generalize ev p y-ev p x-(y-x)*ev (cM p) x=r at *;generalize (y-x)*(y-x)=d at *;generalize ev (cM p) x=v at *
   constructor<;>grind
theorem Sm {F:List Rat} {a h C:Rat}:∀ n:Nat,(∀ k:Nat,k<n->ev F (a+((k:Nat):Rat)*h+h)-ev F (a+((k:Nat):Rat)*h) ≥ -C)->ev F (a+((n:Nat):Rat)*h)-ev F a ≥ -(((n:Nat):Rat)*C)
 | 0,_=>by
   have:((0:Nat):Rat)=0:=rfl;rw [this,Rat.zero_mul,Rat.zero_mul,show a+0=a by grind];grind
 | n+1,hs=>by
   have h1:=Sm n fun k hk=>hs k (by omega);have h2:=hs n (by omega);have e:((n+1:Nat):Rat)=((n:Nat):Rat)+1:=by exact_mod_cast rfl
   rw [e,show a+(((n:Nat):Rat)+1)*h=a+((n:Nat):Rat)*h+h by grind]
   grind
theorem aC9 {F:List Rat} {a b:Rat} (hab:a<=b) (hd:∀ t,a<=t->t<=b->0<=ev (cM F) t):ev F a<=ev F b:=by
 refine Rat.not_lt.1 fun hlt=>?_
 obtain ⟨R,hR,hRa,hRb⟩:∃ R:Rat,0<=R /\ -R<=a/\b<=R:=by
  by_cases h1:0<=a
  .exact ⟨b,by grind,by grind,by grind⟩
  .by_cases h2:0<=b
   .exact ⟨b-a,by grind,by grind,by grind⟩
   .exact ⟨-a,by grind,by grind,by grind⟩
 obtain ⟨C,hC,ht⟩:=al4 R hR F;have hL:0<=b-a:=by grind
 have he:0<ev F a-ev F b:=by grind
 have hK:0<=C*((b-a)*(b-a)):=Rat.mul_nonneg hC (sq_nonneg _)
 obtain ⟨N,hN0,hN⟩:∃ N:Nat,0<N/\C*((b-a)*(b-a))<((N:Nat):Rat)*(ev F a-ev F b):=by
  have h1:=Rat.lt_floor_add_one (C*((b-a)*(b-a))/(ev F a-ev F b));have hne:ev F a-ev F b≠0:=by intro e;rw [e] at he;exact absurd he (by decide)
  refine ⟨(Rat.floor (C*((b-a)*(b-a))/(ev F a-ev F b))).toNat+1,by omega,?_⟩
  have h2:((Rat.floor (C*((b-a)*(b-a))/(ev F a-ev F b))+1:Int):Rat)<=(((Rat.floor (C*((b-a)*(b-a))/(ev F a-ev F b))).toNat+1:Nat):Rat):=by
   have:(Rat.floor (C*((b-a)*(b-a))/(ev F a-ev F b))+1:Int)<=(((Rat.floor (C*((b-a)*(b-a))/(ev F a-ev F b))).toNat+1:Nat):Int):=by omega
   exact_mod_cast Rat.intCast_le_intCast.2 this
  have h4:C*((b-a)*(b-a))/(ev F a-ev F b)<(((Rat.floor (C*((b-a)*(b-a))/(ev F a-ev F b))).toNat+1:Nat):Rat):=by
   refine Rat.not_le.1 fun h=>?_;exact absurd h1 (Rat.not_lt.2 (Rat.le_trans h2 h))
  have h3:=Rat.mul_lt_mul_of_pos_right h4 he
  rwa [Rat.div_mul_cancel hne] at h3
 have hNp:(0:Rat)<((N:Nat):Rat):=by exact_mod_cast hN0
 have hNne:((N:Nat):Rat)≠0:=by intro e;rw [e] at hNp;exact absurd hNp (by decide)
 obtain ⟨h,hh⟩:∃ h,h=(b-a)/((N:Nat):Rat):=⟨_,rfl⟩
 have hNh:((N:Nat):Rat)*h=b-a:=by rw [hh,Rat.mul_comm,Rat.div_mul_cancel hNne]
 have hh0:0<=h:=by
  refine Rat.not_lt.1 fun hn=>?_;have:=Rat.mul_pos hNp (show 0 < -h by grind)
  grind
 have hst:=Sm (F:=F) (a:=a) (h:=h) (C:=C*(h*h)) N fun k hk=>by
  have hk1:(0:Rat)<=((k:Nat):Rat):=by exact_mod_cast dD k
  have hk2:((k:Nat):Rat)+1<=((N:Nat):Rat):=by exact_mod_cast hk
  have p0:=Rat.mul_nonneg hk1 hh0;have p1:=Rat.mul_le_mul_of_nonneg_right hk2 hh0;have q1:a<=a+((k:Nat):Rat)*h:=by grind
  have q2:a+((k:Nat):Rat)*h+h<=b:=by grind
  obtain ⟨h1,_⟩:=ht (a+((k:Nat):Rat)*h) (a+((k:Nat):Rat)*h+h) (by grind) (by grind) (by grind) (by grind);have hd0:=hd (a+((k:Nat):Rat)*h) q1 (by grind);have hm:=Rat.mul_nonneg hh0 hd0;rw [show a+((k:Nat):Rat)*h+h-(a+((k:Nat):Rat)*h)=h by grind] at h1
  grind
 rw [hNh,show a+(b-a)=b by grind] at hst;have e1:((N:Nat):Rat)*(C*(h*h))*((N:Nat):Rat)=C*((b-a)*(b-a)):=by rw [<-hNh];grind
 have hst2:=Rat.mul_le_mul_of_nonneg_right (show ev F a-ev F b<=((N:Nat):Rat)*(C*(h*h)) by grind) (Rat.le_of_lt hNp);rw [e1] at hst2
 grind
def yN (p:List Rat) (a b:Rat):Rat:=ev (pE p) b-ev (pE p) a
theorem Xv (p q:List Rat) (a b:Rat):yN (iM p q) a b=yN p a b+yN q a b:=by rw [yN,yN,yN,ak1,ak1];grind
theorem bl5 (p:List Rat) (k a b:Rat):yN (wF p k) a b=yN p a b*k:=by rw [yN,yN,aK3,aK3];grind
theorem bg5 {p q:List Rat} (h:∀ x,ev p x=ev q x) (a b:Rat):yN p a b=yN q a b:=by rw [yN,yN,So h,So h]
theorem aO9 (G:List Rat) (a b:Rat):yN (cM G) a b=ev G b-ev G a:=by rw [yN,aK7,aK7];grind
theorem au3 {p:List Rat} {a b:Rat} (hab:a<=b) (h:∀ t,a<=t->t<=b->0<=ev p t):0<=yN p a b:=by
 have:=aC9 (F:=pE p) hab fun t h1 h2=>by rw [bt0];exact h t h1 h2
 rw [yN];grind
open Go Go.Proofs Tryz Ord
theorem aJ3 (c0 b x0:Rat) (E:List Rat) (t:Rat):ev (cM (iM (iM (wF (cM E) (c0-b*x0)) (0::wF (cM E) b)) (wF E (-b)))) t=(c0+b*(t-x0))*ev (cM (cM E)) t:=by
 rw [Ac,Ac,Ti,Ti,XE,iR,Ti];grind
theorem aw1 (c0 b x0:Rat) (E:List Rat) (t:Rat):ev (iM (iM (wF (cM E) (c0-b*x0)) (0::wF (cM E) b)) (wF E (-b))) t=(c0+b*(t-x0))*ev (cM E) t-b*ev E t:=by
 rw [iC,iC,iR,iR,bE,iR];grind
theorem ai7 {P Q:List Rat} {x0 x1 c0 c1 b:Rat} (hx:x0<=x1) (hP:∀ t,ev (cM (cM P)) t=c0+b*(t-x0)) (h1:c1=c0+b*(x1-x0)) (e0:ev Q x0=ev P x0) (e1:ev Q x1=ev P x1) :
  yN (eF (cM (cM P)) (cM (cM P))) x0 x1+2*(c1*(ev (cM Q) x1-ev (cM P) x1)-c0*(ev (cM Q) x0-ev (cM P) x0))<=yN (eF (cM (cM Q)) (cM (cM Q))) x0 x1:=by
 obtain ⟨E,hE⟩:∃ E,E=iM Q (wF P (-1)):=⟨_,rfl⟩
 have v0:∀ t,ev E t=ev Q t-ev P t:=fun t=>by rw [hE,iC,iR];grind
 have v1:∀ t,ev (cM E) t=ev (cM Q) t-ev (cM P) t:=fun t=>by rw [hE,Ac,Ti];grind
 have v2:∀ t,ev (cM (cM E)) t=ev (cM (cM Q)) t-ev (cM (cM P)) t:=fun t=>by
  rw [ac3 (p:=cM E) (q:=iM (cM Q) (wF (cM P) (-1))) (fun t=>by rw [v1,iC,iR];grind),Ac,Ti];grind
 obtain ⟨G,hG⟩:∃ G,G=iM (iM (wF (cM E) (c0-b*x0)) (0::wF (cM E) b)) (wF E (-b)):=⟨_,rfl⟩
 have hGd:∀ t,ev (cM G) t=ev (cM (cM P)) t*ev (cM (cM E)) t:=fun t=>by rw [hG,aJ3,hP]
 have hGv:∀ t,ev G t=(c0+b*(t-x0))*ev (cM E) t-b*ev E t:=fun t=>by rw [hG,aw1]
 have hs:yN (eF (cM (cM Q)) (cM (cM Q))) x0 x1=yN (eF (cM (cM P)) (cM (cM P))) x0 x1+2*yN (cM G) x0 x1+yN (eF (cM (cM E)) (cM (cM E))) x0 x1:=by
  rw [bg5 (q:=iM (iM (eF (cM (cM P)) (cM (cM P))) (wF (cM G) 2)) (eF (cM (cM E)) (cM (cM E)))) (fun t=>by rw [lQ,iC,iC,lQ,lQ,iR,hGd,v2];grind),Xv,Xv,bl5];grind
 have hp:0<=yN (eF (cM (cM E)) (cM (cM E))) x0 x1:=au3 hx fun t _ _=>by rw [lQ];exact sq_nonneg _
 rw [hs,aO9,hGv,hGv,v0,v0,v1,v1,e0,e1,<-h1,show x0-x0=0 by grind];clear hs hGv hGd hG v0 v1 v2 hE hP h1 e0 e1;generalize yN (eF (cM (cM E)) (cM (cM E))) x0 x1=z at *;generalize yN (eF (cM (cM P)) (cM (cM P))) x0 x1=u at *;have e:u+2*(c1*(ev (cM Q) x1-ev (cM P) x1)-b*(ev P x1-ev P x1)-((c0+b*0)*(ev (cM Q) x0-ev (cM P) x0)-b*(ev P x0-ev P x0)))+z=u+2*(c1*(ev (cM Q) x1-ev (cM P) x1)-c0*(ev (cM Q) x0-ev (cM P) x0))+z:=by grind
 rw [e];grind
theorem UW {x:List Rat} {P:Nat->List Rat} {i:Nat} (hi:i+1<x.length):Zy x (lD x P) i=yN (eF (cM (cM (P i))) (cM (cM (P i)))) (x.getD i 0) (x.getD (i+1) 0):=by
 rw [Zy,yO,ad8,ad8,am3 hi];rfl
theorem aI3 {x y m:List Rat} (D:Ar x y) (Q:Nat->List Rat) (hl:∀ i,i+1<x.length->ev (Q i) (x.getD i 0)=y.getD i 0) (hr:∀ i,i+1<x.length->ev (Q i) (x.getD (i+1) 0)=y.getD (i+1) 0)
  (hj:∀ i,i+2<x.length->ev (cM (Q i)) (x.getD (i+1) 0)=ev (cM (Q (i+1))) (x.getD (i+1) 0)) (he:AM x y m):∀ k,k+1<x.length ->
  eN x (lD x (fZ x y m)) (k+1)+2*(m.getD (k+1) 0*(ev (cM (Q k)) (x.getD (k+1) 0)-ev (cM (fZ x y m k)) (x.getD (k+1) 0))-m.getD 0 0*(ev (cM (Q 0)) (x.getD 0 0)-ev (cM (fZ x y m 0)) (x.getD 0 0)))<=eN x (lD x Q) (k+1):=by
 have one:∀ i,i+1<x.length->Zy x (lD x (fZ x y m)) i+2*(m.getD (i+1) 0*(ev (cM (Q i)) (x.getD (i+1) 0)-ev (cM (fZ x y m i)) (x.getD (i+1) 0))-m.getD i 0*(ev (cM (Q i)) (x.getD i 0)-ev (cM (fZ x y m i)) (x.getD i 0)))<=Zy x (lD x Q) i:=fun i hi=>by
  rw [UW hi,UW hi];refine ai7 (Rat.le_of_lt (Cc D.hr (Nat.lt_succ_self i) hi)) (b:=6*Zd x m i) (fun t=>VB x y m i t) ?_ ?_ ?_
  .have:=YM (m:=m) D.hr D.hxy hi;rw [VB] at this;exact this.symm
  .rw [hl i hi,OB D.hr D.hxy hi]
  .rw [hr i hi,DN D.hr D.hxy hi]
 intro k
 induction k with
 | zero=>
   intro hk;have:=one 0 hk;show 0+Zy x (lD x (fZ x y m)) 0+_<=0+Zy x (lD x Q) 0
   grind
 | succ k ih=>
   intro hk;have h1:=ih (by omega);have h2:=one (k+1) hk;have j1:=hj k (by omega);have j2:=FN D.hr D.hxy (i:=k) (by omega) (he k (by omega));have e1:eN x (lD x (fZ x y m)) (k+1+1)=eN x (lD x (fZ x y m)) (k+1)+Zy x (lD x (fZ x y m)) (k+1):=rfl;have e2:eN x (lD x Q) (k+1+1)=eN x (lD x Q) (k+1)+Zy x (lD x Q) (k+1):=rfl;rw [j1,j2] at h1;rw [e1,e2];clear ih one hl hr hj he j1 j2 e1 e2 D;generalize eN x (lD x (fZ x y m)) (k+1)=b1 at *;generalize eN x (lD x Q) (k+1)=b2 at *
   grind
theorem Ak {x y m:List Rat} (D:Ar x y) (he:AM x y m) (h0:m.getD 0 0=0) (hn:m.getD (x.length-1) 0=0) (Q:Nat->List Rat) (hl:∀ i,i+1<x.length->ev (Q i) (x.getD i 0)=y.getD i 0) (hr:∀ i,i+1<x.length->ev (Q i) (x.getD (i+1) 0)=y.getD (i+1) 0)
  (hj:∀ i,i+2<x.length->ev (cM (Q i)) (x.getD (i+1) 0)=ev (cM (Q (i+1))) (x.getD (i+1) 0)):eN x (lD x (fZ x y m)) (x.length-1)<=eN x (lD x Q) (x.length-1):=by
 have h2:=D.h2;have:=aI3 D Q hl hr hj he (x.length-2) (by omega);rw [show x.length-2+1=x.length-1 by omega,h0,hn] at this
 grind
open Go Go.Proofs Tryz Ord
structure Pc9 (A:Nat) (ks:List Rat) (ps:List (List Rat)):Prop where
 hA1:1<=A
 hA:A<=5400000
 hk:∀ a∈ks,Fit A a
 hp:∀ p∈ps,p.length<=9/\∀ a∈p,Fit A a
 hn:ps.length<=5
 hl:ps.length+1=ks.length
section
variable {A:Nat} {ks:List Rat} {ps:List (List Rat)} (T:Pc9 A ks ps)
include T
theorem dd9:∀ p∈mW (mW ps),p.length<=7/\∀ a∈p,Fit 5400024 a:=fun p hp=>by
 have hA:=T.hA;obtain ⟨q,hq,rfl⟩:=eM.1 hp;obtain ⟨r,hr,rfl⟩:=eM.1 hq;have h3:=lR r;have h4:=lR (cM r);obtain ⟨h5,h6⟩:=T.hp r hr;exact ⟨by omega,fun a ha=>(pZ (by omega) (pZ (by omega) (fun a ha=>(h6 a ha).mono hA) (by omega)) (by omega) a ha).mono (by omega)⟩
theorem sq9 {i:Nat} (hi:i<ps.length):(yO ps i).length<=13/\∀ a∈yO ps i,Fit 86500000 a:=by
 have h:=dd9 T _ (xE (ps:=mW (mW ps)) (i:=i) (by simpa using hi));refine ⟨by have:=kD ((mW (mW ps)).getD i []) ((mW (mW ps)).getD i []);rw [yO];omega,fun a ha=>?_⟩;obtain ⟨F0,hF0⟩:∃ F,F=5400024:=⟨_,rfl⟩
 rw [<-hF0] at h;have hm:F0*(((mW (mW ps)).getD i []).length+1)<=F0*8:=Nat.mul_le_mul_left _ (by omega);exact (jY h.2 h.2 (by omega) a ha).mono (by omega)
theorem bn9 {i:Nat} (hi:i<ps.length):(pE (yO ps i)).length<=14/\(∀ a∈pE (yO ps i),Fit 86500012 a)/\∀ j,Fit 2430000000 (nK (pE (yO ps i)) (ks.getD j 0)):=by
 have h:=sq9 T hi;have hl:=Pe (yO ps i);have hA:=T.hA;obtain ⟨W,hW⟩:∃ W,W=86500000:=⟨_,rfl⟩
 rw [<-hW] at h;have hf:=Qu (A:=W) (by omega) h.2;have hx:∀ j,Fit (W+12) (ks.getD j 0):=fun j=>(aC T.hk j T.hA1).mono (by omega);have hm:(pE (yO ps i)).length*(2*(W+12)+1)<=14*(2*(W+12)+1):=Nat.mul_le_mul_right _ (by omega);exact ⟨by omega,fun a ha=>(hf a ha).mono (by omega),fun j=>(oT (by omega) (hx j) _ hf).mono (by omega)⟩
theorem af1:∀ i,i<=ps.length->Fit (1+i*4860000002) (eN ks ps i)
 | 0,_=>Fit.zero (by omega)
 | i+1,hi=>by
   have h:=bn9 T (show i<ps.length by omega);obtain ⟨E,hE⟩:∃ E,E=2430000000:=⟨_,rfl⟩
   rw [<-hE] at h;have h2:=(af1 i (by omega)).add ((h.2.2 (i+1)).sub (h.2.2 i));exact h2.mono (by rw [Nat.add_mul];omega)
end
theorem Ss (ks:List Rat) (ps:List (List Rat)) (A:Nat) (h:Ec ks ps=true) (T:Pc9 A ks ps):aQ prog 20 [(.agg [sQ ks,eQ ps]:aJ)] (.ret [qT (eN ks ps ps.length), .one (.int .i64 0)]):=by
 refine eH func20 XI ?_;have hA:=T.hA;have hA1:=T.hA1;have hn:=T.hn;have hl:=T.hl;have hc:=rM ks ps A T.hk hA1 (fun p h=>by have:=(T.hp p h).1;omega);rw [if_pos h] at hc;have h0:Rn A ps:=fun q hq=>⟨by have:=(T.hp q hq).1;omega,(T.hp q hq).2⟩
 have h1:=h0.dv hA1;apply aA hc rfl;apply vn fG rfl;refine vs _ rfl ?_ ?_<;>intro h2
 .exact absurd rfl h2
 apply aA (tA ks ps A (by omega) (fun p h=>⟨by have:=(h0 p h).1;omega,(h0 p h).2⟩) hA1) rfl;apply aA (tA ks (mW ps) (A+12) (by rw [aK];omega) (fun p h=>⟨by have:=(h1 p h).1;omega,(h1 p h).2⟩)) rfl;dsimp only [aE,aF];apply vn (aM sM (n:=ps.length) (by simp)) rfl;refine bZ {i:Nat // i<=ps.length} (fun g=>(.one (.int .i64 (g.1:Int)):aJ)::(qC (eN ks ps g.1)).map .one) (fun g=>ps.length-g.1) ⟨0,dD _⟩ ⟨aJ.Sub.same,jV.1,jV.2.1,jV.2.2.1,trivial⟩ (fun _=>rfl) ?_;rintro ⟨i,hi⟩;dsimp only [aE,aF,List.map] at hi ⊢;apply vn bQ rfl;refine vs _ rfl ?_ ?_<;>intro h9
 .have hi':i<ps.length:=by omega
  obtain ⟨F0,hF0⟩:∃ F,F=5400024:=⟨_,rfl⟩
  obtain ⟨F1,hF1⟩:∃ F,F=86500000:=⟨_,rfl⟩
  obtain ⟨F2,hF2⟩:∃ F,F=86500012:=⟨_,rfl⟩
  obtain ⟨F3,hF3⟩:∃ F,F=2430000000:=⟨_,rfl⟩
  obtain ⟨F4,hF4⟩:∃ F,F=4860000002:=⟨_,rfl⟩
  have hb:=bn9 T hi';have hs:=sq9 T hi';have hd:=dd9 T _ (xE (ps:=mW (mW ps)) (i:=i) (by simpa using hi'));have hbf:=af1 T i (by omega);rw [<-hF2,<-hF3] at hb;rw [<-hF1] at hs;rw [<-hF0] at hd;rw [<-hF4] at hbf;have hm:i*F4<=4*F4:=Nat.mul_le_mul_right _ (by omega);have hm1:F0*(((mW (mW ps)).getD i []).length+1)<=F0*8:=Nat.mul_le_mul_left _ (by omega);have hm2:(pE (yO ps i)).length*(2*F2+2)<=14*(2*F2+2):=Nat.mul_le_mul_right _ hb.1;have hkf:∀ j,Fit F2 (ks.getD j 0):=fun j=>(aC T.hk j hA1).mono (by omega);apply vn (aH sM (m:=i) (by omega) (Int.toNat_natCast i) (Oq (ps:=mW (mW ps)) (by simpa using hi'))) rfl;apply vn (cH TK) rfl;apply aA (BO _ _ F0 F0 hd.2 hd.2) rfl;dsimp only [aE,aF];apply aA (AI (yO ps i) F1 hs.2) rfl;apply vn (aB (by omega) (by omega)) rfl;dsimp only [aE,aF];apply vn (aH bG (m:=i+1) (by omega) (by omega) (aI (show i+1<ks.length by omega))) rfl;apply vn (aR cF (by decide) (by simp) (.inl rfl)) rfl;apply aA (tD (pE (yO ps i)) (ks.getD (i+1) 0) F2 hb.2.1 (hkf _)) rfl;dsimp only [aE,aF];apply vn (aH bG (m:=i) (by omega) (Int.toNat_natCast i) (aI (show i<ks.length by omega))) rfl;apply vn (aR cF (by decide) (by simp) (.inl rfl)) rfl;apply aA (tD (pE (yO ps i)) (ks.getD i 0) F2 hb.2.1 (hkf _)) rfl;apply aA (jF _ _ _ _ (hb.2.2 (i+1)) (hb.2.2 i)) rfl;dsimp only [aE,aF];apply aA (jU (eN ks ps i) (Zy ks ps i) _ _ hbf ((hb.2.2 (i+1)).sub (hb.2.2 i))) rfl;apply vn (aB (by omega) (by omega)) rfl;dsimp only [aE,aF];exact bD rfl ⟨⟨i+1,by omega⟩,aX.rfl,by show ps.length-(i+1)<ps.length-i;omega⟩
 rw [show ps.length=i by omega];exact aL rfl
end Go.Sy
