/- Part. -/
import Derived.Test.YtdmcadckdnnglaaGreatDoorKc
set_option linter.all false
namespace Go.Sy
open Go Go.Proofs Ord
def Af(stop:Rat->Rat->Option VS):Nat->Rat->Rat->Option VS
 | 0,a,b=>stop a b
 | n+1,a,b=>match stop a b with
   | some z=>some z
   | none=>match Af stop n a (ao (a+b)),Af stop n (ao (a+b)) b with
     | some x,some y=>some (x++y)
     | _,_=>none
def rM(E:j0)(X:Rat)(Y:j1)(k:Int)(a b:Rat):Except Int (Nat->Rat×Rat):=
 yI E (ao (a+b)) (ao (b-a)) k (fe E (ao (a+b)) k 64 X (MH Y))
def zF(E:j0)(X:Rat)(Y:j1)(k:Int)(x:Rat):Rat×Rat:=((fe E x k 64 X (MH Y)).getD []).getD 0 (0,0)
def iP(E:j0)(X:Rat)(Y:j1)(k:Int)(a b:Rat):Option VS:=
 match rM E X Y k a b with
 | .error _=>none
 | .ok F=>if Mo (F 0)=false then some []else if Mo (F 1)=false then
   (if(zD a b (qg (zF E X Y k a)) (qg (zF E X Y k b))).2=true then some (zD a b (qg (zF E X Y k a)) (qg (zF E X Y k b))).1 else none)else none
def vd(E:j0)(X:Rat)(Y:j1)(k:Int)(n:Nat)(a b:Rat):Option VS:=Af (iP E X Y k) n a b
def be8(a b:Rat)(l h:Int×Bool):(zD a b l h).1=[]\/(zD a b l h).1=[(a,a)]\/(zD a b l h).1=[(a,b)]:=by
 unfold zD;repeat' split
 all_goals simp
def uM{E:j0}{X:Rat}{Y:j1}{k:Int}{a b:Rat}{z:VS}(h:iP E X Y k a b=some z):z=[]\/z=[(a,a)]\/z=[(a,b)]:=by
 unfold iP at h;split at h
 .cases h
 .split at h
  .cases h;exact .inl rfl
  .split at h
   .split at h
    .cases h;exact be8 ..
    .cases h
   .cases h
def EW{a b:Rat}(h:a<=b):a<=ao (a+b)/\ao (a+b)<=b:=by
 have h2:ao (a+b)*2=a+b:=mN (a+b);generalize ao (a+b)=m at h2|-
 constructor<;>grind
def ZG{stop:Rat->Rat->Option VS}(hs:∀a b z,stop a b=some z->z=[]\/z=[(a,a)]\/z=[(a,b)]) :
  ∀(n:Nat)(a b:Rat)(z:VS),a<=b->Af stop n a b=some z->(∀p∈z,a<=p.1/\p.1<=p.2/\p.2<=b)/\z.Pairwise (fun p q=>p.2<=q.1):=by
 have base:∀(a b:Rat)(z:VS),a<=b->stop a b=some z->(∀p∈z,a<=p.1/\p.1<=p.2/\p.2<=b)/\z.Pairwise (fun p q=>p.2<=q.1):=by
  intro a b z hab h;rcases hs a b z h with rfl | rfl | rfl
  .exact⟨fun p hp=>absurd hp bY,List.Pairwise.nil⟩
  .exact⟨fun p hp=>by cases eo.1 hp;exact⟨ak,ak,hab⟩,ZH ..⟩
  .exact⟨fun p hp=>by cases eo.1 hp;exact⟨ak,hab,ak⟩,ZH ..⟩
 intro n
 induction n with
 | zero=>exact base
 | succ n ih=>
   intro a b z hab h;unfold Af at h;split at h
   .rename_i z' hz;cases h;exact base a b z hab hz
   .split at h
    .rename_i x y hx hy;cases h;obtain⟨m1,m2⟩:=EW hab;obtain⟨p1,q1⟩:=ih a _ x m1 hx;obtain⟨p2,q2⟩:=ih _ b y m2 hy;refine⟨fun p hp=>?_,List.pairwise_append.2 ⟨q1,q2,fun p hp q hq=>bH (p1 p hp).2.2 (p2 q hq).1⟩⟩;rcases iM.1 hp with hp | hp
     .exact⟨(p1 p hp).1,(p1 p hp).2.1,bH (p1 p hp).2.2 m2⟩
     .exact⟨bH m1 (p2 p hp).1,(p2 p hp).2.1,(p2 p hp).2.2⟩
    .cases h
def wc(p q:k5):Prop:=(0<p.1/\0<q.1)\/(p.2<0/\q.2<0)
def aO9{stop:Rat->Rat->Option VS}{D:Rat->Rat->Prop}{G:Rat->Rat×Rat->Prop}{Z:k9}
  (hD:∀a b,D a b->D a (ao (a+b))/\D (ao (a+b)) b)
  (meet:∀x p q,G x p->G x q->p.1<=q.2)
  (h0:∀a b,D a b->stop a b=some []->¬Z a)
  (hs:∀a b,D a b->stop a b=some []->Z b\/∃p q,G a p/\G b q/\wc p q) :
  ∀(n:Nat)(a b:Rat),D a b->Af stop n a b=some []->¬Z a/\(Z b\/∃p q,G a p/\G b q/\wc p q):=by
 intro n
 induction n with
 | zero=>exact fun a b d h=>⟨h0 a b d h,hs a b d h⟩
 | succ n ih=>
   intro a b d h;unfold Af at h;split at h
   .rename_i z' hz;cases h;exact⟨h0 a b d hz,hs a b d hz⟩
   .split at h
    .rename_i x y hx hy;simp only[aM,List.append_eq_nil_iff]at h;obtain⟨rfl,rfl⟩:=h;obtain⟨d1,d2⟩:=hD a b d;obtain⟨a1,a2⟩:=ih a _ d1 hx;obtain⟨b1,b2⟩:=ih _ b d2 hy;refine⟨a1,?_⟩;rcases a2 with a2 | ⟨p,q,gp,gq,s1⟩
     .exact absurd a2 b1
     .rcases b2 with b2 | ⟨p',q',gp',gq',s2⟩
      .exact .inl b2
      .refine .inr ⟨p,q',gp,gq',?_⟩;have m1:=meet _ _ _ gq gp';have m2:=meet _ _ _ gp' gq;rcases s1 with⟨u1,u2⟩ | ⟨u1,u2⟩<;>rcases s2 with⟨v1,v2⟩ | ⟨v1,v2⟩
       .exact .inl ⟨u1,v2⟩
       .grind
       .grind
       .exact .inr ⟨u1,v2⟩
    .cases h
def aK3{stop:Rat->Rat->Option VS}{D:Rat->Rat->Prop}{Pm:Rat×Rat->Prop}
  (hD:∀a b,D a b->D a (ao (a+b))/\D (ao (a+b)) b) (hs:∀a b z,D a b->stop a b=some z->∀p∈z,Pm p) :
  ∀(n:Nat)(a b:Rat)(z:VS),D a b->Af stop n a b=some z->∀p∈z,Pm p:=by
 intro n
 induction n with
 | zero=>exact hs
 | succ n ih=>
   intro a b z d h;unfold Af at h;split at h
   .rename_i z' hz;cases h;exact hs a b z d hz
   .split at h
    .rename_i x y hx hy;cases h;obtain⟨d1,d2⟩:=hD a b d;intro p hp;rcases iM.1 hp with hp | hp
     .exact ih a _ x d1 hx p hp
     .exact ih _ b y d2 hy p hp
    .cases h
end Go.Sy
namespace Ord
section
variable{E:j0}{m:Nat}
def jT(E:j0)(m:Nat)(a:Rat)(Y:j4)(x:Rat)(p:k5):Prop:=
 ∀(l1 S1:Rat)(n1:Nat),0<l1->0<=S1->∃C:Rat,0<=C/\∀dl:Rat,0<dl->∃u,Ins p u/\∀w1,Path E m l1 S1 dl n1 a Y x w1->Bo (C*dl) (w1 0-u)
def jT.goes{j:Nat}{a c x:Rat}{Y:j4}{V2:k6}(hm:0<m)(hj:0<j)(g2:ad1 E m j a Y c x V2):jT E m a Y x (V2 0):=by
 intro lq S1 n1 hl1 hS1;obtain⟨l2,S2,n2,hl2,hS2,g2⟩:=g2
 obtain⟨lam,hlam,hla,hlb⟩:∃lam:Rat,0<lam/\lam<=lq/\lam<=l2:=by
  rcases rN (a:=lq) (b:=l2)with h | h
  .exact⟨lq,hl1,ak,h⟩
  .exact⟨l2,hl2,h,ak⟩
 have hS:0<=S1+S2:=e9
 have hL0:0<=(x-a).abs+(c-a).abs+(x-c).abs:=by have:=eM (x-a);have:=eM (c-a);have:=eM (x-c);grind
 have b1:=Bo.abs (x-a);have b2:=Bo.abs (c-a);have b3:=Bo.abs (x-c);have c1:=eM (x-a);have c2:=eM (c-a);have c3:=eM (x-c);generalize hLL:(x-a).abs+(c-a).abs+(x-c).abs=L at *;have l1:Bo L (x-a):=b1.mono e9;have l2:Bo L (c-a):=b2.mono e9;have l3:Bo L (x-c):=b3.mono e9;have l4:Bo L (a-c):=by have:=l2.neg;rwa[show -(c-a)=a-c by grind]at this
 obtain⟨Q,hQ1,hQ⟩:∃Q:Nat,1<=Q/\2*(L*(1+(m:Rat)*(S1+S2)/lam))<=(Q:Rat):=by
  generalize 2*(L*(1+(m:Rat)*(S1+S2)/lam))=v;refine⟨v.ceil.toNat+1,O,?_⟩;have h1:=zS (x:=v)
  have h3:((v.ceil:Int):Rat)<=((v.ceil.toNat:Nat):Rat):=by
   have:v.ceil<=((v.ceil.toNat:Nat):Int):=O
   have:=rP.2 this
   exact_mod_cast this
  rw[rh];grind
 obtain⟨K,hK⟩:∃K:Nat,K=n1+n2+n2+4:=⟨_,rfl⟩
 have hM:(1:Rat)<=(2^Q)^K:=one_le_pow (one_le_pow iN Q) K;have hK0:=vN K
 have key:∀dl:Rat,0<dl->∃u:Nat->Rat,(∀i,i<j->Ins (V2 i) (u i))/\∀w1,Path E m lq S1 dl n1 a Y x w1->∀i,i<m->Bo ((2^Q)^K*((2^Q)^K*((K:Rat)*(L*((dl+dl)/lam)))+(K:Rat)*(L*((dl+dl)/lam)))+(2^Q)^K*((K:Rat)*(L*((dl+dl)/lam)))) (w1 i-u i):=by
  intro dl hdl;obtain⟨w,u,p2,pc,i2⟩:=g2 dl hdl;refine⟨u,i2,fun w1 p1=>?_⟩;have p1:=p1.mono hla (show S1<=S1+S2 by grind) ak;have p2:=p2.mono hlb (show S2<=S1+S2 by grind) ak;have pc:=pc.mono hlb (show S2<=S1+S2 by grind) ak;have he:=af hK0 (af hL0 (nz (x:=dl+dl) e9 hlam));have hdl0:0<=dl:=e9
  have uq:=fun {n1 n2:Nat}(hk:n1+n2<=K){a b G:Rat}{z z' w w':j4}=>Path.ae6 (E:=E) (m:=m) hlam hS hdl0 hL0 hQ1 hQ hk (a:=a) (b:=b) (G:=G) (z:=z) (z':=z') (w:=w) (w':=w');have hMe:=af (show 0<=(2^Q)^K by grind) he
  have hMM:(2^Q)^K*((K:Rat)*(L*((dl+dl)/lam)))<=(2^Q)^K*((2^Q)^K*((K:Rat)*(L*((dl+dl)/lam)))):=by
   have:=eL hM hMe
   grind
  have hMMe:=af (show 0<=(2^Q)^K by grind) hMe;intro i hi;rcases cI7 a c x with h | h | h
  .have h1:=uq (show n1+(n2+1)<=K by omega) (G:=0) l1 p1 (p2.snoc h pc) ak (fun i hi=>by rw[show ∀y:Rat,y-y=0 from fun y=>by grind];exact Bo.zero ak) i hi;exact h1.mono e9
  .obtain⟨v,k1,k2,e1,e2,q1,q2⟩:=p2.split h;have h1:=uq (show n1+k1<=K by omega) (G:=0) l1 p1 q1 ak (fun i hi=>by rw[show ∀y:Rat,y-y=0 from fun y=>by grind];exact Bo.zero ak) i hi;have h2:=uq (show k2+1<=K by omega) (G:=0) l3 q2.rev (Path.one pc) ak (fun i hi=>by rw[show ∀y:Rat,y-y=0 from fun y=>by grind];exact Bo.zero ak) i hi;have h3:=h1.add h2;rw[show w1 i-v i+(v i-u i)=w1 i-u i by grind]at h3;exact h3.mono e9
  .obtain⟨v,k1,k2,e1,e2,q1,q2⟩:=(Path.one pc).split h;have h1:=uq (show n2+k1<=K by omega) (G:=0) l4 p2.rev q1 ak (fun i hi=>by rw[show ∀y:Rat,y-y=0 from fun y=>by grind];exact Bo.zero ak);have h2:=uq (show n1+k2<=K by omega) (G:=(2^Q)^K*(0+(K:Rat)*(L*((dl+dl)/lam)))) l1 p1 q2 e9 h1 i hi;exact h2.mono e9
 obtain⟨C,hC0,hC⟩:∃C:Rat,0<=C/\∀dl:Rat,(2^Q)^K*((2^Q)^K*((K:Rat)*(L*((dl+dl)/lam)))+(K:Rat)*(L*((dl+dl)/lam)))+(2^Q)^K*((K:Rat)*(L*((dl+dl)/lam)))=C*dl:=by
  have hi:=nz (x:=1) (p:=lam) iN hlam;refine⟨(2^Q)^K*((2^Q)^K*((K:Rat)*(L*(2*(1/lam))))+(K:Rat)*(L*(2*(1/lam))))+(2^Q)^K*((K:Rat)*(L*(2*(1/lam)))),?_,fun dl=>?_⟩
  .have h0:=af hK0 (af hL0 (show 0<=2*(1/lam) by grind));have h1:=af (show 0<=(2^Q)^K by grind) h0;have h2:=af (show 0<=(2^Q)^K by grind) h1
   grind
  .rw[eJ,eJ];grind
 refine⟨C,hC0,fun dl hdl=>?_⟩;obtain⟨u,i2,hb⟩:=key dl hdl;refine⟨u 0,i2 0 hj,fun w1 p1=>?_⟩;have:=hb w1 p1 0 hm
 rwa[hC]at this
def jT.uD{a x:Rat}{Y:j4}{V:k6}(hm:0<m)(g:Ao E m a Y x V):jT E m a Y x (V 0):=by
 intro lq S1 n1 hl1 hS1;obtain⟨l2,S2,n2,hl2,hS2,g2⟩:=g
 obtain⟨lam,hlam,hla,hlb⟩:∃lam:Rat,0<lam/\lam<=lq/\lam<=l2:=by
  rcases rN (a:=lq) (b:=l2)with h | h
  .exact⟨lq,hl1,ak,h⟩
  .exact⟨l2,hl2,h,ak⟩
 have hS:0<=S1+S2:=e9
 have hL0:=eM (x-a);have b1:=Bo.abs (x-a);generalize (x-a).abs=L at *
 obtain⟨Q,hQ1,hQ⟩:∃Q:Nat,1<=Q/\2*(L*(1+(m:Rat)*(S1+S2)/lam))<=(Q:Rat):=by
  generalize 2*(L*(1+(m:Rat)*(S1+S2)/lam))=v;refine⟨v.ceil.toNat+1,O,?_⟩;have h1:=zS (x:=v)
  have h3:((v.ceil:Int):Rat)<=((v.ceil.toNat:Nat):Rat):=by
   have:v.ceil<=((v.ceil.toNat:Nat):Int):=O
   have:=rP.2 this
   exact_mod_cast this
  rw[rh];grind
 obtain⟨K,hK⟩:∃K:Nat,K=n1+n2:=⟨_,rfl⟩
 have hM:(1:Rat)<=(2^Q)^K:=one_le_pow (one_le_pow iN Q) K;have hK0:=vN K
 obtain⟨C,hC0,hC⟩:∃C:Rat,0<=C/\∀dl:Rat,(2^Q)^K*(0+(K:Rat)*(L*((dl+dl)/lam)))=C*dl:=by
  have hi:=nz (x:=1) (p:=lam) iN hlam;refine⟨(2^Q)^K*((K:Rat)*(L*(2*(1/lam)))),?_,fun dl=>?_⟩
  .have h0:=af hK0 (af hL0 (show 0<=2*(1/lam) by grind));exact af (show 0<=(2^Q)^K by grind) h0
  .rw[eJ,eJ];grind
 refine⟨C,hC0,fun dl hdl=>?_⟩;obtain⟨u,p2,i2⟩:=g2 dl hdl;refine⟨u 0,i2 0 hm,fun w1 p1=>?_⟩;have p1:=p1.mono hla (show S1<=S1+S2 by grind) ak;have p2:=p2.mono hlb (show S2<=S1+S2 by grind) ak;have:=Path.ae6 (E:=E) (m:=m) hlam hS (show 0<=dl by grind) hL0 hQ1 hQ (show n1+n2<=K by omega) (G:=0) b1 p1 p2 ak (fun i hi=>by rw[show ∀y:Rat,y-y=0 from fun y=>by grind];exact Bo.zero ak) 0 hm
 rwa[hC]at this
def jT.meet{a x:Rat}{Y:j4}{V:k6}{p q:k5}(g:Ao E m a Y x V)(h1:jT E m a Y x p)(h2:jT E m a Y x q):p.1<=q.2:=by
 obtain⟨lam,S,n,hl,hS,g⟩:=g;obtain⟨C1,hC1,h1⟩:=h1 lam S n hl hS;obtain⟨C2,hC2,h2⟩:=h2 lam S n hl hS;have hC0:0<=C1+C2:=e9
 have fin:∀p q:Rat,(∀dl:Rat,0<dl->p<=q+(C1+C2)*dl)->p<=q:=fun p q h=>by
  refine pE.1 fun hlt=>?_
  have h1:=h ((p-q)/(2*(C1+C2+1))) (by
   have:=nz (x:=p-q) (p:=2*(C1+C2+1)) e9 e9;have h2:(p-q)/(2*(C1+C2+1))*(2*(C1+C2+1))=p-q:=di e9;generalize (p-q)/(2*(C1+C2+1))=y at *;refine Rat.not_le.1 fun hy=>?_;have:y=0:=e9
   rw[this]at h2;grind)
  have h2:(p-q)/(2*(C1+C2+1))*(2*(C1+C2+1))=p-q:=di e9;have h3:=nz (x:=p-q) (p:=2*(C1+C2+1)) e9 e9;generalize (p-q)/(2*(C1+C2+1))=y at *;have h4:=af hC0 h3
  grind
 refine fin _ _ fun dl hdl=>?_;obtain⟨w,p1,_⟩:=g dl hdl;obtain⟨u,iu,hu⟩:=h1 dl hdl;obtain⟨v,iv,hv⟩:=h2 dl hdl;obtain⟨r1,r2⟩:=hu w p1;obtain⟨s1,s2⟩:=hv w p1;have q1:=iu.1;have q2:=iv.2
 grind
end
end Ord
namespace Go.Sy
open Go Go.Proofs Ord
section
variable{E:j0}{X:Rat}{y:j1}{k:Int}{lo hi:Rat}
structure Field(E:j0)(X:Rat)(y:j1)(k:Int)(lo hi:Rat):Prop where
 ha:jO E X
 hy:y.length=E.length-1
 hreg:∀c,lo<=c->c<=hi->jO E c
 hval:∀x,lo<=x->x<=hi->∃w,fe E x k 64 X (MH y)=some w
def Ui(lo hi a b:Rat):Prop:=lo<=a/\a<=b/\b<=hi
def Ui.half{a b:Rat}(h:Ui lo hi a b):Ui lo hi a (ao (a+b))/\Ui lo hi (ao (a+b)) b:=by
 obtain⟨h1,h2,h3⟩:=h;obtain⟨m1,m2⟩:=EW h2;exact⟨⟨h1,m1,bH m2 h3⟩,⟨bH h1 m1,m2,h3⟩⟩
def DI(y:j1)(i:Nat):Rat:=y.getD i 0
def Field.uD(F:Field E X y k lo hi){x:Rat}{k':Int}{w:VS}(h:fe E x k' 64 X (MH y)=some w):Ao E (E.length-1) X (DI y) x (fun i=>w.getD i (0,0)):=
 He (a:=X) 64 X _ w F.ha (kn.left X x) (by rw[aX,F.hy]) (XQ E X y) h
def Field.val(F:Field E X y k lo hi){x:Rat}(h1:lo<=x)(h2:x<=hi):jT E (E.length-1) X (DI y) x (zF E X y k x):=by
 obtain⟨w,hw⟩:=F.hval x h1 h2;have e:zF E X y k x=w.getD 0 (0,0):=by unfold zF;rw[hw];rfl
 rw[e];obtain⟨l2,_⟩:=F.ha.facts;exact jT.uD O (F.uD hw)
def Field.meet(F:Field E X y k lo hi){x:Rat}(h1:lo<=x)(h2:x<=hi){p q:k5}(hp:jT E (E.length-1) X (DI y) x p)(hq:jT E (E.length-1) X (DI y) x q):p.1<=q.2:=by
 obtain⟨w,hw⟩:=F.hval x h1 h2;exact jT.meet (F.uD hw) hp hq
def Field.enc(F:Field E X y k lo hi){a b x:Rat}(d:Ui lo hi a b)(h1:a<=x)(h2:x<=b){G:k6}(h:rM E X y k a b=.ok G):jT E (E.length-1) X (DI y) x (G 0):=by
 obtain⟨V,aB,st,n,hV,hr,hle,hn,rfl⟩:=VV h;obtain⟨m1,m2⟩:=EW d.2.1;have R:Oy E (ao (a+b)) aB st:=⟨F.hreg _ (bH d.1 m1) (bH m2 d.2.2),hr⟩
 have e1:=mN (a+b);have e2:=mN (b-a)
 have ht:Bo (ao (b-a)) (x-ao (a+b)):=by
  generalize ao (a+b)=c at *;generalize ao (b-a)=r at *
  constructor<;>grind
 obtain⟨l2,_⟩:=F.ha.facts;exact jT.goes (j:=2) O O (aD0 R hle (SQ hn) ht (F.uD hV))
def Zat(E:j0)(X:Rat)(y:j1)(k:Int)(x:Rat):Prop:=zF E X y k x=(0,0)
def UT{p:k5}(h:(qg p).2=true/\(qg p).1=0):p=(0,0):=by
 unfold qg at h;obtain⟨u,v⟩:=p;split at h
 .simp at h
 .split at h
  .simp at h
  .simp only[iV,pM]at h;rw[h.1,h.2]
def bG5:qg (0,0)=(0,true):=iN
def aP8{p q:k5}(h1:(qg p).2=true)(h2:(qg q).2=true)(h0:(qg p).1≠0)(he:(qg p).1=(qg q).1):wc p q:=by
 unfold qg at *;unfold wc
 repeat' split at h1
 all_goals (repeat' split at h2)
 all_goals simp_all
def Ph(F:Field E X y k lo hi){a b:Rat}(d:Ui lo hi a b)(h:iP E X y k a b=some []) :
  ¬Zat E X y k a/\(Zat E X y k b\/∃p q,jT E (E.length-1) X (DI y) a p/\jT E (E.length-1) X (DI y) b q/\wc p q):=by
 obtain⟨d1,d2,d3⟩:=d;have ha:=F.val d1 (bH d2 d3);have hb:=F.val (bH d1 d2) d3;unfold iP at h;split at h
 .cases h
 .rename_i G hG;have ga:=F.enc ⟨d1,d2,d3⟩ ak d2 hG;have gb:=F.enc ⟨d1,d2,d3⟩ d2 ak hG;split at h
  .rename_i hz;have hz':¬((G 0).1<=0/\0<=(G 0).2):=by simpa[Mo]using hz
   refine⟨fun z=>?_,.inr ⟨G 0,G 0,ga,gb,?_⟩⟩
   .unfold Zat at z;rw[z]at ha;exact hz' ⟨F.meet d1 (bH d2 d3) ga ha,F.meet d1 (bH d2 d3) ha ga⟩
   .unfold wc;have m:=F.meet d1 (bH d2 d3) ga ga
    grind
  .split at h
   .split at h
    .rename_i hd;simp only[aM]at h;unfold zD at h hd;split at h
     .cases h
     .rename_i n1;refine⟨fun z=>n1 (by unfold Zat at z;rw[z,bG5];exact⟨rfl,rfl⟩),?_⟩;split at h
      .rename_i n2;exact .inl (UT n2)
      .split at h
       .rename_i n3;split at h
        .rename_i n4;exact .inr ⟨_,_,ha,hb,aP8 n3.1 n3.2 (fun e=>n1 ⟨n3.1,e⟩) n4⟩
        .cases h
       .rename_i n2 n3;rw[aD n1,aD n2,aD n3]at hd;cases hd
    .cases h
   .cases h
def tl(p q:k5):Prop:=(0<p.1/\q.2<0)\/(p.2<0/\0<q.1)
def xP(F:Field E X y k lo hi)(hlh:lo<=hi){n:Nat}(h:vd E X y k n lo hi=some []){k1 k2:Int}{u v:VS}(hu:fe E lo k1 64 X (MH y)=some u)(hv:fe E hi k2 64 X (MH y)=some v) :
  ¬tl (u.getD 0 (0,0)) (v.getD 0 (0,0)):=by
 obtain⟨l2,_⟩:=F.ha.facts
 obtain⟨hz,hs⟩:=aO9 (stop:=iP E X y k) (D:=Ui lo hi) (G:=fun x p=>lo<=x/\x<=hi/\jT E (E.length-1) X (DI y) x p) (Z:=Zat E X y k) (fun a b d=>d.half)
  (fun x p q hp hq=>F.meet hp.1 hp.2.1 hp.2.2 hq.2.2) (fun a b d h=>(Ph F d h).1)
  (fun a b d h=>by
   rcases(Ph F d h).2 with h | ⟨p,q,h1,h2,h3⟩
   .exact .inl h
   .exact .inr ⟨p,q,⟨d.1,bH d.2.1 d.2.2,h1⟩,⟨bH d.1 d.2.1,d.2.2,h2⟩,h3⟩) n lo hi ⟨ak,hlh,ak⟩ h
 have nu:jT E (E.length-1) X (DI y) lo (u.getD 0 (0,0)):=jT.uD O (F.uD hu);have nv:jT E (E.length-1) X (DI y) hi (v.getD 0 (0,0)):=jT.uD O (F.uD hv);generalize u.getD 0 (0,0)=P at *;generalize v.getD 0 (0,0)=Q at *;rintro ht;rcases hs with hs | ⟨p,q,⟨_,_,hp⟩,⟨_,_,hq⟩,hpq⟩
 .have hb:=F.val hlh ak;rw[show zF E X y k hi=(0,0)from hs]at hb;have m1:=F.meet hlh ak hb nv;have m2:=F.meet hlh ak nv hb;rcases ht with⟨t1,t2⟩ | ⟨t1,t2⟩<;>grind
 .have m1:=F.meet ak hlh hp nu;have m2:=F.meet ak hlh nu hp;have m3:=F.meet hlh ak hq nv;have m4:=F.meet hlh ak nv hq;rcases ht with⟨t1,t2⟩ | ⟨t1,t2⟩<;>rcases hpq with⟨s1,s2⟩ | ⟨s1,s2⟩<;>grind
def bw2{p q:k5}(h1:(qg p).2=true)(h2:(qg q).2=true)(h0:(qg p).1≠0)(h0':(qg q).1≠0)(he:(qg p).1≠(qg q).1):tl p q:=by
 unfold qg at *;unfold tl
 repeat' split at h1
 all_goals (repeat' split at h2)
 all_goals simp_all
def am8(F:Field E X y k lo hi)(hlh:lo<=hi){n:Nat}{z:VS}(h:vd E X y k n lo hi=some z):∀p∈z,lo<=p.1/\p.1<=p.2/\p.2<=hi /\
  ((p.1=p.2/\Zat E X y k p.1)\/tl (zF E X y k p.1) (zF E X y k p.2)):=by
 have h1:=(ZG (fun a b z h=>uM h) n lo hi z hlh h).1
 have h2:=aK3 (stop:=iP E X y k) (D:=Ui lo hi) (Pm:=fun p=>(p.1=p.2/\Zat E X y k p.1)\/tl (zF E X y k p.1) (zF E X y k p.2)) (fun a b d=>d.half) (fun a b z d h=>by
  unfold iP at h;split at h
  .cases h
  .split at h
   .cases h;intro p hp;exact absurd hp bY
   .split at h
    .split at h
     .simp only[aM]at h;subst h;intro p hp;unfold zD at hp;split at hp
      .rename_i n1;cases eo.1 hp;exact .inl ⟨rfl,UT n1⟩
      .rename_i n1;split at hp
       .exact absurd hp bY
       .rename_i n2;split at hp
        .rename_i n3;split at hp
         .exact absurd hp bY
         .rename_i n4;cases eo.1 hp;exact .inr (bw2 n3.1 n3.2 (fun e=>n1 ⟨n3.1,e⟩) (fun e=>n2 ⟨n3.2,e⟩) n4)
        .exact absurd hp bY
     .cases h
    .cases h) n lo hi z ⟨ak,hlh,ak⟩ h
 exact fun p hp=>⟨(h1 p hp).1,(h1 p hp).2.1,(h1 p hp).2.2,h2 p hp⟩
def XI(F:Field E X y k lo hi)(hlh:lo<=hi){n:Nat}{z:VS}(h:vd E X y k n lo hi=some z){p:k5}(hp:p∈z){k1 k2:Int}{u v:VS}(hu:fe E p.1 k1 64 X (MH y)=some u)(hv:fe E p.2 k2 64 X (MH y)=some v) :
  (p.1=p.2->(u.getD 0 (0,0)).1<=0/\0<=(u.getD 0 (0,0)).2) /\
  (p.1≠p.2->((u.getD 0 (0,0)).1<0/\0<(v.getD 0 (0,0)).2)\/(0<(u.getD 0 (0,0)).2/\(v.getD 0 (0,0)).1<0)):=by
 obtain⟨l2,_⟩:=F.ha.facts;obtain⟨a1,a2,a3,a4⟩:=am8 F hlh h p hp;have nu:jT E (E.length-1) X (DI y) p.1 (u.getD 0 (0,0)):=jT.uD O (F.uD hu);have nv:jT E (E.length-1) X (DI y) p.2 (v.getD 0 (0,0)):=jT.uD O (F.uD hv);have w1:=F.val a1 (bH a2 a3);have w2:=F.val (bH a1 a2) a3;have m1:=F.meet a1 (bH a2 a3) w1 nu;have m2:=F.meet a1 (bH a2 a3) nu w1;have m3:=F.meet (bH a1 a2) a3 w2 nv;have m4:=F.meet (bH a1 a2) a3 nv w2;have v1:=F.meet a1 (bH a2 a3) w1 w1;generalize u.getD 0 (0,0)=P at *;generalize v.getD 0 (0,0)=Q at *;rcases a4 with⟨e,hz⟩ | ht
 .unfold Zat at hz;rw[hz]at m1 m2;exact⟨fun _=>⟨m2,m1⟩,fun n=>absurd e n⟩
 .refine⟨fun e=>?_,fun _=>?_⟩
  .rw[<-e]at ht
   exfalso
   rcases ht with⟨t1,t2⟩ | ⟨t1,t2⟩<;>grind
  .rcases ht with⟨t1,t2⟩ | ⟨t1,t2⟩
   .right;constructor<;>grind
   .left;constructor<;>grind
end
theorem IX:∀n:Nat,(1:Rat)^n=1
 | 0=>bQ ..
 | n+1=>by rw[bE,IX n];decide +kernel
def XO{q:j0}{m:Nat}{aB N:Rat}(h0:0<=aB)(hN:1<=N)(j:Nat):bO q m aB 1 j<=N^m*bO q m aB N j:=by
 rw[gH,gH,<-eU];refine vq fun i _=>?_;rw[<-eU];refine vq fun k _=>?_;unfold mI;split
 .have hx:0<=((q.getD i []).getD k 0).abs*aB^(m+k-i):=af (eM _) (bW h0 _);generalize ((q.getD i []).getD k 0).abs*aB^(m+k-i)=x at *;have hP:0<N^(m-i):=dk e9;have hPN:=nH hN (show m-i<=m by omega);rw[IX];have e1:x/N^(m-i)*N^(m-i)=x:=di e9;have hq:=sJ hx hP;have e2:x/1=x:=by rw[eJ];grind
  rw[e2];generalize x/N^(m-i)=y at *;generalize N^(m-i)=P at *;have:=eL hPN hq
  grind
 .grind
theorem aB3{a:j1}{aB b:Rat}{n0:Nat}(hb:0<=b):∀k,(∀j,j<k->(a.getD (n0+j) 0).abs*aB^(n0+j)<=b)->MG a aB n0 k<=b
 | 0,_=>hb
 | k+1,h=>by
   have h1:=aB3 hb k fun j hj=>h j O;have h2:=h k O;unfold MG;rw[AV];split
   .exact h2
   .exact h1
def two_pos(n:Nat):(0:Rat)<((2^n:Nat):Rat):=by
 have:=mw (show 1<=2^n from aw O);have e:((1:Nat):Rat)=1:=iN
 rw[e]at this;grind
def Yh(n:Nat):mkRat 1 (2^n)*((2^n:Nat):Rat)=1:=by
 have h:=two_pos n;rw[uJ];have e:((1:Int):Rat)/((2^n:Nat):Rat)*((2^n:Nat):Rat)=((1:Int):Rat):=di e9;rw[e];decide +kernel
def WE{hh:Nat}:ae hh<=4:=by
 unfold ae;have h1:=mw (show 1<=2^hh from aw O);have e1:((1:Nat):Rat)=1:=iN
 rw[e1]at h1;have hp:=two_pos hh;have hm:=Yh hh;have h4:((4:Int):Rat)=4:=iN
 rw[h4];refine mR (c:=((2^hh:Nat):Rat)) ?_ hp;generalize ((2^hh:Nat):Rat)=v at *;generalize mkRat 1 (2^hh)=u at *
 grind
section
variable{E:j0}{c aB:Rat}{st:Nat}
def Oy.early(w:Oy E c aB st)(h24:st<=24)(h4:aB<=4){l:Nat}(hl:l<E.length-1):∀n,n<st->Bo (64*331776^n) (aS (aV E c) (E.length-1) (aG E c) (ab (E.length-1) l) n*aB^n):=by
 have R:=w.yJ;obtain⟨h2,h5,_⟩:=w.reg.facts;have hr:=R.r0;have hone:(1:Rat)<=331776:=iN
 have hs:=R.hs;intro n
 induction n using Nat.strongRecOn with
 | _ n ih=>
   intro hn;have hp1:=one_le_pow hone n;rcases bG n (E.length-1)with h | h
   .have hi:=ae8 (q:=aV E c) (m:=E.length-1) (lead:=aG E c) h hl;have hf:=Xi 0 n;rw[bw]at hf
    have ha:Bo 1 (aS (aV E c) (E.length-1) (aG E c) (ab (E.length-1) l) n):=by
     generalize aS (aV E c) (E.length-1) (aG E c) (ab (E.length-1) l) n=x at *;generalize fr n n=f at *
     have hx:0<=x/\x<=1:=by
      split at hi
      .have:0<=x:=pE.1 fun hneg=>by
        have:=af (a:=-x) (b:=f) e9 e9
        grind
       refine⟨this,?_⟩;have:=af this (show 0<=f-1 by grind)
       grind
      .have:x=0:=by
        rcases nk.1 hi with h | h
        .exact h
        .grind
       rw[this];exact⟨ak,iN⟩
     constructor<;>grind
    have hq:Bo 64 (aB^n):=by
     have h1:=bW (x:=aB) e9 n;have h2:=lf e9 h4 n
     have h3:(4:Rat)^n<=64:=by
      have:=nH (x:=4) iN (show n<=3 by omega);have e:(4:Rat)^3=64:=iN
      rwa[e]at this
     constructor<;>grind
    have:=ha.mul hq;exact this.mono e9
   .obtain⟨s,rfl⟩:∃s,n=s+(E.length-1):=⟨n-(E.length-1),O⟩
    have hN1:(1:Rat)<=((st-(E.length-1):Nat):Rat)+1:=by have:=jo (st-(E.length-1));grind
    have hth:bO (aV E c) (E.length-1) aB ((s:Rat)+1) (E.length-1+1)<=(aG E c).abs*331776:=by
     have h1:=wy (q:=aV E c) (m:=E.length-1) (aB:=aB) (N:=1) (N':=(s:Rat)+1) e9 iN (by have:=jo s;grind) (E.length-1+1);have h2:=XO (q:=aV E c) (m:=E.length-1) (aB:=aB) (N:=((st-(E.length-1):Nat):Rat)+1) e9 hN1 (E.length-1+1);have h3:=R.start
     have hN24:((st-(E.length-1):Nat):Rat)+1<=24:=by
      have:=mw (show st-(E.length-1)+1<=24 by omega);rw[rh]at this;have e:((24:Nat):Rat)=24:=iN
      rwa[e]at this
     have h4:(((st-(E.length-1):Nat):Rat)+1)^(E.length-1)<=331776:=by
      have g1:=lf e9 hN24 (E.length-1);have g2:=nH (x:=24) iN (show E.length-1<=4 by omega);have e:(24:Rat)^4=331776:=iN
      rw[e]at g2;grind
     have hm0:=Qj (q:=aV E c) (m:=E.length-1) (aB:=aB) (N:=((st-(E.length-1):Nat):Rat)+1) e9 e9 (E.length-1+1);have h5:=db h4 h3 (bW e9 _) (eM _)
     grind
    have hZ0:(0:Rat)<=64*331776^(s+(E.length-1)-1):=af iN (bW iN _)
    have h3:=R.step (x:=aS (aV E c) (E.length-1) (aG E c) (ab (E.length-1) l)) (s:=s) (τ:=aB) (Z:=64*331776^(s+(E.length-1)-1)) (W:=0) (th:=331776) e9 hth hZ0 (by rw[w.zero l s,pO];exact Bo.zero e9) fun j g1 g2 g3=>by
     refine(ih (s+(E.length-1)-j) O O).mono ?_;exact eC (nH hone) iN
    refine h3.mono ?_;obtain⟨p,hp⟩:∃p,s+(E.length-1)=p+1:=⟨s+(E.length-1)-1,O⟩
    rw[hp,ny,bE];grind
def Oy.bu7(w:Oy E c aB st)(h24:st<=24)(h4:aB<=4){l:Nat}(hl:l<E.length-1):lX (aV E c) (E.length-1) (aG E c) aB st l<=64*331776^24:=by
 have R:=w.yJ;have hs:=R.hs;have hr:=R.r0;refine aB3 (af iN (bW iN _)) _ fun j hj=>?_;have h:=w.early h24 h4 hl (st-(E.length-1+aj (aV E c))+j) O;have e:=tQ (aV E c) (E.length-1) (aG E c) (ab (E.length-1) l) (n:=st-(E.length-1+aj (aV E c))+j) (N:=st);unfold co at e;rw[e];have h1:=h.QI (bW e9 _);refine bH h1 (eC (nH iN) iN)
def Xl:∀i,i<=3->0<=bB ((1500:Nat):Int) i/\bB ((1500:Nat):Int) i<=3375000000:=by
 intro i hi;rcases(show i=0\/i=1\/i=2\/i=3 by omega)with rfl | rfl | rfl | rfl<;>decide +kernel
def aJ3{r aB:Rat}(h0:0<aB)(hr:0<=r)(h2:r+r<=aB){i n:Nat}(hi:i<=n):r^(n-i)/aB^n<=(1/2)^(n-i)*(1/aB^i):=by
 have hp:=dk (n:=n) h0;have hpi:=dk (n:=i) h0;have h1:=lf hr (show r<=1/2*aB by grind) (n-i);rw[tJ]at h1;have e:aB^n=aB^(n-i)*aB^i:=by rw[<-gy];congr 1;omega
 refine mR (c:=aB^n) ?_ hp;rw[di e9];have e2:1/aB^i*aB^i=1:=di e9;have e3:(1/2)^(n-i)*(1/aB^i)*aB^n=(1/2)^(n-i)*aB^(n-i)*(1/aB^i*aB^i):=by rw[e];grind
 rw[e3,e2];grind
def aY9{hh i:Nat}(h62:hh<=62)(hi:i<=3):1/ae hh^i<=2^180:=by
 have hp:=jZ hh;have hpi:=dk (n:=i) hp
 have h1:(1:Rat)<=2^60*ae hh:=by
  unfold ae;have hq:=two_pos hh;have e:=Yh hh;have hc:=mw (cB (show 0<2 by omega) h62);have e4:((4:Int):Rat)=4:=iN
  have e62:((2^62:Nat):Rat)=2^60*4:=iN
  rw[e4];refine mR (c:=((2^hh:Nat):Rat)) ?_ hq;rw[e62]at hc;generalize ((2^hh:Nat):Rat)=v at *;generalize mkRat 1 (2^hh)=u at *;have e5:2^60*(4*u)*v=2^60*4*(u*v):=e9
  rw[e5,e];grind
 have h2:=one_le_pow h1 i;rw[tJ,<-pow_mul']at h2;have h3:=nH (x:=2) iN (show 60*i<=180 by omega);have e:1/ae hh^i*ae hh^i=1:=di e9;refine mR (c:=ae hh^i) ?_ hpi;rw[e];have:=eL h3 (show 0<=ae hh^i by grind);generalize (2:Rat)^180=z at *;generalize (2:Rat)^(60*i)=y at *
 grind
def Xn{aB r:Rat}{d:Nat}(h0:0<aB)(hr:0<=r)(h2:r+r<=aB)(hd:d<=3):cP aB ((1500:Nat):Int) d r<=3/4:=by
 unfold cP
 have h1:r/aB<=1/2:=by
  refine mR (c:=aB) ?_ h0;rw[di e9];grind
 have h3:=sJ hr h0
 have h4:(((1500:Nat):Int)+1:Int)/((((1500:Nat):Int)+1-(d:Int):Int):Rat)<=(3/2:Rat):=by
  rcases(show d=0\/d=1\/d=2\/d=3 by omega)with rfl | rfl | rfl | rfl<;>decide +kernel
 have h5:(0:Rat)<=(((1500:Nat):Int)+1:Int)/((((1500:Nat):Int)+1-(d:Int):Int):Rat):=by
  rcases(show d=0\/d=1\/d=2\/d=3 by omega)with rfl | rfl | rfl | rfl<;>decide +kernel
 have:=db h4 h1 h5 iN;refine bH this iN
def aG4:(1/2:Rat)^258*(2:Rat)^256=mkRat 1 (2^2):=iN
theorem SJ:∀n:Nat,((2^n:Nat):Rat)=2^n
 | 0=>iN
 | n+1=>by
   rw[bE,<-SJ n,bF];have:((2^n*2:Nat):Rat)=((2^n:Nat):Rat)*((2:Nat):Rat):=by exact_mod_cast rfl
   rw[this];rfl
def aA8{k:Int}(hk:k<=256):(1/2:Rat)^258<=nG k:=by
 unfold nG;have hq:=two_pos k.toNat;have e:=Yh k.toNat;have hc:=nH (x:=2) iN (show k.toNat<=256 by omega);rw[<-SJ k.toNat]at hc;have h8:=aG4;have hn:(0:Rat)<=(1/2)^258:=bW iN _;refine mR (c:=((2^k.toNat:Nat):Rat)) ?_ hq;generalize ((2^k.toNat:Nat):Rat)=v at *;generalize mkRat 1 (2^k.toNat)=u at *;generalize (1/2:Rat)^258=h at *;generalize (2:Rat)^256=z at *;generalize mkRat 1 (2^2)=y at *;have e1:u*y*v=y*(u*v):=e9
 rw[e1,e];have:=eC hc hn
 grind
def aq3{b r:Rat}{hh d:Nat}(h62:hh<=62)(hb0:0<=b)(hb:b<=64*331776^24)(hr:0<=r)(h2:r+r<=ae hh)(hd:d<=3){k:Int}(hk:k<=256):fM b (ae hh) 1500 d r<=nG k:=by
 have hp:=jZ hh;have hs:=Xn hp hr h2 hd;obtain⟨f0,f1⟩:=Xl d hd;have hu:=aJ3 hp hr h2 (show d<=1500 by omega);have hi:=aY9 h62 hd;have hf0:(0:Rat)<=((bB ((1500:Nat):Int) d:Int):Rat):=uH.2 f0
 have hf1:((bB ((1500:Nat):Int) d:Int):Rat)<=3375000000:=by
  have:=rP.2 f1;have e:((3375000000:Int):Rat)=3375000000:=iN
  rwa[e]at this
 have hpw:(1/2:Rat)^(1500-d)<=(1/2)^1497:=by
  have e:(1/2:Rat)^(1500-d)=(1/2)^1497*(1/2)^(1500-d-1497):=by rw[<-gy];exact congrArg _ O
  have h1:=lf (x:=1/2) (y:=1) iN iN (1500-d-1497);rw[IX]at h1;have h2:(0:Rat)<=(1/2)^1497:=bW iN _;rw[e];have:=eC h1 h2;generalize (1/2:Rat)^1497=z at *
  grind
 have hg:=aA8 hk;refine bH ?_ hg;unfold fM;have one:((1:Int):Rat)=1:=iN
 rw[one];generalize cP (ae hh) ((1500:Nat):Int) d r=s at *;have hi0:0<=1/ae hh^d:=sJ iN (dk hp);have hw0:0<=r^(1500-d)/ae hh^1500:=sJ (bW hr _) (dk hp)
 have hw:r^(1500-d)/ae hh^1500<=(1/2)^1497*2^180:=
  bH hu (db hpw hi (bW iN _) (bW iN _))
 have e1:((bB ((1500:Nat):Int) d:Int):Rat)*r^(1500-d)/ae hh^1500=((bB ((1500:Nat):Int) d:Int):Rat)*(r^(1500-d)/ae hh^1500):=by rw[eJ,eJ];grind
 rw[e1];have h5:=db hf1 hw hf0 (af (bW iN _) (bW iN _));have h6:=db hb h5 hb0 (af iN (af (bW iN _) (bW iN _)));have hd0:0<1-s:=e9
 refine mR (c:=1-s) ?_ hd0;rw[di e9];refine bH h6 ?_;have h7:(64*331776^24:Rat)*(3375000000*((1/2)^1497*2^180))<=(1/2)^258*(1/4):=iN
 refine bH h7 (eC e9 (bW iN _))
def Oy.ca2(w:Oy E c aB st)(h24:st<=24){t:Rat}(h2:t.abs+t.abs<=aB){d:Nat}(hd:d<=3){k:Int}(hk:k<=256):∃n,ew E c aB st t d k=some n:=by
 obtain⟨hE2,hE5,_⟩:=w.reg.facts;obtain⟨hh,hh62,rfl,hst,hW⟩:=ef w.hv;unfold ew BW;obtain⟨h1,h3,h4,h5⟩:=lS (yA (QC (aV E c) (E.length-1) (aG E c) (ae hh) st t.abs (nG k) d) (E.length-1)) (1501-st) st
 have hall:yA (QC (aV E c) (E.length-1) (aG E c) (ae hh) st t.abs (nG k) d) (E.length-1) 1500=true:=BO.2 fun l hl=>by
  unfold QC nh;rw[gM];intro i hi;have hid:=gO.1 hi;exact gJ (aq3 hh62 (w.bound l).1 (w.bu7 h24 WE hl) (sU t) h2 O hk)
 split
 .exact⟨_,rfl⟩
 .rename_i hge;have:=h4 1500 O O;rw[hall]at this;cases this
end
def bk5{E:j0}{X x aB:Rat}{st:Nat}{k:Int}(R:Oy E X aB st)(h24:st<=24)(hx:(x-X).abs*2<=aB)(hk:k<=256)(v:VS):∃w,fe E x k 64 X v=some w:=by
 by_cases hc:X=x
 .subst hc;exact⟨v,mi 64⟩
 .obtain⟨l2,l5,_⟩:=R.reg.facts;have e:=OC hx;obtain⟨N,hN⟩:=R.ca2 h24 (t:=ei aB x X) (by rw[e];grind) (d:=E.length-1-1) O hk;have h:=qL (v:=v) 63 hc (CN R.hv hN);rw[e,show X+(x-X)=x by grind,mi]at h;exact⟨_,h⟩
def Field.of{E:j0}{X lo hi aB:Rat}{st:Nat}{y:j1}{k:Int}(R:Oy E X aB st)(h24:st<=24)(hy:y.length=E.length-1)(h1:(lo-X).abs*2<=aB)(h2:(hi-X).abs*2<=aB)(hk:k<=256):Field E X y k lo hi:=by
 have b1:Bo (lo-X).abs (lo-X):=Bo.abs _;have b2:Bo (hi-X).abs (hi-X):=Bo.abs _
 have key:∀x,lo<=x->x<=hi->(x-X).abs*2<=aB:=fun x g1 g2=>by
  obtain⟨b3,b4⟩:=b1;obtain⟨b5,b6⟩:=b2;generalize (lo-X).abs=A at *;generalize (hi-X).abs=B at *;rcases rN (a:=0) (b:=x-X)with h | h
  .rw[Rat.abs_of_nonneg h];grind
  .rw[Rat.abs_of_nonpos h];grind
 refine⟨R.reg,hy,fun c g1 g2=>?_,fun x g1 g2=>bk5 R h24 (key x g1 g2) hk _⟩;have hw:=key c g1 g2
 have:=R.reg.yJ R.hv (t:=c-X) (by
  have b:Bo (c-X).abs (c-X):=Bo.abs _;have n:=sU (c-X);obtain⟨b3,b4⟩:=b;generalize (c-X).abs=A at *
  constructor<;>grind)
 rwa[show X+(c-X)=c by grind]at this
open Go Go.Proofs Tryz Ord
def cu8{m:Nat}(h:m<=4):m*(768021200+(40000000+211000000+1)+1)+1+257+257<=4200000000:=O
def aj7(E:j0)(X:Rat)(Y:j1)(k:Int)(a:Rat):Prop:=
 ∃u:VS,aK prog 234 [fT E X Y,qT a,.one (.int .i64 k)] (.ret [.one (.slice 6 (vS u))])/\zF E X Y k a=u.getD 0 (0,0)/\0<u.length/\Fit 4200000000 (u.getD 0 (0,0)).1/\Fit 4200000000 (u.getD 0 (0,0)).2
structure PH(E:j0)(X:Rat)(Y:j1)(k:Int)(a b:Rat):Prop where
 fa:Fit 513 a
 fb:Fit 513 b
 enc:aK prog 170 [fT E X Y,kP a b,.one (.int .i64 k)] (Yk (rM E X Y k a b))
 fF:∀F,rM E X Y k a b=.ok F->Fit 4200000000 (F 0).1/\Fit 4200000000 (F 0).2/\Fit 4200000000 (F 1).1/\Fit 4200000000 (F 1).2
 ends:∀F,rM E X Y k a b=.ok F->aj7 E X Y k a/\aj7 E X Y k b
def PB{E:j0}{X:Rat}{Y:j1}{k:Int}{a b:Rat}(h:bp (aV E X) (E.length-1) (aG E X)=none):rM E X Y k a b=.error 5:=by
 unfold rM;by_cases hm:X=ao (a+b)
 .rw[<-hm,mi];exact uN h
 .rw[qD _ hm (yi h)];rfl
section
variable{c:bL}
def aj7.of(hC:um c)(hs0:c.small=true)(hok:okF c.E c.X c.Y=true){x:Rat}{k:Int}(hk:k<=256)(hx:kD x){u:VS}(hu:fe c.E x k 64 c.X (MH c.Y)=some u):aj7 c.E c.X c.Y k x:=by
 obtain⟨l2,l5,hyl,_,_⟩:=pv hok;have F:=LI hs0 hok hx;have P:=hC.toSmallX.bv8 F hk;have I0:=YC.first F (v0:=MH c.Y) (by rw[aX];exact hyl) (fun p hp=>by obtain⟨y,hy,rfl⟩:=jf.1 hp;exact⟨(hC.yf y hy).mono O,(hC.yf y hy).mono O⟩);have hval:=Cy c.E c.X c.Y x k 12000000 768021200 _ P hk l2 l5 (F.xb.fit.mono O) I0;rw[hu]at hval;obtain⟨g,c',hI⟩:=TY P 64 _ _ I0 hu;obtain⟨w1,w2⟩:=(P.Dv g c' u hI).2;have hl:0<u.length:=O
 obtain⟨f1,f2⟩:=w2 _ (cj (cY (v:=u) (l:=0) hl));exact⟨u,hval,by unfold zF;rw[hu];rfl,hl,f1.mono O,f2.mono O⟩
def PH.of(hC:um c)(hs0:c.small=true)(hok:okF c.E c.X c.Y=true){a b:Rat}{k:Int}(hk:k<=256){D:Nat}(hD0:D≠0)(hD:D*2<=2^36)(ea:oY D a)(eb:oY D b)(hab:a<=b)
  (hv:∀F,rM c.E c.X c.Y k a b=.ok F->(∃u,fe c.E a k 64 c.X (MH c.Y)=some u)/\(∃u,fe c.E b k 64 c.X (MH c.Y)=some u)):PH c.E c.X c.Y k a b:=by
 have hD0':D*2≠0:=O
 have fa:=ea.Dv hD0 O;have fb:=eb.Dv hD0 O;obtain⟨l2,l5,hyl,_,_⟩:=pv hok;obtain⟨er1,er2⟩:=oY.rad hD0 ea eb
 have hrn:0<=ao (b-a):=by
  have:=mN (b-a);generalize ao (b-a)=r at *
  grind
 have F0:=LI hs0 hok ((oY.mid hD0 ea eb).Dv hD0' hD);have ga:Fit 513 a:=fa.fit.mono O;have gb:Fit 513 b:=fb.fit.mono O;refine⟨ga,gb,hC.toSmallX.cG6 hk F0 (Qg hD0' hD er1 er2).t hrn ga gb hyl (fun y hy=>(hC.yf y hy).mono O),fun F h=>?_,fun F h=>?_⟩
 .obtain⟨V,aB,st,n,hV,hrv,hle,hn,hF⟩:=VV h;have hI:=ac2 (hC.toSmallX.bv8 F0 hk) 64 _ _ (YC.first F0 (v0:=MH c.Y) (by rw[aX];exact hyl) (fun p hp=>by obtain⟨y,hy,rfl⟩:=jf.1 hp;exact⟨(hC.yf y hy).mono O,(hC.yf y hy).mono O⟩)) hV;obtain⟨gg,hI⟩:=hI;have hcc:=hC.toSmallX.at F0.xb;have hSt:oQ c.E (ao (a+b)) aB st (ao (b-a)) k:=YX hI.reg hrv (Qg hD0' hD er1 er2).t (by unfold Rat.abs;rw[aI hrn];grind) hk
  have hEC:=hcc.cz4 hI.reg hSt hrn (SQ hn) (by
   have L:=hcc.ab8 hI.reg hSt (d:=1) (ah 1);exact(L.some n hn).2)
  have hm4:c.E.length-1<=4:=O
  have hFf:∀d,d<=1->Fit 4200000000 (F d).1/\Fit 4200000000 (F d).2:=fun d hd=>by
   rw[hF];refine aU1 hEC hk hI.vl (fun p hp=>⟨(hI.vf p hp).1.mono sC.2,(hI.vf p hp).2.mono sC.2⟩) hd ?_;exact cu8 hm4
  exact⟨(hFf 0 O).1,(hFf 0 O).2,(hFf 1 O).1,(hFf 1 O).2⟩
 .obtain⟨⟨u,hu⟩,⟨v,hv⟩⟩:=hv F h;exact⟨aj7.of hC hs0 hok hk fa hu,aj7.of hC hs0 hok hk fb hv⟩
end
def EG(lo hi:Rat)(n:Nat)(a b:Rat):Prop:=lo<=a/\a<=b/\b<=hi/\∃D,D≠0/\D*2^(n+1)<=2^36/\oY D a/\oY D b
def EG.half{lo hi:Rat}{n:Nat}{a b:Rat}(h:EG lo hi (n+1) a b):EG lo hi n a (ao (a+b))/\EG lo hi n (ao (a+b)) b:=by
 obtain⟨h1,h2,h3,D,h0,hD,ea,eb⟩:=h;obtain⟨m1,m2⟩:=EW h2;have hm:=oY.mid h0 ea eb;have hD2:D*2*2^(n+1)<=2^36:=by rw[dC,<-Nat.pow_succ'];exact hD
 exact⟨⟨h1,m1,bH m2 h3,D*2,O,hD2,ea.up 2,hm⟩,⟨bH h1 m1,m2,h3,D*2,O,hD2,hm,eb.up 2⟩⟩
def EG.two{lo hi:Rat}{n:Nat}{a b:Rat}(h:EG lo hi n a b):∃D,D≠0/\D*2<=2^36/\oY D a/\oY D b:=by
 obtain⟨_,_,_,D,h0,hD,ea,eb⟩:=h;refine⟨D,h0,an (cd D ?_) hD,ea,eb⟩;have:=cB (n:=2) O (show 1<=n+1 by omega)
 rwa[zZ]at this
end Go.Sy
