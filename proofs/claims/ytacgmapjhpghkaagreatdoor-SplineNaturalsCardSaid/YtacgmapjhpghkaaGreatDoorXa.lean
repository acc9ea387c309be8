/- Part. -/
import Derived.Test.YtacgmapjhpghkaaGreatDoorWe
set_option linter.all false
namespace Go.Sy
open Ord
def sm(f:c8):Nat->Rat
 | 0=>0
 | n+1=>sm f n+f n
theorem wX{f g:c8}:∀n,(∀i,i<n->f i=g i)->sm f n=sm g n
 | 0,_=>rfl
 | n+1,h=>by rw[sm,sm,wX n fun i hi=>h i O,h n O]
theorem Ci{f:c8}:∀n,(∀i,i<n->f i=0)->sm f n=0
 | 0,_=>rfl
 | n+1,h=>by rw[sm,Ci n fun i hi=>h i O,h n O];grind
theorem Sh(f g:c8)(a:Rat):∀n,sm (fun i=>f i-a*g i) n=sm f n-a*sm g n
 | 0=>by simp only[sm];grind
 | n+1=>by rw[sm,sm,sm,Sh f g a n];grind
theorem ae6{f:c8}{k:Nat}:∀{n},k<n->(∀i,i<n->i≠k->f i=0)->sm f n=f k
 | 0,h,_=>O
 | n+1,hk,h=>by
   rw[sm];by_cases e:k=n
   .subst e;rw[Ci k fun i hi=>h i O O];grind
   .rw[ae6 (n:=n) O fun i hi=>h i O,h n O O];grind
theorem ZX{f:c8}{j k:Nat}(hj:j<k):∀{n},k<n->(∀i,i<n->i≠j->i≠k->f i=0)->sm f n=f j+f k
 | 0,h,_=>O
 | n+1,hk,h=>by
   rw[sm];by_cases e:k=n
   .subst e;rw[ae6 hj fun i hi h1=>h i O h1 O]
   .rw[ZX hj (n:=n) O fun i hi=>h i O,h n O O O];grind
def iJ(r:c4)(v:c8):Rat:=sm (fun j=>r.getD j 0*v j) r.length
def Ax(rows:b9)(v:c8):Prop:=∀i,i<rows.length->iJ (rows.getD i []) v=0
def fH{α:Type}{l:List α}{i:Nat}{d:α}:l.getD i d=(l[i]?).getD d:=fI
def gY{rows:b9}{k i j:Nat}(hk:k<rows.length:=by omega)(hi:i<rows.length:=by omega):(fT rows k i).getD j []=if j=i then rows.getD k []else if j=k then rows.getD i []else rows.getD j []:=by
 rw[fT,fH,nk,al];by_cases h:i=j
 .rw[aF h,aF hi,aF h.symm];rfl
 .rw[aG h,aG (jg h),nk];by_cases h2:k=j
  .rw[aF h2,aF hk,aF h2.symm];rfl
  .rw[aG h2,aG (jg h2),<-fH]
def iU{k:Nat}{rows:b9}{n j:Nat}(hj:j<rows.length):(cj k rows n).getD j []=if j<n/\j≠k then eW k (rows.getD k []) (rows.getD j [])else rows.getD j []:=by
 have h1:rows[j]?=some (rows.getD j []):=by rw[fH,bM hj];rfl
 rw[fH,gb,h1];rfl
def nY{k:Nat}{p r:c4}{i:Nat}(hi:i<r.length):(eW k p r).getD i 0=if r.getD k 0=0\/i<k then r.getD i 0 else r.getD i 0-r.getD k 0/p.getD k 0*p.getD i 0:=by
 unfold eW;by_cases h:r.getD k 0=0
 .rw[aF h,aF (.inl h)]
 .rw[aG h];have h1:r[i]?=some (r.getD i 0):=by rw[fH,bM hi];rfl
  rw[fH,oy,h1,cZ,gH];by_cases h2:i<k
  .rw[aG O,aF (.inr h2)]
  .rw[aF ⟨O,hi⟩,aG (by intro h3;rcases h3 with h3 | h3;exact h h3;exact h2 h3)]
structure GJ(n k:Nat)(rows:b9):Prop where
 len:rows.length=n
 row:∀i,i<n->(rows.getD i []).length=n+1
 off:∀c,c<k->∀i,i<n->i≠c->(rows.getD i []).getD c 0=0
 dia:∀c,c<k->(rows.getD c []).getD c 0≠0
def GJ.swap{n k i:Nat}{rows:b9}(h:GJ n k rows)(hk:k<n)(hi:i<n)(hki:k<=i):GJ n k (fT rows k i):=by
 have hl:=h.len;refine⟨(nW _ _ _).trans hl,fun j hj=>?_,fun c hc j hj hjc=>?_,fun c hc=>?_⟩
 .rw[gY];split
  .exact h.row k hk
  .split
   .exact h.row i hi
   .exact h.row j hj
 .rw[gY];split
  .exact h.off c hc k hk O
  .split
   .exact h.off c hc i hi O
   .exact h.off c hc j hj hjc
 .rw[gY,aG O,aG O];exact h.dia c hc
def GJ.elim{n k:Nat}{rows:b9}(h:GJ n k rows)(hk:k<n)(hp:(rows.getD k []).getD k 0≠0):GJ n (k+1) (cj k rows n):=by
 have hl:=h.len
 have key:∀j,j<n->∀c,c<k->((cj k rows n).getD j []).getD c 0=(rows.getD j []).getD c 0:=fun j hj c hc=>by
  rw[iU O];split
  .rw[nY (by rw[h.row j hj];omega),aF (.inr hc)]
  .rfl
 refine⟨(fw _ _ _).trans hl,fun j hj=>?_,fun c hc j hj hjc=>?_,fun c hc=>?_⟩
 .rw[iU O];split
  .rw[jb];exact h.row j hj
  .exact h.row j hj
 .by_cases e:c=k
  .subst e;rw[iU O,aF ⟨hj,hjc⟩,nY (by rw[h.row j hj];omega)];split
   .rename_i h1;rcases h1 with h1 | h1
    .exact h1
    .omega
   .rw[jE hp];grind
  .rw[key j hj c O];exact h.off c O j hj hjc
 .by_cases e:c=k
  .subst e;rw[iU O,aG O];exact hp
  .rw[key c O c O];exact h.dia c O
def ax5{k:Nat}{p r:c4}{v:c8}(hl:p.length=r.length)(h0:∀c,c<k->p.getD c 0=0):iJ (eW k p r) v=iJ r v-(if r.getD k 0=0 then 0 else r.getD k 0/p.getD k 0)*iJ p v:=by
 unfold iJ;rw[jb,hl,<-Sh];refine wX _ fun i hi=>?_;rw[nY hi];by_cases h1:r.getD k 0=0
 .rw[aF (.inl h1),aF h1];grind
 .rw[aG h1];by_cases h2:i<k
  .rw[aF (.inr h2),h0 i h2];grind
  .rw[aG (by intro h3;rcases h3 with h3 | h3;exact h1 h3;exact h2 h3)];grind
def Ax.swap{n k i:Nat}{rows:b9}(hl:rows.length=n)(hk:k<n)(hi:i<n)(v:c8):Ax (fT rows k i) v↔Ax rows v:=by
 constructor
 .intro h j hj;have hl2:(fT rows k i).length=n:=(nW _ _ _).trans hl;by_cases e:j=k
  .subst e;have:=h i O
   rwa[gY,aF rfl]at this
  .by_cases e2:j=i
   .subst e2;have:=h k O;rw[gY]at this;by_cases e3:k=j
    .rw[aF e3]at this;rwa[<-e3]
    .rwa[aG e3,aF rfl]at this
   .have:=h j O
    rwa[gY,aG e2,aG e]at this
 .intro h j hj;rw[nW]at hj;rw[gY];split
  .exact h k O
  .split
   .exact h i O
   .exact h j hj
def Ax.elim{n k:Nat}{rows:b9}(h:GJ n k rows)(hk:k<n)(v:c8):Ax (cj k rows n) v↔Ax rows v:=by
 have hl:=h.len;have hp0:∀c,c<k->(rows.getD k []).getD c 0=0:=fun c hc=>h.off c hc k hk O
 have hE:∀j,j<n->j≠k->iJ ((cj k rows n).getD j []) v=iJ (rows.getD j []) v-(if(rows.getD j []).getD k 0=0 then 0 else(rows.getD j []).getD k 0/(rows.getD k []).getD k 0)*iJ (rows.getD k []) v:=fun j hj hjk=>by
  rw[iU O,aF ⟨hj,hjk⟩,ax5 (by rw[h.row k hk,h.row j hj]) hp0]
 have hK:(cj k rows n).getD k []=rows.getD k []:=by rw[iU O,aG O]
 have hlE:(cj k rows n).length=n:=(fw _ _ _).trans hl
 constructor
 .intro hN j hj;have h1:=hN k O;rw[hK]at h1;by_cases e:j=k
  .rw[e];exact h1
  .have h2:=hN j O;rw[hE j O e,h1]at h2
   grind
 .intro hN j hj;rw[hlE]at hj;by_cases e:j=k
  .rw[e,hK];exact hN k O
  .rw[hE j hj e,hN k O,hN j O];grind
def OA{k i n:Nat}{rows:b9}(hl:rows.length=n)(h:HI k rows=some i):k+i<n/\(rows.getD (k+i) []).getD k 0≠0:=by
 rw[HI,Ta]at h;obtain⟨h1,h2,_⟩:=h;have h3:i<rows.length-k:=by rwa[dF]at h1
 refine⟨O,?_⟩;rw[QR]at h2;have h4:k+i<rows.length:=O
 rw[show rows.getD (k+i) []=rows[k+i] by rw[fH,bM h4];rfl]
 simpa using h2
def au4{k n:Nat}{rows:b9}(hl:rows.length=n)(h:HI k rows=none):∀i,k<=i->i<n->(rows.getD i []).getD k 0=0:=by
 intro i hi hn;rw[HI,ao9]at h
 have h1:=h (rows.getD i []) (by
  rw[Cu];refine⟨i-k,?_⟩;rw[fG,show k+(i-k)=i by omega,fH,bM O];rfl)
 simpa using h1
def Aw{n:Nat}:∀(f k:Nat)(rows:b9),GJ n k rows->k+f=n ->
  (∃rs,iy f k rows=some rs/\GJ n n rs/\∀v,Ax rs v↔Ax rows v)\/(∃v,Ax rows v/\v n=0/\∃j,j<n/\v j≠0)
 | 0,k,rows,h,hkn=>by
   obtain rfl:k=n:=O
   exact .inl ⟨rows,rfl,h,fun v=>mZ⟩
 | f+1,k,rows,h,hkn=>by
   have hl:=h.len;cases hp:HI k rows with
   | some i=>
     obtain⟨h1,h2⟩:=OA hl hp;have g1:=h.swap O h1 (xH k i)
     have hpk:((fT rows k (k+i)).getD k []).getD k 0≠0:=by
      rw[gY];split
      .rename_i e;rw[<-e]at h2;exact h2
      .rw[aF rfl];exact h2
     have g2:=g1.elim O hpk;have hN:∀v,Ax (cj k (fT rows k (k+i)) n) v↔Ax rows v:=fun v=>(Ax.elim g1 O v).trans (Ax.swap hl O h1 v);have hS:iy (f+1) k rows=iy f (k+1) (cj k (fT rows k (k+i)) n):=by rw[iy,hp,hl]
     rw[hS];rcases Aw f (k+1) _ g2 O with⟨rs,e1,e2,e3⟩ | ⟨v,e1,e2,e3⟩
     .exact .inl ⟨rs,e1,e2,fun v=>(e3 v).trans (hN v)⟩
     .exact .inr ⟨v,(hN v).1 e1,e2,e3⟩
   | none=>
     right
     have h0:=au4 hl hp;refine⟨fun j=>if j=k then 1 else if j<k then -((rows.getD j []).getD k 0/(rows.getD j []).getD j 0)else 0,fun i hi=>?_,?_,k,O,?_⟩
     .unfold iJ;rw[h.row i O];by_cases e:i<k
      .rw[ZX e (n:=n+1) O]
       .dsimp only;rw[aG O,aF e,aF rfl];have:=jE (a:=(rows.getD i []).getD k 0) (h.dia i e)
        grind
       .intro c hc h1 h2;dsimp only;rw[aG h2];split
        .rename_i h3;rw[h.off c h3 i O O];grind
        .grind
      .rw[Ci];intro c hc;dsimp only;by_cases h1:c=k
       .rw[h1,h0 i O O];grind
       .rw[aG h1];split
        .rename_i h3;rw[h.off c h3 i O O];grind
        .grind
     .dsimp only;rw[aG O,aG O]
     .dsimp only;rw[aF rfl];decide
def ym(n:Nat)(sol:c4)(j:Nat):Rat:=if j=n then -1 else sol.getD j 0
def qH{n:Nat}{rows:b9}(hl:rows.length=n)(hr:∀i,i<n->(rows.getD i []).length=n+1)(hns:∀v:Nat->Rat,v n=0->Ax rows v->∀j,j<n->v j=0) :
  ∃sol,fQ rows=some sol/\sol.length=n/\Ax rows (ym n sol):=by
 rcases Aw n 0 rows ⟨hl,hr,fun c hc=>O,fun c hc=>O⟩ O with⟨rs,e1,e2,e3⟩ | ⟨v,e1,e2,j,hj,e3⟩
 .have hlr:=e2.len;refine⟨(List.range rs.length).map (lY rs),by rw[fQ,hl,e1];rfl,by rw[aL,nL];exact hlr,(e3 _).1 fun i hi=>?_⟩
  have hs:∀j,j<n->((List.range rs.length).map (lY rs)).getD j 0=(rs.getD j []).getD n 0/(rs.getD j []).getD j 0:=fun j hj=>by
   rw[fH,dR,kC O,cZ,gH,lY,e2.row j hj];rfl
  unfold iJ;rw[e2.row i O,ZX (j:=i) (k:=n) O O]
  .rw[ym,ym,aG O,aF rfl,hs i O];have:=jE (a:=(rs.getD i []).getD n 0) (e2.dia i O)
   grind
  .intro c hc h1 h2;rw[ym,aG h2,e2.off c O i O O];grind
 .exact absurd (hns v e2 e1 j hj) e3
open Go Go.Proofs Tryz Ord
def dQ{r:c4}{k j:Nat}{a:Rat}:(r.set k a).getD j 0=if k=j/\k<r.length then a else r.getD j 0:=by
 rw[fH,nk];by_cases h:k=j
 .subst h;rw[aF rfl];by_cases h2:k<r.length
  .rw[aF h2,aF ⟨rfl,h2⟩];rfl
  .rw[aG h2,aG (fun h=>h2 h.2),fH,jQ O]
 .rw[aG h,aG (fun e=>h e.1),<-fH]
def dq{r:c4}{k:Nat}(hk:k<r.length)(a:Rat)(v:c8):iJ (r.set k a) v=iJ r v+(a-r.getD k 0)*v k:=by
 unfold iJ;rw[al];have h:=Sh (fun j=>(r.set k a).getD j 0*v j) (fun j=>r.getD j 0*v j) 1 r.length;rw[ae6 hk (fun i hi hne=>by rw[dQ,aG (fun e=>hne e.1.symm)];grind)]at h;rw[dQ,aF ⟨rfl,hk⟩]at h
 grind
def eM(n j:Nat):(List.replicate n (0:Rat)).getD j 0=0:=by
 rw[fH,wy];split<;>rfl
def mo(n:Nat)(v:c8):iJ (List.replicate n 0) v=0:=by
 unfold iJ;refine Ci _ fun i hi=>?_;rw[eM];grind
def Vl{h d:c4}{n i:Nat}(hi:1<=i)(hin:i+1<n)(v:c8):iJ (kW h d n i) v=h.getD (i-1) 0*v (i-1)+(h.getD (i-1) 0+h.getD i 0)*2*v i+h.getD i 0*v (i+1)+(d.getD i 0-d.getD (i-1) 0)*6*v n:=by
 unfold kW af7;rw[dq (by simp only[al,dU];omega),dq (by simp only[al,dU];omega),dq (by simp only[al,dU];omega),dq (by simp only[dU];omega),mo];rw[dQ,aG O,dQ,aG O,dQ,aG O,dQ,aG O,dQ,aG O,dQ,aG O,eM,eM,eM,eM];have e2:((2:Int):Rat)=2:=rfl;have e6:((6:Int):Rat)=6:=rfl;rw[e2,e6]
 grind
def RZ{n i:Nat}(hi:i<n)(v:c8):iJ (rL n i) v=v i:=by
 unfold rL;rw[dq (by simp only[al,dU];omega),dq (by simp only[dU];omega),mo];rw[dQ,aG O,eM,eM];have e1:((1:Int):Rat)=1:=rfl;rw[e1]
 grind
def ad5{h d:c4}{n:Nat}(hn:2<=n)(a:Rat)(v:c8):iJ (zb h d n a) v=h.getD 0 0*2*v 0+h.getD 0 0*v 1+(d.getD 0 0-a)*6*v n:=by
 unfold zb leR;rw[dq (by simp only[al,dU];omega),dq (by simp only[al,dU];omega),dq (by simp only[dU];omega),mo];rw[dQ,aG O,dQ,aG O,dQ,aG O,eM,eM,eM];have e2:((2:Int):Rat)=2:=rfl;have e6:((6:Int):Rat)=6:=rfl;rw[e2,e6]
 grind
def Zs{h d:c4}{n:Nat}(hn:2<=n)(b:Rat)(v:c8):iJ (yx h d n b) v=h.getD (n-2) 0*v (n-2)+h.getD (n-2) 0*2*v (n-1)+(b-d.getD (n-2) 0)*6*v n:=by
 unfold yx riR;rw[dq (by simp only[al,dU];omega),dq (by simp only[al,dU];omega),dq (by simp only[dU];omega),mo];rw[dQ,aG O,dQ,aG O,dQ,aG O,eM,eM,eM];have e2:((2:Int):Rat)=2:=rfl;have e6:((6:Int):Rat)=6:=rfl;rw[e2,e6]
 grind
theorem ba9(v:c8):∀n,0<n->∃M j,j<n/\(v j=M\/v j=-M)/\∀i,i<n->-M<=v i/\v i<=M
 | 0,h=>O
 | 1,_=>by
   by_cases h:v 0<=0
   .refine⟨-v 0,0,O,.inr b5,fun i hi=>?_⟩;obtain rfl:i=0:=O
    constructor<;>grind
   .refine⟨v 0,0,O,.inl rfl,fun i hi=>?_⟩;obtain rfl:i=0:=O
    constructor<;>grind
 | n+2,_=>by
   obtain⟨M,j,hj,hv,hall⟩:=ba9 v (n+1) O;by_cases h:-M<=v (n+1)/\v (n+1)<=M
   .refine⟨M,j,O,hv,fun i hi=>?_⟩;by_cases e:i=n+1
    .rw[e];exact h
    .exact hall i O
   .by_cases h2:v (n+1)<=0
    .refine⟨-v (n+1),n+1,O,.inr b5,fun i hi=>?_⟩;by_cases e:i=n+1
     .rw[e];constructor<;>grind
     .have:=hall i O;have:=hall j hj
      constructor<;>grind
    .refine⟨v (n+1),n+1,O,.inl rfl,fun i hi=>?_⟩;by_cases e:i=n+1
     .rw[e];constructor<;>grind
     .have:=hall i O;have:=hall j hj
      constructor<;>grind
def YN{a x M:Rat}(ha:0<a)(h1:-M<=x)(h2:x<=M):-(a*M)<=a*x/\a*x<=a*M:=by
 have e1:=pM h1 (pb ha);have e2:=pM h2 (pb ha)
 constructor<;>grind
def YD{a b M x y z:Rat}(ha:0<a)(hb:0<b)(hx:-M<=x/\x<=M)(hz:-M<=z/\z<=M)(hy:y=M\/y=-M)(h:a*x+(a+b)*2*y+b*z=0):M<=0:=by
 have h1:=YN ha hx.1 hx.2;have h2:=YN hb hz.1 hz.2;refine kQ.1 fun hM=>?_;have h3:=mc ha hM;have h4:=mc hb hM;rcases hy with e | e
 .rw[e]at h;grind
 .rw[e]at h;grind
def EL{n:Nat}{h v:c8}(hpos:∀i,i+1<n->0<h i)(hin:∀i,1<=i->i+1<n->h (i-1)*v (i-1)+(h (i-1)+h i)*2*v i+h i*v (i+1)=0)
  (he:∀M,(∀i,i<n->-M<=v i/\v i<=M)->(v 0=M\/v 0=-M)\/(v (n-1)=M\/v (n-1)=-M)->M<=0):∀j,j<n->v j=0:=by
 intro j hj;obtain⟨M,k,hk,hv,hall⟩:=ba9 v n O
 have hM:M<=0:=by
  by_cases h0:k=0
  .rw[h0]at hv;exact he M hall (.inl hv)
  .by_cases h1:k+1=n
   .rw[show k=n-1 by omega]at hv;exact he M hall (.inr hv)
   .exact YD (hpos (k-1) O) (hpos k O) (hall (k-1) O) (hall (k+1) O) hv (hin k O O)
 have:=hall j hj
 grind
def vP(x:c4){i:Nat}(hi:i+1<x.length:=by omega):(dX x).getD i 0=x.getD (i+1) 0-x.getD i 0:=by
 rw[dX,rP,fH,dR,kC O];rfl
def iX{x:c4}(hr:kj true x=true){i:Nat}(hi:i+1<x.length:=by omega):0<(dX x).getD i 0:=by
 rw[vP x hi];have:=as5 hr (yD i) hi
 grind
def ll:Fit 2 2:=by unfold Fit;decide
def xd(v:c8)(i F P:Nat):Prop:=∃p q,v i=p-q*v (i+1)/\0<=q/\q<=1/\Fit F q/\Fit P p
def xd.next{v:c8}{i F P H G:Nat}{a b g:Rat}(h:xd v i F P)(ha:0<a)(hb:0<b)(fa:Fit H a)(fb:Fit H b)(fg:Fit G g)
  (e:a*v i+(a+b)*2*v (i+1)+b*v (i+2)=g):xd v (i+1) (F+(4*H+6)) (P+F+G+(4*H+8)):=by
 obtain⟨p,q,hv,h0,h1,fq,fp⟩:=h;have haq:0<=a*(1-q):=Rat.mul_nonneg (pb ha) b5;have hD:b<=(a+b)*2-a*q:=b5
 have hD0:0<(a+b)*2-a*q:=b5
 have fD:Fit (3*H+F+4) ((a+b)*2-a*q):=(((fa.add fb).mul ll).sub (fa.mul fq)).mono O;generalize hDD:(a+b)*2-a*q=D at *;have hne:D≠0:=by intro e;rw[e]at hD0;exact absurd hD0 bY
 have hb2:b/D*D=b:=jE hne;have hp2:(g-a*p)/D*D=g-a*p:=jE hne;refine⟨(g-a*p)/D,b/D,?_,?_,?_,(fb.div fD).mono O,((fg.sub (fa.mul fp)).div fD).mono O⟩
 .generalize (g-a*p)/D=p' at *;generalize b/D=q' at *
  have h3:(v (i+1)-(p'-q'*v (i+2)))*D=0:=by
   rw[hv]at e;have e2:v (i+1)*D=v (i+1)*((a+b)*2-a*q):=by rw[hDD]
   grind
  rcases jf.1 h3 with h4 | h4
  .grind
  .exact absurd h4 hne
 .refine kQ.1 fun hn=>?_;have:=mc (show 0 < -(b/D) by grind) hD0
  grind
 .refine kQ.1 fun hn=>?_;have:=mc (show 0<b/D-1 by grind) hD0
  grind
def xd.mono{v:c8}{i F P F' P':Nat}(h:xd v i F P)(hF:F<=F')(hP:P<=P'):xd v i F' P':=by
 obtain⟨p,q,h1,h2,h3,h4,h5⟩:=h;exact⟨p,q,h1,h2,h3,h4.mono hF,h5.mono hP⟩
def yU(H F:Nat)(i:Nat):Nat:=F+i*(4*H+6)
def HG(H G F P:Nat):Nat->Nat
 | 0=>P
 | i+1=>HG H G F P i+yU H F i+G+(4*H+8)
def Xz{n:Nat}{h g v:c8}{F P H G:Nat}(hpos:∀i,i+1<n->0<h i)(fh:∀i,i+1<n->Fit H (h i))(fg:∀i,i+2<n->Fit G (g (i+1)))
  (hin:∀i,i+2<n->h i*v i+(h i+h (i+1))*2*v (i+1)+h (i+1)*v (i+2)=g (i+1)) (h0:xd v 0 F P):∀i,i+1<n->xd v i (yU H F i) (HG H G F P i)
 | 0,_=>h0.mono (by rw[yU];omega) (by rw[HG];omega)
 | i+1,hi=>((Xz hpos fh fg hin h0 i O).next (hpos i O) (hpos (i+1) hi) (fh i O) (fh (i+1) hi) (fg i hi) (hin i hi)).mono (by rw[yU,yU,bt];omega) (by rw[HG];exact ah _)
def OQ(H G F P:Nat):∀{i j:Nat},i<=j->HG H G F P i<=HG H G F P j:=fun {i j} hij=>by
 induction j with
 | zero=>rw[show i=0 by omega];exact ah _
 | succ j ih=>
   by_cases e:i=j+1
   .rw[e];exact ah _
   .have:=ih O;rw[HG];omega
theorem WM{n:Nat}{v:c8}{F P V:Nat}(hn:1<=n)(h:∀i,i+1<n->xd v i F P)(hl:Fit V (v (n-1))):∀j,j<n->Fit (V+j*(P+F+1)) (v (n-1-j))
 | 0,_=>hl.mono O
 | j+1,hj=>by
   have ih:=WM hn h hl j O;obtain⟨p,q,e,_,_,fq,fp⟩:=h (n-1-(j+1)) O;rw[show n-1-(j+1)+1=n-1-j by omega]at e;rw[e];exact(fp.sub (fq.mul ih)).mono (by rw[bt];omega)
def OJ{n:Nat}{v:c8}{F P V B:Nat}(hn:1<=n)(h:∀i,i+1<n->xd v i F P)(hl:Fit V (v (n-1)))(hB:V+n*(P+F+1)<=B):∀i,i<n->Fit B (v i):=fun i hi=>by
 have:=WM hn h hl (n-1-i) O;rw[show n-1-(n-1-i)=i by omega]at this;refine this.mono (bG (BO (cY _ ?_) _) hB);omega
def YX(x:Rat)(xs:c4):trim (x::xs)=if pC zr xs=0/\zr x=true then[]else x::trim xs:=by
 unfold trim;simp only[pC];split<;>simp
theorem gw:∀(p:c4)(s:Nat),(trim p).getD s 0=p.getD s 0
 | [],s=>rfl
 | x::xs,s=>by
   have ih:=gw xs;rw[YX];split
   .rename_i h;have hx:x=0:=by simpa[zr]using h.2
    have ht:trim xs=[]:=ep (by rw[iO];exact h.1);cases s with
    | zero=>rw[hx];rfl
    | succ s=>
      have:=ih s;rw[ht]at this;exact this
   .cases s with
    | zero=>rfl
    | succ s=>exact ih s
def pD(a b c d:Rat):List Rat:=trim [a,b,c,d]
def qq(a b c d:Rat):qx (pD a b c d):=jc _
def fJ(a b c d x:Rat):ev (pD a b c d) x=a+b*x+c*x*x+d*x*x*x:=by
 rw[pD,me,ak,ak,ak,ak,cU];grind
def bt0(a b c d:Rat):(pD a b c d).length<=4:=jV _
def bj5{a b c d:Rat}{A:Nat}(ha:Fit A a)(hb:Fit A b)(hc:Fit A c)(hd:Fit A d):∀q∈pD a b c d,Fit A q:=ta (fun q hq=>by
 simp only[cp,iZ,iQ]at hq;rcases hq with rfl | rfl | rfl | rfl<;>assumption)
def aA0(a b c d t:Rat):vj [a,b,c,d] t=pD (a+b*t+c*t*t+d*t*t*t) (b+2*c*t+3*d*t*t) (c+3*d*t) d:=
 zd (Dk _ _) (qq _ _ _ _) fun x=>by
  rw[ax1,fJ,ak,ak,ak,ak,cU];grind
theorem Se(f:c8)(x:Rat)(m:Nat):∀k,(∀i,m<=i->f i=0)->ev ((List.range (m+k)).map f) x=ev ((List.range m).map f) x
 | 0,_=>rfl
 | k+1,h=>by
   rw[<-lf,gy,cG,Og,Se f x m k h,fj,nV,h (m+k) O,ak,cU];grind
def bm8{f:c8}{x:Rat}{m n:Nat}(hm:∀i,m<=i->f i=0)(hn:∀i,n<=i->f i=0):ev ((List.range m).map f) x=ev ((List.range n).map f) x:=by
 rcases Nat.le_total m n with h | h
 .have:=Se f x m (n-m) hm;rw[show m+(n-m)=n by omega]at this;exact this.symm
 .have:=Se f x n (m-n) hn;rw[show n+(m-n)=m by omega]at this;exact this
def sJ(a b c d:Rat):mU (pD a b c d)=pD b (2*c) (3*d) 0:=by
 refine zd (jc _) (qq _ _ _ _) fun x=>?_;have hg:∀i,dvI (pD a b c d) i=[a,b,c,d].getD (i+1) 0*(((i:Int)+1:Int):Rat):=fun i=>by rw[dvI,pD,gw]
 rw[mU,me,bm8 (n:=3),fJ]
 .show ev [dvI (pD a b c d) 0,dvI (pD a b c d) 1,dvI (pD a b c d) 2] x=_;rw[hg,hg,hg,ak,ak,ak,cU];show((0*x+d*3)*x+c*2)*x+b*1=_
  grind
 .intro i hi;rw[dvI,fH,jQ O];exact Rat.zero_mul _
 .intro i hi;rw[hg,fH,jQ (by simp only[bB,bu];omega)];exact Rat.zero_mul _
section
variable(x y m:c4)(i:Nat)
def cvB:Rat:=(cD x y).getD i 0-(dX x).getD i 0*((m.getD i 0+m.getD i 0+m.getD (i+1) 0)/6)
def cvD:Rat:=(m.getD (i+1) 0-m.getD i 0)/((dX x).getD i 0*6)
def um:jG x y m i=pD (y.getD i 0+cvB x y m i * -(x.getD i 0)+m.getD i 0/2 * -(x.getD i 0) * -(x.getD i 0)+cvD x m i * -(x.getD i 0) * -(x.getD i 0) * -(x.getD i 0)) (cvB x y m i+2*(m.getD i 0/2) * -(x.getD i 0)+3*cvD x m i * -(x.getD i 0) * -(x.getD i 0)) (m.getD i 0/2+3*cvD x m i * -(x.getD i 0)) (cvD x m i):=
 aA0 _ _ _ _ _
def bB0(t:Rat):ev (jG x y m i) t=y.getD i 0+cvB x y m i*(t-x.getD i 0)+m.getD i 0/2*(t-x.getD i 0)*(t-x.getD i 0)+cvD x m i*(t-x.getD i 0)*(t-x.getD i 0)*(t-x.getD i 0):=by
 rw[um,fJ];grind
def aM4(t:Rat):ev (mU (jG x y m i)) t=cvB x y m i+m.getD i 0*(t-x.getD i 0)+3*cvD x m i*(t-x.getD i 0)*(t-x.getD i 0):=by
 rw[um,sJ,fJ];grind
def aS2(t:Rat):ev (mU (mU (jG x y m i))) t=m.getD i 0+6*cvD x m i*(t-x.getD i 0):=by
 rw[um,sJ,sJ,fJ];grind
end
def bq2(x y m:c4)(i:Nat):(jG x y m i).length<=4:=by rw[um];exact bt0 _ _ _ _
def bo8{x y:c4}(hr:kj true x=true)(hxy:y.length=x.length){i:Nat}(hi:i+1<x.length):(cD x y).getD i 0*(dX x).getD i 0=y.getD (i+1) 0-y.getD i 0:=by
 have hp:=iX hr hi;have h0:(dX x).getD i 0≠0:=by intro e;rw[e]at hp;exact absurd hp bY
 have hs:(cD x y).getD i 0=(y.getD (i+1) 0-y.getD i 0)/(dX x).getD i 0:=by
  rw[cD,fH,dR,kC (by rw[jd];omega),cZ,gH,ah4,Va,aG h0,vP y]
 rw[hs,jE h0]
def Ue{x m:c4}(hr:kj true x=true){i:Nat}(hi:i+1<x.length):cvD x m i*((dX x).getD i 0*6)=m.getD (i+1) 0-m.getD i 0:=by
 have hp:=iX hr hi;rw[cvD,jE];intro e;have:(dX x).getD i 0=0:=b5
 rw[this]at hp;exact absurd hp bY
section
variable{x y m:c4}{i:Nat}(hr:kj true x=true)(hxy:y.length=x.length)(hi:i+1<x.length)
include hr hxy hi
theorem bf0:ev (jG x y m i) (x.getD i 0)=y.getD i 0:=by rw[bB0];grind
theorem aL3:ev (jG x y m i) (x.getD (i+1) 0)=y.getD (i+1) 0:=by
 have h1:=bo8 hr hxy hi;have h2:=Ue (m:=m) hr hi;rw[bB0,cvB];have hw:=vP x hi;rw[<-hw];generalize (dX x).getD i 0=h at *;generalize (cD x y).getD i 0=s at *;generalize cvD x m i=d at *;have e:y.getD (i+1) 0=y.getD i 0+s*h:=b5
 have e2:m.getD (i+1) 0=m.getD i 0+d*(h*6):=b5
 rw[e,e2]
 grind
theorem HA:ev (mU (jG x y m i)) (x.getD i 0)=cvB x y m i:=by rw[aM4];grind
theorem zh:ev (mU (jG x y m i)) (x.getD (i+1) 0)=(cD x y).getD i 0+(dX x).getD i 0*((m.getD i 0+m.getD (i+1) 0+m.getD (i+1) 0)/6):=by
 have h2:=Ue (m:=m) hr hi;rw[aM4,cvB];have hw:=vP x hi;rw[<-hw];generalize (dX x).getD i 0=h at *;generalize (cD x y).getD i 0=s at *;generalize cvD x m i=d at *;have e2:m.getD (i+1) 0=m.getD i 0+d*(h*6):=b5
 rw[e2]
 grind
theorem Dq:ev (mU (mU (jG x y m i))) (x.getD i 0)=m.getD i 0:=by rw[aS2];grind
theorem zG:ev (mU (mU (jG x y m i))) (x.getD (i+1) 0)=m.getD (i+1) 0:=by
 have h2:=Ue (m:=m) hr hi;rw[aS2];have hw:=vP x hi;rw[<-hw]
 grind
end
def aS9{x y m:c4}{i:Nat}(hr:kj true x=true)(hxy:y.length=x.length)(hi:i+2<x.length)
  (he:(dX x).getD i 0*m.getD i 0+((dX x).getD i 0+(dX x).getD (i+1) 0)*2*m.getD (i+1) 0+(dX x).getD (i+1) 0*m.getD (i+2) 0=((cD x y).getD (i+1) 0-(cD x y).getD i 0)*6) :
  ev (mU (jG x y m i)) (x.getD (i+1) 0)=ev (mU (jG x y m (i+1))) (x.getD (i+1) 0):=by
 rw[zh hr hxy O,HA hr hxy O,cvB]
 grind
def sM(x y:c4)(r1 r2:c4):List (List Rat):=(List.range ((dX x).length-1)).map (fun j=>kW (dX x) (cD x y) x.length (j+1))++[r1,r2]
def ba0(x y:c4):nA x y=sM x y (rL x.length 0) (rL x.length (x.length-1)):=rfl
def ba4(x y:c4)(a b:Rat):tz x y a b=sM x y (zb (dX x) (cD x y) x.length a) (yx (dX x) (cD x y) x.length b):=rfl
section
variable{x y r1 r2:c4}(h2:2<=x.length)
include h2
theorem oY:(sM x y r1 r2).length=x.length:=by
 rw[sM,cF,aL,nL,jd];show x.length-1-1+2=_;omega
theorem Te{i:Nat}(hi:i+2<x.length):(sM x y r1 r2).getD i []=kW (dX x) (cD x y) x.length (i+1):=by
 have:=jd x;rw[sM,fH,ek (by rw[aL,nL];omega),dR,kC O];rfl
theorem Zw:(sM x y r1 r2).getD (x.length-2) []=r1:=by
 have:=jd x;rw[sM,fH,fi (by rw[aL,nL];omega),aL,nL,show x.length-2-((dX x).length-1)=0 by omega];rfl
theorem ae8:(sM x y r1 r2).getD (x.length-1) []=r2:=by
 have:=jd x;rw[sM,fH,fi (by rw[aL,nL];omega),aL,nL,show x.length-1-((dX x).length-1)=1 by omega];rfl
theorem CV(h1:r1.length=x.length+1)(hr2:r2.length=x.length+1):∀i,i<x.length->((sM x y r1 r2).getD i []).length=x.length+1:=fun i hi=>by
 by_cases e:i+2<x.length
 .rw[Te h2 e,rV]
 .by_cases e2:i+2=x.length
  .rw[show i=x.length-2 by omega,Zw h2,h1]
  .rw[show i=x.length-1 by omega,ae8 h2,hr2]
theorem oo{v:c8}(hN:Ax (sM x y r1 r2) v):(∀i,i+2<x.length->(dX x).getD i 0*v i+((dX x).getD i 0+(dX x).getD (i+1) 0)*2*v (i+1)+(dX x).getD (i+1) 0*v (i+2)+((cD x y).getD (i+1) 0-(cD x y).getD i 0)*6*v x.length=0)/\iJ r1 v=0/\iJ r2 v=0:=by
 have hl:=oY (y:=y) (r1:=r1) (r2:=r2) h2;refine⟨fun i hi=>?_,?_,?_⟩
 .have:=hN i O;rw[Te h2 hi,Vl O O]at this;exact this
 .have:=hN (x.length-2) O
  rwa[Zw h2]at this
 .have:=hN (x.length-1) O
  rwa[ae8 h2]at this
end
def vF(x y m:c4):Prop:=∀i,i+2<x.length->(dX x).getD i 0*m.getD i 0+((dX x).getD i 0+(dX x).getD (i+1) 0)*2*m.getD (i+1) 0+(dX x).getD (i+1) 0*m.getD (i+2) 0=((cD x y).getD (i+1) 0-(cD x y).getD i 0)*6
def ij{n j:Nat}(m:c4)(h:j<n:=by omega):ym n m j=m.getD j 0:=aG O
def Gn(n:Nat)(m:c4):ym n m n=-1:=aF rfl
def DN{x y m r1 r2:c4}(h2:2<=x.length)(hN:Ax (sM x y r1 r2) (ym x.length m)):vF x y m:=fun i hi=>by
 have:=(oo h2 hN).1 i hi;rw[ij m (show i<x.length by omega),ij m (show i+1<x.length by omega),ij m (show i+2<x.length by omega),Gn]at this
 grind
def ao0{h M a b:Rat}(hh:0<h)(ha:a=M\/a=-M)(hb:-M<=b/\b<=M)(e:h*2*a+h*b=0):M<=0:=by
 have h1:=YN hh hb.1 hb.2;refine kQ.1 fun hM=>?_;have h3:=mc hh hM;rcases ha with e2 | e2
 .rw[e2]at e;grind
 .rw[e2]at e;grind
section
variable{x y:c4}(h2:2<=x.length)(hr:kj true x=true)
include h2 hr
theorem XC(v:c8)(hv:v x.length=0)(hN:Ax (nA x y) v):∀j,j<x.length->v j=0:=by
 obtain⟨e1,e2,e3⟩:=oo (y:=y) h2 hN;rw[RZ O]at e2 e3;refine EL (h:=fun i=>(dX x).getD i 0) (fun i hi=>iX hr hi) (fun i h1 hi=>?_) fun M hM he=>?_
 .have:=e1 (i-1) O;rw[show i-1+1=i by omega,show i-1+2=i+1 by omega,hv]at this
  grind
 .rcases he with h | h<;>grind
theorem VT(a b:Rat)(v:c8)(hv:v x.length=0)(hN:Ax (tz x y a b) v):∀j,j<x.length->v j=0:=by
 obtain⟨e1,e2,e3⟩:=oo (y:=y) h2 hN;rw[ad5 h2,hv]at e2;rw[Zs h2,hv]at e3;refine EL (h:=fun i=>(dX x).getD i 0) (fun i hi=>iX hr hi) (fun i h1 hi=>?_) fun M hM he=>?_
 .have:=e1 (i-1) O;rw[show i-1+1=i by omega,show i-1+2=i+1 by omega,hv]at this
  grind
 .rcases he with h | h
  .exact ao0 (iX hr (i:=0)) h (hM 1 O) b5
  .refine ao0 (iX hr (i:=x.length-2)) h (hM (x.length-2) O) b5
end
def qE:Fit 3 6:=by unfold Fit;decide
def aO0:Fit 2 (1/2):=by unfold Fit;decide +kernel
def OT(H F:Nat){i j:Nat}(h:i<=j:=by omega):yU H F i<=yU H F j:=BO (cY _ h) _
structure wI(x y:c4):Prop where
 h2:2<=x.length
 h8:x.length<=8
 hr:kj true x=true
 hxy:y.length=x.length
 hx:∀a∈x,Fit 40 a
 hy:∀a∈y,Fit 40 a
section
variable{x y:c4}(D:wI x y)
include D
theorem wI.h(i:Nat):Fit 81 ((dX x).getD i 0):=aD (oG O D.hx) i
theorem wI.d(i:Nat):Fit 162 ((cD x y).getD i 0):=aD (tP D.hx D.hy) i
theorem wI.g(i:Nat):Fit 328 (((cD x y).getD (i+1) 0-(cD x y).getD i 0)*6):=(((D.d (i+1)).sub (D.d i)).mul qE).mono O
theorem wI.eS{m:c4}(he:vF x y m){F P:Nat}(h0:xd (fun j=>m.getD j 0) 0 F P):∀i,i+1<x.length->xd (fun j=>m.getD j 0) i (yU 81 F 7) (HG 81 328 F P 7):=fun i hi=>by
 have h8:=D.h8;exact(Xz (h:=fun i=>(dX x).getD i 0) (g:=fun i=>((cD x y).getD i 0-(cD x y).getD (i-1) 0)*6) (fun i hi=>iX D.hr hi) (fun i _=>D.h i) (fun i _=>D.g i) (fun i hi=>he i hi) h0 i hi).mono (OT _ _) (OQ _ _ _ _ O)
theorem bg3:∃m,fQ (nA x y)=some m/\m.length=x.length/\vF x y m/\m.getD 0 0=0/\m.getD (x.length-1) 0=0/\∀a∈m,Fit 220000 a:=by
 have h2:=D.h2;have h8:=D.h8;obtain⟨m,e1,e2,e3⟩:=qH (n:=x.length) (rows:=nA x y) (oY h2) (CV h2 (xZ _ _) (xZ _ _)) (XC h2 D.hr);have he:=DN h2 e3;obtain⟨_,q1,q2⟩:=oo h2 e3;rw[RZ O,ij m]at q1 q2;refine⟨m,e1,e2,he,q1,q2,fun a ha=>?_⟩;obtain⟨i,hi,rfl⟩:=lu.1 ha;have h0:xd (fun j=>m.getD j 0) 0 1 1:=⟨0,0,by dsimp only;rw[q1];grind,bY,bY,Fit.zero O,Fit.zero O⟩
 have:=OJ (n:=x.length) (v:=fun j=>m.getD j 0) (V:=1) (B:=220000) O (D.eS he h0) (by show Fit 1 (m.getD _ 0);rw[q2];exact Fit.zero O) (bG (BO (cY _ h8) _) bY) i O
 rwa[show m.getD i 0=m[i] by rw[fH,bM hi];rfl]at this
theorem bq1{a b:Rat}(fa:Fit 40 a)(fb:Fit 40 b):∃m,fQ (tz x y a b)=some m/\m.length=x.length/\vF x y m/\(dX x).getD 0 0*2*m.getD 0 0+(dX x).getD 0 0*m.getD 1 0=((cD x y).getD 0 0-a)*6 /\
  (dX x).getD (x.length-2) 0*m.getD (x.length-2) 0+(dX x).getD (x.length-2) 0*2*m.getD (x.length-1) 0=(b-(cD x y).getD (x.length-2) 0)*6/\∀q∈m,Fit 260000 q:=by
 have h2:=D.h2;have h8:=D.h8;obtain⟨m,e1,e2,e3⟩:=qH (n:=x.length) (rows:=tz x y a b) (oY h2) (CV h2 (EU _ _ _ _) (Ec _ _ _ _)) (VT h2 D.hr a b);have he:=DN h2 e3;obtain⟨_,q1,q2⟩:=oo h2 e3;rw[ad5 h2,ij m,ij m,Gn]at q1;rw[Zs h2,ij m,ij m,Gn]at q2;refine⟨m,e1,e2,he,b5,b5,fun q hq=>?_⟩;obtain⟨i,hi,rfl⟩:=lu.1 hq;have hp0:=iX D.hr (i:=0);have n0:(dX x).getD 0 0≠0:=by intro e;rw[e]at hp0;exact absurd hp0 bY
 have h0:xd (fun j=>m.getD j 0) 0 2 289:=by
  refine⟨(((cD x y).getD 0 0-a)*6)/((dX x).getD 0 0*2),1/2,?_,b7,b7,aO0,((((D.d 0).sub fa).mul qE).div ((D.h 0).mul ll)).mono O⟩;have hz:(dX x).getD 0 0*2≠0:=b5
  have hc:=jE (a:=((cD x y).getD 0 0-a)*6) hz;dsimp only;generalize (((cD x y).getD 0 0-a)*6)/((dX x).getD 0 0*2)=p at *;have:(m.getD 0 0-(p-1/2*m.getD (0+1) 0))*((dX x).getD 0 0*2)=0:=b5
  rcases jf.1 this with h | h
  .grind
  .exact absurd h hz
 have hR:=D.eS he h0
 have hlast:Fit 30000 (m.getD (x.length-1) 0):=by
  obtain⟨p,q,e,g0,g1,fq,fp⟩:=hR (x.length-2) O;have e:m.getD (x.length-2) 0=p-q*m.getD (x.length-2+1) 0:=e;rw[show x.length-2+1=x.length-1 by omega]at e;have hpn:=iX D.hr (i:=x.length-2);have fh:=D.h (x.length-2);have fd:=D.d (x.length-2);generalize (dX x).getD (x.length-2) 0=h at *
  have hz:(2-q)*h≠0:=by
   intro e;have:=mc (show 0<2-q by grind) hpn;rw[e]at this;exact absurd this bY
  have hv:m.getD (x.length-1) 0=((b-(cD x y).getD (x.length-2) 0)*6-h*p)/((2-q)*h):=by
   have hc:=jE (a:=(b-(cD x y).getD (x.length-2) 0)*6-h*p) hz;generalize ((b-(cD x y).getD (x.length-2) 0)*6-h*p)/((2-q)*h)=u at *;have:(m.getD (x.length-1) 0-u)*((2-q)*h)=0:=by rw[e]at q2;grind
   rcases jf.1 this with h | h
   .grind
   .exact absurd h hz
  rw[hv];exact(((((fb.sub fd).mul qE).sub (fh.mul fp)).div ((ll.sub fq).mul fh))).mono bY
 have:=OJ (n:=x.length) (v:=fun j=>m.getD j 0) (V:=30000) (B:=260000) O hR hlast (bG (BO (cY _ h8) _) bY) i O
 rwa[show m.getD i 0=m[i] by rw[fH,bM hi];rfl]at this
end
def aE8(p:c4):Nat:=p.foldr (fun a d=>a.den*d) 1
theorem Yx:∀{p:c4}{a:Rat},a∈p->a.den∣aE8 p
 | b::p,a,h=>by
   rcases cp.1 h with rfl | h
   .exact uY _ _
   .exact Nat.dvd_trans (Yx h) (Bt _ _)
theorem an8:∀p:List Rat,aE8 p≠0
 | []=>bY
 | a::p=>kE a.den_nz (an8 p)
theorem aj5{A:Nat}:∀{p:c4},(∀a∈p,Fit A a)->aE8 p<=2^(A*p.length)
 | [],_=>yH
 | a::p,h=>by
   have h1:=(h a aT).2;have h2:=aj5 (A:=A) (p:=p) fun b hb=>h b (by simp[hb]);show a.den*aE8 p<=_;rw[bB,dr,eG,eK,cN];exact fP h2 (mW h1)
def Pe{A D:Nat}{a:Rat}(h:Fit A a)(hd:a.den∣D):Bd D (2^A) a:=⟨hd,bG (mW h.1) (ma _ a.den_pos)⟩
def bj1{D E A:Nat}(hD:D<=2^(4*A))(hE:E<=2^A):xR D E (2^A) (2^A) 4<2^(16*A+40):=by
 unfold xR;have hx:1<=2^A:=yH;have e4:(4*2^A+1)<=2^(A+3):=by rw[eK];omega
 have h1:(4*2^A+1)^4<=2^(4*A+12):=by
  rw[show 4*A+12=(A+3)*4 by omega,Nat.pow_mul];exact sL e4 4
 have h2:2^A*(4*2^A+1)^4+1<=2^(5*A+13):=by
  have:=dz (2^A) h1;rw[<-eK,show A+(4*A+12)=5*A+12 by omega]at this;have h3:1<=2^(5*A+12):=yH;rw[show 5*A+13=5*A+12+1 by omega,bw];exact bG (Nat.add_le_add this h3) (ud (Nat.mul_two _).symm)
 have h3:2^A+1<=2^(A+1):=by rw[bw];omega
 have h4:D*E^4*E<=2^(9*A):=by
  have a1:=sL hE 4;rw[<-Nat.pow_mul]at a1;have:=fP (fP hD a1) hE;rw[<-eK,<-eK]at this
  rwa[show 4*A+A*4+A=9*A by omega]at this
 have h5:(4+1)*((2^A*(4*2^A+1)^4+1)*(2^A+1))<=2^(6*A+17):=by
  have:=fP (show 4+1<=2^3 by decide) (fP h2 h3);rw[<-eK,<-eK]at this
  rwa[show 3+(5*A+13+(A+1))=6*A+17 by omega]at this
 have:=fP h4 h5;rw[<-eK]at this;exact fM this (Nat.pow_lt_pow_right O O)
def aw8(p:c4)(c:Rat)(A:Nat)(hp:∀a∈p,Fit A a)(hc:Fit A c)(hl:p.length<=4)(hA:A<=100000000:=by omega):aX prog 205 [.one (sQ p),qT c] (.ret [.one (sQ (vj p c))]):=by
 refine Vr p c (aE8 p) c.den (2^A) (2^A) 4 (16*A+40) (fun a ha=>Pe (hp a ha) (Yx ha)) (Pe hc (Nat.dvd_refl _)) hl (bj1 (bG (aj5 hp) (gI O ?_)) (mW hc.2)) (an8 p) c.den_nz yH;rw[cN];exact cY _ hl
def eL{A:Nat}{l:c4}{i:Nat}{a:Rat}(h:∀q∈l,Fit A q)(ha:Fit A a):∀q∈l.set i a,Fit A q:=fun q hq=>by
 rcases pU hq with hq | rfl
 .exact h q hq
 .exact ha
def pG{A n:Nat}(hA:1<=A):∀q∈List.replicate n (0:Rat),Fit A q:=fun q hq=>by rw[(kL.1 hq).2];exact Fit.zero hA
def rF:Fit 2 ((2:Int):Rat):=ll
def rH:Fit 3 ((6:Int):Rat):=qE
def ai3(x:c4)(i:Nat):(rL x.length i).length=x.length+1/\∀a∈rL x.length i,Fit 400 a:=
 ⟨xZ _ _,eL (eL (pG O) (Fit.zero O)) (Fit.int (n:=1) O b7)⟩
section
variable{x y:c4}(D:wI x y)
include D
theorem wI.giv:mM x y=true:=by
 have h8:=D.h8;rw[mM,bz D.h2,bz (show x.length<=40 by omega),bz D.hxy,D.hr];rfl
theorem wI.inn(i:Nat)(h1:1<=i):∀a∈kW (dX x) (cD x y) x.length i,Fit 400 a:=
 eL (eL (eL (eL (pG O) (((((D.d i).sub (D.d (i-1))).mul rH)).mono O)) ((D.h _).mono O)) ((((D.h _).add (D.h _)).mul rF).mono O)) ((D.h _).mono O)
theorem wI.Zy{r1 r2:c4}(h1:r1.length=x.length+1/\∀a∈r1,Fit 400 a)(h2:r2.length=x.length+1/\∀a∈r2,Fit 400 a):vL x.length (x.length+1) 400 (sM x y r1 r2):=by
 refine⟨oY D.h2,fun r hr=>?_⟩;rw[sM]at hr;rcases dx.1 hr with hr | hr
 .obtain⟨j,_,rfl⟩:=dm.1 hr;exact⟨rV _ _ _ _,D.inn _ O⟩
 .simp only[cp,iZ,iQ]at hr;rcases hr with rfl | rfl
  .exact h1
  .exact h2
theorem wI.cz6{a:Rat}(fa:Fit 40 a):(zb (dX x) (cD x y) x.length a).length=x.length+1/\∀q∈zb (dX x) (cD x y) x.length a,Fit 400 q:=
 ⟨EU _ _ _ _,eL (eL (eL (pG O) ((((D.d 0).sub fa).mul rH).mono O)) (((D.h 0).mul rF).mono O)) ((D.h 0).mono O)⟩
theorem wI.cp3{b:Rat}(fb:Fit 40 b):(yx (dX x) (cD x y) x.length b).length=x.length+1/\∀q∈yx (dX x) (cD x y) x.length b,Fit 400 q:=
 ⟨Ec _ _ _ _,eL (eL (eL (pG O) (((fb.sub (D.d _)).mul rH).mono O)) ((D.h _).mono O)) (((D.h _).mul rF).mono O)⟩
theorem wI.bv4{m:c4}(hm:∀a∈m,Fit 800000 a)(i:Nat):∀q∈cvP x y m i,Fit 2500000 q:=fun q hq=>by
 have fm:=fun j=>aD hm j;simp only[cvP,cp,iZ,iQ]at hq;rcases hq with rfl | rfl | rfl | rfl
 .exact(aD D.hy _).mono O
 .exact((D.d i).sub ((D.h i).mul ((((fm i).add (fm i)).add (fm (i+1))).div rH))).mono O
 .exact((fm i).div rF).mono O
 .exact(((fm (i+1)).sub (fm i)).div ((D.h i).mul rH)).mono O
theorem wI.shift{m:c4}(hm:∀a∈m,Fit 800000 a)(i:Nat):aX prog 205 [.one (sQ (cvP x y m i)),qT (-(x.getD i 0))] (.ret [.one (sQ (jG x y m i))]):=
 aw8 _ _ 2500000 (D.bv4 hm i) ((aD D.hx i).neg.mono O) (ah 4)
theorem wI.bg2{m:c4}(hm:∀a∈m,Fit 800000 a)(i:Nat):∀q∈jG x y m i,Fit 9000000 q:=by
 have fm:=fun j=>aD hm j;have fx:=(aD D.hx i).neg;have fy:=aD D.hy i;have fB:Fit 2450000 (cvB x y m i):=((D.d i).sub ((D.h i).mul ((((fm i).add (fm i)).add (fm (i+1))).div qE))).mono O;have fC:Fit 800005 (m.getD i 0/2):=((fm i).div ll).mono O;have fD:Fit 1700000 (cvD x m i):=(((fm (i+1)).sub (fm i)).div ((D.h i).mul qE)).mono O;have f3:Fit 2 3:=by unfold Fit;decide
 rw[um];refine bj5 ?_ ?_ ?_ (fD.mono O)
 .exact(((fy.add (fB.mul fx)).add ((fC.mul fx).mul fx)).add (((fD.mul fx).mul fx).mul fx)).mono O
 .exact((fB.add ((ll.mul fC).mul fx)).add (((f3.mul fD).mul fx).mul fx)).mono O
 .exact(fC.add ((f3.mul fD).mul fx)).mono O
end
def ba6:∀k,k<=8->gA 400 k<=1000000000:=fun k hk=>by
 match k,hk with
 | 0,_ | 1,_ | 2,_ | 3,_ | 4,_ | 5,_ | 6,_ | 7,_ | 8,_=>decide
def bM5{x y m:c4}(D:wI x y)(hm:∀a∈m,Fit 800000 a)(hl:m.length=x.length)(hsol:fQ (nA x y)=some m) :
  aX prog 49 [.one (sQ x),.one (sQ y)] (.ret [.agg (tA x ((List.range (x.length-1)).map (jG x y m))),.one (.int .i64 0)]):=by
 have h8:=D.h8;exact DX x y m 800000 400 O O (fun a h=>(D.hx a h).mono O) (fun a h=>(D.hy a h).mono O) hm O D.h2 D.hxy hl D.giv (D.Zy (ai3 x 0) (ai3 x _)) O (fun k hk=>ba6 k O) hsol (fun i _=>D.shift hm i)
def bO5{x y m:c4}(D:wI x y){a b:Rat}(fa:Fit 40 a)(fb:Fit 40 b)(hm:∀a∈m,Fit 800000 a)(hl:m.length=x.length)(hsol:fQ (tz x y a b)=some m) :
  aX prog 50 [.one (sQ x),.one (sQ y),qT a,qT b] (.ret [.agg (tA x ((List.range (x.length-1)).map (jG x y m))),.one (.int .i64 0)]):=by
 have h8:=D.h8;exact EE x y m a b 800000 400 O O (fun a h=>(D.hx a h).mono O) (fun a h=>(D.hy a h).mono O) (fa.mono O) (fb.mono O) hm O D.h2 D.hxy hl D.giv (D.Zy (D.cz6 fa) (D.cp3 fb)) O (fun k hk=>ba6 k O) hsol (fun i _=>D.shift hm i)
end Go.Sy
