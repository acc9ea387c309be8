/- Part. -/
import Derived.Test.YtdmcadckdnnglaaGreatDoorHe
set_option linter.all false
set_option maxHeartbeats 4000000
namespace Go.Sy
open Go Go.Proofs Tryz Ord
def bP1:Tr:=jL 0 4 4 0 40 22 24 (dK 7 3 39 26 (Pk 227 8 0 1 2 6 29 123 (aP3 9 30 (jk 6 112 5 10 28 31 118 (bX 4 1 3 24 (mL 0 12 11))))))
def bf2:Tr:=dK 41 6 123 78 (eV 8 33 118 82 83 (RB 8 33 6 123 84 (eO 67 [G6 42,G6 43] [some 6] [81,85] [123,123] 123 true (eO 66 [.agg [U 34 0,U 35 0,U 36 0,U 37 0,U 38 0,U 39 0],G6 44] [some 6] [80,86] [123,123] 123 true (bX 33 1 3 75 (.back 2 [lV 46 0,lV 45 0,lV 45 1,lV 45 2,lV 45 3,lV 45 4,lV 45 5]))))))
def bu2:Tr:=dW 33 32 0 3 75 74 0 (aJ 40 0 (jL 31 0 33 0 118 73 75 bf2) (eO 229 [.agg [U 34 0,U 35 0,U 36 0,U 37 0,U 38 0,U 39 0],W 2 0] [some 6] [90,91] [123,3] 123 true (aP3 41 92 (jk 6 112 28 42 89 93 118 (bX 27 1 3 69 (mL 1 44 43))))))
def be2:Tr:=zB 1 (dW 27 26 0 3 69 68 0 (aJ 29 0 (jL 25 0 27 0 109 67 69 (cq 30 118 71 (bD 31 0 73 118 (.loop 2 [lK 0,lN,.w (.one (.c (.k (.bool false)))),lN,lN,.w (.one (.c (.k (.bool false)))),lN] bu2)))) (lZ 64 9 0 10 0 11 0 24 0 24 1 24 2 97 98 (bX 7 1 3 40 (.back 0 [lV 31 0,.row 28,lV 30 0,lV 30 1,lV 30 2])))))
def bv2:Tr:=yD 167 1 1 1 1 2 9 10 0 11 0 57 58 (ZN 18 20 40 56 59 (Dh 235 3 21 3 60 40 39 (ZN 19 22 40 55 61 (Dh 208 3 23 3 62 40 39 (eO 147 [.agg [U 16 0,U 16 1,U 16 2,U 16 3,U 16 4,U 16 5,U 16 6,U 16 7,U 16 8],G3 24,W 2 0] [none] [64,65,66] [185,39,3] 109 true (bD 25 0 67 109 be2))))))
def aZ1:Tr:=kp 7 0 64 3 42 (YD 14 43 (eO 100 [W 0 0,.agg [U 9 0,U 10 0,U 11 0]] [some 5] [46,47] [32,39] 171 true (eO 123 [G5 15] [some 9] [48] [171] 185 true (og 202 1 3 3 39 (lZ 36 16 5 16 6 16 7 17 0 17 1 17 2 51 52 (mv 65 18 3 54 39 bv2))))))
def bG8:Tr:=dW 4 3 0 3 24 23 0 (aJ 6 0 bP1 (.loop 0 [lK 0,.row 5,lV 0 1,lV 0 2,lV 0 3] (eO 38 [.agg [U 9 0,U 10 0,U 11 0],G3 1] [none] [36,37] [39,39] 3 true (oK 12 3 38 (aJ 13 0 aZ1 (yU 6 8))))))
def ce2:Tr:=bD 0 4 22 40 (zB 0 bG8)
def an3:aO prog f234 (look [(1,⟨[11],[(7,118)],[],[(10,[])]⟩)]) [.v (some 5),.v (some 3),.v none]=ce2:=aT
def HU:au aF.Sub [.one (.exact (.slice none 0 0)),.one (.bool false),.one (.exact (.slice none 0 0)),.one (.exact (.slice none 0 0)),.one (.bool false),.one (.exact (.slice none 0 0))] ((cM 0 0).map .one):=⟨fg.1,fg.2.1,fg.2.2.1,fg.1,fg.2.1,fg.2.2.1,trivial⟩
abbrev VS:=List (Rat×Rat)
abbrev vS(v:VS):List (List aE):=v.map fun p=>cM p.1 p.2
def dR(M v:k6):Nat->Rat×Rat
 | 0=>(0,0)
 | l+1=>((dR M v l).1+jq (M l).1 (M l).2 (v l).1 (v l).2,(dR M v l).2+jz (M l).1 (M l).2 (v l).1 (v l).2)
def ya(m:Nat)(k:Int)(M:Nat->Nat->Rat×Rat)(v:VS)(d:Nat):Rat×Rat:=
 (oJ (dR (M d) (fun l=>v.getD l (0,0)) m).1 k.toNat,ZA (dR (M d) (fun l=>v.getD l (0,0)) m).2 k.toNat)
def nA(m:Nat)(k:Int)(M:Nat->Nat->Rat×Rat)(v:VS):VS:=(List.range m).map (ya m k M v)
def ao(aB:Rat):Rat:=aB*mkRat 1 (2^1)
def ei(aB x c:Rat):Rat:=lA [-(ao aB),mD [ao aB,x-c] 2] 2
def DC(E:j0)(c aB:Rat)(st:Nat)(t:Rat)(k:Int)(N:Nat):Nat->Nat->Rat×Rat:=fun d l=>
 (RC (aV E c) (E.length-1) (aG E c) aB st t k N d l,QA (aV E c) (E.length-1) (aG E c) aB st t k N d l)
def xm(E:j0)(x:Rat)(k:Int)(c:Rat):Option (Rat×(Nat->Nat->Rat×Rat)):=
 match bp (aV E c) (E.length-1) (aG E c)with
 | none=>none
 | some (aB,st)=>match ew E c aB st (ei aB x c) (E.length-1-1) k with
   | none=>none
   | some N=>some (ei aB x c,DC E c aB st (ei aB x c) k N)
def at1(E:j0)(x:Rat)(k:Int)(r:Rat->VS->Option VS)(c:Rat)(v:VS):Option VS:=
 if c=x then some v else(xm E x k c).elim none fun z=>r (c+z.1) (nA (E.length-1) k z.2 v)
def fe(E:j0)(x:Rat)(k:Int):Nat->Rat->VS->Option VS
 | 0=>fun c v=>if c=x then some v else none
 | f+1=>fun c v=>at1 E x k (fe E x k f) c v
def uI{E:j0}{x c:Rat}{k:Int}{v:VS}(h:c≠x):fe E x k 0 c v=none:=aD h
def qD{E:j0}{x c:Rat}{k:Int}{v:VS}(f:Nat)(h:c≠x)(hn:xm E x k c=none):fe E x k f c v=none:=by
 cases f with
 | zero=>exact aD h
 | succ f=>show at1 E x k (fe E x k f) c v=none;unfold at1;rw[aD h,hn];rfl
def qL{E:j0}{x c t:Rat}{k:Int}{v:VS}{M:Nat->Nat->Rat×Rat}(f:Nat)(h:c≠x)(hn:xm E x k c=some (t,M)):fe E x k (f+1) c v=fe E x k f (c+t) (nA (E.length-1) k M v):=by
 show at1 E x k (fe E x k f) c v=_;unfold at1;rw[aD h,hn];rfl
def mi{E:j0}{x:Rat}{k:Int}{v:VS}(f:Nat):fe E x k f x v=some v:=by
 cases f with
 | zero=>exact aI rfl
 | succ f=>exact aI rfl
def yi{E:j0}{x c:Rat}{k:Int}(h:bp (aV E c) (E.length-1) (aG E c)=none):xm E x k c=none:=by unfold xm;rw[h]
def Hb{E:j0}{x c aB:Rat}{st:Nat}{k:Int}(h:bp (aV E c) (E.length-1) (aG E c)=some (aB,st))(hn:ew E c aB st (ei aB x c) (E.length-1-1) k=none):xm E x k c=none:=by unfold xm;rw[h];dsimp only;rw[hn]
def CN{E:j0}{x c aB:Rat}{st N:Nat}{k:Int}(h:bp (aV E c) (E.length-1) (aG E c)=some (aB,st))(hn:ew E c aB st (ei aB x c) (E.length-1-1) k=some N):xm E x k c=some (ei aB x c,DC E c aB st (ei aB x c) k N):=by unfold xm;rw[h];dsimp only;rw[hn]
def bZ4:Option VS->Out
 | some v=>.ret [.one (.slice 6 (vS v))]
 | none=>.pan (zI 5)
structure cp6(E:j0)(x:Rat)(k:Int)(H:Nat)(c:Rat):Prop where
 hat:aK prog 100 [.one (eQ E),qT c] (.ret [Cl (aV E c) (E.length-1) (aG E c)])
 hre:aK prog 123 [Cl (aV E c) (E.length-1) (aG E c)] (oM E c)
 rf:∀aB st,bp (aV E c) (E.length-1) (aG E c)=some (aB,st)->Fit 2097152 aB
 mx:∀aB st,bp (aV E c) (E.length-1) (aG E c)=some (aB,st)->aK prog 147 [.agg (zJ (aV E c) (E.length-1) (aG E c) aB (st:Nat)),qT (ei aB x c),.one (.int .i64 k)] (WQ (aV E c) (E.length-1) (aG E c) aB st (ei aB x c) k (ew E c aB st (ei aB x c) (E.length-1-1) k))
 tf:∀aB st,bp (aV E c) (E.length-1) (aG E c)=some (aB,st)->Fit 2097152 (ei aB x c)
 ent:∀aB st N,bp (aV E c) (E.length-1) (aG E c)=some (aB,st)->ew E c aB st (ei aB x c) (E.length-1-1) k=some N->∀d,d<E.length-1->∀l,l<E.length-1 ->
  Fit H (DC E c aB st (ei aB x c) k N d l).1/\Fit H (DC E c aB st (ei aB x c) k N d l).2
structure SI(E:j0)(x:Rat)(k:Int)(H W:Nat)(Inv:Nat->Rat->VS->Prop):Prop where
 Dv:∀f c v,Inv f c v->Fit 1024 c/\v.length=E.length-1/\∀p∈v,Fit W p.1/\Fit W p.2
 hop:∀f c v,Inv f c v->c≠x->cp6 E x k H c
 next:∀f c v t M,Inv (f+1) c v->c≠x->xm E x k c=some (t,M)->Inv f (c+t) (nA (E.length-1) k M v)
theorem tL{M v:k6}{m H W:Nat}(hH:1<=H)(hM:∀l,l<m->Fit H (M l).1/\Fit H (M l).2)(hv:∀l,l<m->Fit W (v l).1/\Fit W (v l).2):∀l,l<=m->Fit (l*(H+W+1)+1) (dR M v l).1/\Fit (l*(H+W+1)+1) (dR M v l).2
 | 0,_=>⟨Fit.zero O,Fit.zero O⟩
 | l+1,h=>by
   obtain⟨a1,a2⟩:=tL hH hM hv l O;obtain⟨b1,b2⟩:=Gl hH (hM l O).1 (hM l O).2 (hv l O).1 (hv l O).2;rw[dR,ba,cZ];exact⟨(a1.add b1).mono O,(a2.add b2).mono O⟩
def cY{v:VS}{l:Nat}(h:l<v.length:=by omega):v[l]?=some (v.getD l (0,0)):=by
 rw[dp,bU h];rfl
def BU{aB:Rat}{B:Nat}(h:Fit B aB):Fit (B+257) (ao aB):=h.mul (gu O)
def cl3{a b:Rat}:mF a b≠0↔a≠b:=by
 unfold mF
 constructor
 .rintro h rfl;exact h (by rw[aD e9,aD e9])
 .intro h;split
  .omega
  .split
   .omega
   .exact absurd (show a=b by grind) h
def Cy(E:j0)(X:Rat)(Y:j1)(x:Rat)(k:Int)(H W:Nat)(Inv:Nat->Rat->VS->Prop)(P:SI E x k H W Inv)(hk:k<=256)(hE1:2<=E.length)(hE5:E.length<=5)(hx:Fit 1024 x)(h0:Inv 64 X (Y.map fun y=>(y,y)))(hH:1<=H:=by omega)(hW:1<=W:=by omega)(hHW:5*(H+W+1)<=4294967296:=by omega)(hyl:Y.length<1099511627776:=by omega):aK prog 234 [(fT E X Y:aF),(qT x:aF),(.one (.int .i64 k):aF)] (bZ4 (fe E x k 64 X (Y.map fun y=>(y,y)))):=by
 refine dQ (args:=[.v (some 5),.v (some 3),.v none]) (ins:=[.v (fT E X Y),.v (qT x),.v (.one (.int .i64 k))]) (hints:=(look [(1,⟨[11],[(7,118)],[],[(10,[])]⟩)])) fo aT func234 ⟨rfl,rfl,rfl,trivial⟩ ?_;rw[an3];dsimp only[List.map,In.env,aP,aQ];apply vn (aZ vv (aX _));refine bC {i:Nat // i<=Y.length} (fun g=>[.one (.int .i64 g.1),.rows (vS ((Y.take g.1).map fun y=>(y,y)))]) (fun g=>Y.length-g.1) ⟨0,cG _⟩ aR.rfl (fun _=>rfl) ?_;rintro⟨i,hi⟩;dsimp only[aP,aQ]at hi|-;refine uS az ?_ ?_<;>intro h3
 .obtain⟨y,hy⟩:∃y,Y[i]?=some y:=⟨_,bU O⟩
  apply vn (aY vv hy (bV i));apply vn (ay mq dO bY (.inl rfl));apply aA (ba9 y);apply bh (us:=[cM y y]);refine su (ts:=vS ((Y.take i).map fun y=>(y,y))) (us:=[cM y y]) (vs:=vS ((Y.take (i+1)).map fun y=>(y,y))) rfl rfl (by rw[nm,hy];simp) iF (by simp[maxLen];omega) ?_;apply vn aC;dsimp only[aP,aQ];exact aa rfl ⟨⟨i+1,O⟩,aR.rfl,by show Y.length-(i+1)<Y.length-i;omega⟩
 obtain rfl:i=Y.length:=O
 rw[eW];obtain⟨res,hres⟩:∃res,fe E x k 64 X (Y.map fun y=>(y,y))=res:=⟨_,rfl⟩
 rw[hres];refine bC {g:Nat×Rat×VS // g.1<=64/\Inv g.1 g.2.1 g.2.2/\fe E x k g.1 g.2.1 g.2.2=res} (fun g=>(.one (.int .i64 (64-(g.1.1:Int))):aF)::.rows (vS g.1.2.2)::(qC g.1.2.1).map .one) (fun g=>g.1.1) ⟨(64,X,Y.map fun y=>(y,y)),ah _,h0,hres⟩ aR.rfl (fun _=>rfl) ?_;rintro⟨⟨f,c,v⟩,hf,hI,hr⟩;dsimp only[aP,aQ,List.map]at hf hI hr|-;obtain⟨hcf,hvl,hvf⟩:=P.Dv f c v hI;apply aA (ma c x 1024 1024 hcf hx);apply vn jA;refine vs _ rfl (fun hne=>?_) (fun heq=>?_)
 .have hcx:c≠x:=cl3.1 hne;have HO:=P.hop f c v hI hcx;apply vn az;dsimp only[aP,aQ];rcases iI f with hf0 | hf0
  .rw[show res=none by rw[<-hr,hf0];exact uI hcx,show decide ((64:Int)-(f:Int)<64)=false from ej O];exact vcp (ll 5) rfl
  obtain⟨g,hg⟩:∃g,f=g+1:=⟨f-1,O⟩
  rw[hg]at hr;rw[show decide ((64:Int)-(f:Int)<64)=true from gJ O];apply aA (nP 5);apply aA HO.hat;dsimp only[aP,aQ];have hre:=HO.hre;have hhop:xm E x k c=none->res=none:=fun e=>by rw[<-hr];exact qD _ hcx e
  unfold oM at hre;obtain⟨rv,hv⟩:∃rv,bp (aV E c) (E.length-1) (aG E c)=rv:=⟨_,rfl⟩
  rw[hv]at hre;rcases rv with _ | ⟨aB,st⟩
  .rw[hhop (yi hv)];exact vcp hre rfl
  have hrf:=HO.rf aB st hv;have htf:=HO.tf aB st hv;apply aA hre;apply aA (Ag 1);apply aA (cr aB (mkRat 1 (2^1)) 2097152 257 hrf (gu O));rw[show aB*mkRat 1 (2^1)=ao aB from rfl];have hhf:=BU hrf;apply aA (Jm (ao aB));apply aA (Rp x c 1024 1024 hx hcf);have hxc:=hx.sub hcf;apply bh (us:=rQ [ao aB,x-c])
  apply aA (bx1 [ao aB,x-c] 2097409 (fun y hy=>by
   simp only[ee,jm,jr]at hy;rcases hy with rfl | rfl
   .exact hhf
   .exact hxc.mono dO) O O bY) rfl
  have hmf:Fit 2097409 (mD [ao aB,x-c] 2):=zb (fun y hy=>by
   simp only[ee,jm,jr]at hy;rcases hy with rfl | rfl
   .exact hhf
   .exact hxc.mono dO) 2 bY
  apply bh (us:=rQ [-(ao aB),mD [ao aB,x-c] 2]);dsimp only[aP,aQ]
  apply aA (aQ1 [-(ao aB),mD [ao aB,x-c] 2] 2097409 (fun y hy=>by
   simp only[ee,jm,jr]at hy;rcases hy with rfl | rfl
   .exact hhf.neg
   .exact hmf) O O bY) rfl
  rw[show lA [-(ao aB),mD [ao aB,x-c] 2] [-(ao aB),mD [ao aB,x-c] 2].length=ei aB x c from rfl];dsimp only[aP,aQ];have hmx:=HO.mx aB st hv;unfold WQ at hmx;have hent:=HO.ent aB st;obtain⟨no,hn⟩:∃no,ew E c aB st (ei aB x c) (E.length-1-1) k=no:=⟨_,rfl⟩
  rw[hn]at hmx;rcases no with _ | N<;>dsimp only at hmx
  .rw[hhop (Hb hv hn)];exact vcp hmx rfl
  have hent:=hent N hv hn;have hsm:=CN hv hn;rw[hg]at hI;have hnx:=P.next g c v (ei aB x c) (DC E c aB st (ei aB x c) k N) hI hcx hsm
  have hrs:fe E x k g (c+ei aB x c) (nA (E.length-1) k (DC E c aB st (ei aB x c) k N) v)=res:=by
   rw[<-hr];exact(qL g hcx hsm).symm
  obtain⟨M,hM⟩:∃M,DC E c aB st (ei aB x c) k N=M:=⟨_,rfl⟩
  obtain⟨m,hm⟩:∃m,E.length-1=m:=⟨_,rfl⟩
  apply aA hmx;rw[show an6 (aV E c) (E.length-1) (aG E c) aB st (ei aB x c) k N (E.length-1)=(List.range m).map fun d=>[.slice 6 ((List.range m).map fun l=>cM (M d l).1 (M d l).2)] by rw[<-hM,<-hm];rfl];rw[hM]at hent hnx hrs;rw[hm]at hent hnx hrs hvl;apply vn (aZ bB8 ((aX _).trans pT));refine bC {d:Nat // d<=m} (fun g=>[.one (.int .i64 g.1),.rows (vS ((List.range g.1).map (ya m k M v)))]) (fun g=>m-g.1) ⟨0,cG _⟩ aR.rfl (fun _=>rfl) ?_;rintro⟨d,hd⟩;dsimp only[aP,aQ]at hd|-;refine uS az ?_ ?_<;>intro h31
  .have hdm:d<m:=O
   refine vn (aY bB8 (jd hdm) (bV d)) rfl ?_;apply vn (bI cj1);apply vn (aZ gV ((aX _).trans pT));dsimp only[aP,aQ];have hdf:=fun l hl=>tL (M:=M d) (v:=fun l=>v.getD l (0,0)) (m:=m) (W:=W) hH (fun l hl=>hent d hdm l hl) (fun l hl=>hvf _ (cj (cY (v:=v)))) l hl;refine bC {l:Nat // l<=m} (fun g=>(.one (.int .i64 g.1):aF)::(cM (dR (M d) (fun l=>v.getD l (0,0)) g.1).1 (dR (M d) (fun l=>v.getD l (0,0)) g.1).2).map .one) (fun g=>m-g.1) ⟨0,cG _⟩ ⟨aF.Sub.same,HU⟩ (fun _=>rfl) ?_;rintro⟨l,hl⟩;dsimp only[aP,aQ,List.map]at hl|-;refine uS az ?_ ?_<;>intro h37
   .have hlm:l<m:=O
    refine vn (aY gV (jd hlm) (bV l)) rfl ?_;apply vn (ay kK dO bY (.inl rfl));dsimp only[aP,aQ];have hvx:=cY (v:=v) (l:=l);refine qP rfl rfl O (by rw[aX];omega) ?_;refine ar6 (m:=l) (t:=kP (v.getD l (0,0)).1 (v.getD l (0,0)).2) rfl rfl O O hvx (.inl rfl) rfl ?_;dsimp only[aP,aQ,SG,List.drop,List.take];obtain⟨e1,e2⟩:=hent d hdm l hlm;obtain⟨w1,w2⟩:=hvf _ (cj hvx);apply aA (Cz (M d l).1 (M d l).2 (v.getD l (0,0)).1 (v.getD l (0,0)).2 H W e1 e2 w1 w2 hH);dsimp only[aP,aQ];obtain⟨p1,p2⟩:=Gl hH e1 e2 w1 w2;obtain⟨d1,d2⟩:=hdf l O;have hlx:l*(H+W+1)+1<=4*(H+W+1)+1:=nZ (cg _ O);apply aA (wS _ _ _ _ (l*(H+W+1)+1) (H+W) d1 d2 p1 p2);apply vn aC;dsimp only[aP,aQ];exact aa rfl ⟨⟨l+1,O⟩,aR.rfl,by show m-(l+1)<m-l;omega⟩
   obtain rfl:l=m:=O
   obtain⟨d1,d2⟩:=hdf l (ah _);have hlx:l*(H+W+1)+1<=4*(H+W+1)+1:=nZ (cg _ O);apply aA (PX _ _ k (l*(H+W+1)+1) hk d1 d2);apply bh (us:=[cM (ya l k M v d).1 (ya l k M v d).2]);refine su (ts:=vS ((List.range d).map (ya l k M v))) (us:=[cM (ya l k M v d).1 (ya l k M v d).2]) (vs:=vS ((List.range (d+1)).map (ya l k M v))) rfl rfl (by rw[ml];simp) iF (by simp[maxLen];omega) ?_;apply vn aC;dsimp only[aP,aQ];exact aa rfl ⟨⟨d+1,O⟩,aR.rfl,by show l-(d+1)<l-d;omega⟩
  obtain rfl:d=m:=O
  apply aA (lU c (ei aB x c) 1024 2097152 hcf htf);apply vn aC
  exact aa rfl ⟨⟨(g,c+ei aB x c,nA d k M v),by dsimp only;omega,hnx,hrs⟩,aR.of_eq (by
   dsimp only;rw[show(64:Int)-(f:Int)+1=64-(g:Int) by omega];rfl),by show g<f;omega⟩
 have hcx:c=x:=Classical.byContradiction fun h=>heq (cl3.2 h)
 rw[show res=some v by rw[<-hr,hcx];exact mi f];exact aN
open Go Go.Proofs Go.RowKit Tryz Ord
attribute [local go_sem] Oper.semAt_some
def bN6:Tr:=eO 234 [G5 0,G3 1,W 2 0] [none] [4,5,6] [42,39,3] 118 true (.fail 4)
def Me:aO prog f233 cT [.ref 5,.ref 3,.ref 1,.ref 1]=bN6:=aT
def xr:Tr:=.retr [] 5
def xt:Tr:=.need (.strow 3 1 (.k (.int .i64 (0))) 0 [.u 4 0]) (.store 118 (.tmp 3) (.tmp 7)) 0 false xr
def xl:Tr:=.need (.call 234 [.agg [U 0 0,U 0 1,U 0 2,U 0 3,U 0 4],.agg [U 1 0,U 1 1,U 1 2],W 2 0] [none]) (D5 234 #[.tmp 4,.tmp 5,.tmp 6] #[42,39,3]) 118 true xt
def Am:TC prog f233 (fun _=>none) [.ref 5,.ref 3,.ref 1] 118 1=xl:=aT
def bX4:Tr:=eO 21 [G5 0] [none] [8] [42] 55 true (oK 3 55 9 (aJ 4 0 (Hs 2) (eO 160 [G5 0,G3 1,W 2 0] [none,none] [11,12,13] [42,39,3] 130 true (CH 5 6))))
def Tb:aO prog f72 cT [.v (some 5),.v (some 3),.v none]=bX4:=aT
def AZ(e:j0)(c:Rat)(y:j1)(x:Rat)(k:Int)(hval:aK prog 234 [fT e c y,qT x,.one (.int .i64 k)] (.pan (zI 5))):aK prog 233 [(.one (.aW (fC e c y)):aF),(.one (.aW (qC x)):aF),(.one (.aW ([.int .i64 k])):aF),(.one (.aW ([.exact (.slice none 0 0)])):aF)] (.pan (zI 5)):=by
 refine dvr (ins:=[.ref (fC e c y),.ref (qC x),.ref ([.int .i64 k]),.ref ([.exact (.slice none 0 0)])]) func233 Me ?_;exact vcp hval rfl
def EO(e:j0)(c:Rat)(y:j1)(x:Rat)(k:Int)(R:VS)(hval:aK prog 234 [fT e c y,qT x,.one (.int .i64 k)] (.ret [.one (.slice 6 (vS R))])):rj prog 233 118 [(.one (.aW (fC e c y)):aF),(.one (.aW (qC x)):aF),(.one (.aW ([.int .i64 k])):aF)] ([.exact (.slice none 0 0)]) [] ([.slice 6 (vS R)]):=by
 refine JV (a1:=[.ref 5,.ref 3,.ref 1]) (i1:=[.ref (fC e c y),.ref (qC x),.ref ([.int .i64 k])]) (n:=1) (hints:=(fun _=>none)) fo func233 ⟨rfl,rfl,rfl,trivial⟩ rfl rfl ?_;rw[Am];dsimp only[List.map,In.env,aP,aQ];apply aA hval;refine BE (ts:=[[.exact (.slice none 0 0)]]) (us:=[[.slice 6 (vS R)]]) rfl rfl O (cells:=[.exact (.slice none 0 0)]) rfl rfl ?_;dsimp only[aP,aQ];exact yC rfl rfl
set_option maxRecDepth 100000 in
def CO(M:j2)(w:World)(hM:cX M w)(e:j0)(c:Rat)(y:j1)(x:Rat)(k er:Int)(cs':List aE)
  (hcl:(cs'=[.exact (.slice none 0 0)]/\aK prog 233 [.one (.aW (fC e c y)),.one (.aW (qC x)),.one (.aW [.int .i64 k]),.one (.aW [.exact (.slice none 0 0)])] (.pan (zI er)))\/(er=0/\rj prog 233 118 [.one (.aW (fC e c y)),.one (.aW (qC x)),.one (.aW [.int .i64 k])] [.exact (.slice none 0 0)] [] cs')) (hc1:cs'.length=1)
  (u0 u1 u2 u3 u4 r0 r1 r2:Value) (hf:ai M w (fC e c y) [u0,u1,u2,u3,u4]) (hr:ai M w (qC x) [r0,r1,r2]) :
  Calls prog 160 #[.agg #[u0,u1,u2,u3,u4],.agg #[r0,r1,r2],.int .i64 k] w fun e w'=>Below w.heap.size w w'/\∃v,e=.returned (.tuple #[v,.int .i64 er])/\ai M w' cs' [v]:=by
 have hmf:=AC;obtain⟨n0,hn0⟩:∃n0,w.heap.size=n0:=⟨_,rfl⟩
 obtain⟨o0,o1,o2,o3,o4⟩:u0.oneCell'=true/\u1.oneCell'=true/\u2.oneCell'=true/\u3.oneCell'=true/\u4.oneCell'=true:=by have:=hf.one;exact⟨this _ bY,this _ bY,this _ bY,this _ bY,this _ bY⟩
 obtain⟨p0,p1,p2⟩:r0.oneCell'=true/\r1.oneCell'=true/\r2.oneCell'=true:=by have:=hr.one;exact⟨this _ bY,this _ bY,this _ bY⟩
 refine jn func160 rfl ?_;simp only[ntmps160,ed,bm,ck,Nat.reduceAdd,Nat.reduceSub,fX,fW,fS,fU,List.nil_append,List.cons_append];obtain⟨Wa,hWa⟩:∃Wa,((((w.alloc (.cells #[u0,u1,u2,u3,u4] 42)).alloc (.cells #[r0,r1,r2] 39)).alloc (.cells #[.int .i64 k] 3)).alloc (.cells #[.slice none 0 0] 118))=Wa:=⟨_,rfl⟩
 have hsa:Wa.heap.size=n0+4:=by rw[<-hWa];simp[hn0]
 have hBa:Below w.heap.size w Wa:=by
  rw[<-hWa];exact((((cz _ w).alloc O _).alloc bY _).alloc iF _).alloc iF _
 have hF:Wa.heap[n0]?=some (.cells #[u0,u1,u2,u3,u4] 42 (0,0)):=by rw[<-hWa,bJ _ _ _ iF,bJ _ _ _ iF,bJ _ _ _ iF,<-hn0];exact bc w _
 have hR:Wa.heap[n0+1]?=some (.cells #[r0,r1,r2] 39 (0,0)):=by
  rw[<-hWa,bJ _ _ _ iF,bJ _ _ _ iF];have:=bc (w.alloc (.cells #[u0,u1,u2,u3,u4] 42)) (.cells #[r0,r1,r2] 39)
  rwa[br,hn0]at this
 have hK:Wa.heap[n0+2]?=some (.cells #[.int .i64 k] 3 (0,0)):=by
  rw[<-hWa,bJ _ _ _ iF];have:=bc ((w.alloc (.cells #[u0,u1,u2,u3,u4] 42)).alloc (.cells #[r0,r1,r2] 39)) (.cells #[.int .i64 k] 3)
  rwa[br,br,hn0]at this
 have hA:Wa.heap[n0+3]?=some (.cells #[.slice none 0 0] 118 (0,0)):=by
  rw[<-hWa];have:=bc (((w.alloc (.cells #[u0,u1,u2,u3,u4] 42)).alloc (.cells #[r0,r1,r2] 39)).alloc (.cells #[.int .i64 k] 3)) (.cells #[.slice none 0 0] 118)
  rwa[br,br,br,hn0]at this
 have hMA:¬M (n0+3):=fun h=>by have:=hM.1 _ h;omega
 have hk2:bq M w (fun b=>M b\/b=n0+3) Wa:=fun b o hb ho _=>by
  have hl:=(cf.1 ho).1;exact⟨fun h=>h.elim hb O,(hBa.block b hl).trans ho⟩
 have hM2:cX (fun b=>M b\/b=n0+3) Wa:=⟨fun b hb=>by
  rcases hb with h | h
  .have:=hM.1 b h;omega
  .omega,hM.2.jc hk2⟩
 have hnm:∀b,n0<=b->b<n0+3->¬(M b\/b=n0+3):=fun b h1 h2 h=>h.elim (fun h=>by have:=hM.1 b h;omega) O
 have hca:=yR 233 (bM aT) M Wa (n0+3) 118 #[.slice none 0 0] [.exact (.slice none 0 0)] cs' [.one (.aW (fC e c y)),.one (.aW (qC x)),.one (.aW [.int .i64 k])] [.pointer (some ⟨n0,0,none⟩),.pointer (some ⟨n0+1,0,none⟩),.pointer (some ⟨n0+1+1,0,none⟩)] er hM2 hMA hA
  ⟨⟨n0,0,_,_,_,rfl,hnm _ O O,hF,hf.mono hk2⟩,⟨n0+1,0,_,_,_,rfl,hnm _ O O,hR,hr.mono hk2⟩,⟨n0+2,0,_,_,_,rfl,hnm _ O O,hK,⟨⟨rfl,rfl⟩,trivial⟩⟩,trivial⟩ (fun _ _=>⟨⟨rfl,rfl⟩,trivial⟩) hcl
 simp only[aP,aQ]at hca
 go_wp2_with (go_at_call 121;refine hca.mono ?_)
 rintro e w3 ⟨rfl,hg,us,hus,hrus⟩
 obtain⟨v,rfl⟩:∃v,us=#[v]:=by
  have:=hrus.length;rw[hc1]at this
  match us,this with
  | ⟨[v]⟩,_=>exact⟨v,rfl⟩
 have cv:w3.cell? ⟨n0+3,0,none⟩=some v:=aH hus rfl;have hv1:v.oneCell'=true:=hrus.one v bY;have hfr:=bR1 hus 0
 go_wp2
 have st1:Sem.run prog (storeCells ⟨n0+1+1+1,0,none⟩ [v]) w3=.ok () (w3.setRow (n0+3) #[v]):=by
  have:=nO (P:=prog) (j:=0) hus bY hv1
  simpa[storeCells,Addr.add]using this
 rw[st1];have hs9:(w3.setRow (n0+3) #[v]).heap[n0+3]?=some (.cells #[v] 118 (0,0)):=dP _ _ _ _ _ _ hus
 have hbw:Below w.heap.size w w3:=⟨by rw[hg.os,hBa.os],by rw[hg.tape,hBa.tape],by rw[hg.output,hBa.output],by have:=hg.size;omega,fun j hj=>by
  rw[hg.block j O (fun e=>by simp only[aM]at e;omega),hBa.block j hj]⟩
 have hb9:Below w.heap.size w (w3.setRow (n0+3) #[v]):=below_setRow hbw _
 have hk9:bq (fun b=>M b\/b=n0+3) w3 M (w3.setRow (n0+3) #[v]):=fun b o hb ho _=>
  ⟨fun h=>hb (.inl h),by rw[du _ _ _ _ (fun e=>hb (.inr e))];exact ho⟩
 have hy9:=hrus.mono hk9;generalize w3.setRow (n0+3) #[v]=W9 at *;have t0:W9.cell? ⟨n0+3,0,none⟩=some v:=aH hs9 rfl;clear st1
 go_wp2
 simp[bodyPost,results,show f160.results=#[.cell 6 118,.tmp 7]from rfl,go_sem,t0];exact⟨hb9,hy9⟩
def evV(v:Option VS):VS×Int:=match v with | some v=>(v,0) | none=>([],5)
def UC(e:j0)(c:Rat)(y:j1)(x:Rat)(k:Int)(v:Option VS)(hval:aK prog 234 [fT e c y,qT x,.one (.int .i64 k)] (bZ4 v)) :
  aK prog 160 [fT e c y,qT x,.one (.int .i64 k)] (.ret [.one (.slice 6 (vS (evV v).1)),.one (.int .i64 (evV v).2)]):=by
 refine⟨bM aT,fun M w vs hM hv=>?_⟩
 match vs,hv with
 | [a,xv,kv],hv=>
   obtain⟨us,rfl,hus⟩:=hv.1;obtain⟨u0,u1,u2,u3,u4,rfl⟩:=aM5 hus;obtain⟨xs,rfl,hxs⟩:=hv.2.1;obtain⟨r0,r1,r2,rfl⟩:=aI9 hxs;have hk:kv=.int .i64 k:=hv.2.2.1.1;subst hk;cases v with
   | some R=>
     refine(CO M w hM e c y x k 0 [.slice 6 (vS R)] (.inr ⟨rfl,EO e c y x k R hval⟩) rfl u0 u1 u2 u3 u4 r0 r1 r2 hus hxs).mono ?_;rintro r w' ⟨hb,v,rfl,hr⟩;exact⟨hb,[v,.int .i64 0],rfl,hr.1,⟨rfl,rfl⟩,trivial⟩
   | none=>
     refine(CO M w hM e c y x k 5 [.exact (.slice none 0 0)] (.inl ⟨rfl,AZ e c y x k hval⟩) rfl u0 u1 u2 u3 u4 r0 r1 r2 hus hxs).mono ?_;rintro r w' ⟨hb,v,rfl,hr⟩;exact⟨hb,[v,.int .i64 5],rfl,aE.Sub.nil.rep hr.1,⟨rfl,rfl⟩,trivial⟩
 | [],hv=>exact hv.elim
 | [_],hv=>exact hv.2.elim
 | [_,_],hv=>exact hv.2.2.elim
 | _::_::_::_::_,hv=>exact hv.2.2.2.elim
def MB(e:j0)(c:Rat)(y:j1)(x:Rat)(k:Int)(v:Option VS)(hck:aK prog 21 [fT e c y] (.ret [.one (.int .i64 0)]))(hval:aK prog 234 [fT e c y,qT x,.one (.int .i64 k)] (bZ4 v)):aK prog 72 [(fT e c y:aF),(qT x:aF),(.one (.int .i64 k):aF)] (.ret [.one (.slice 6 (vS (evV v).1)),.one (.int .i64 (evV v).2)]):=by
 refine dB func72 Tb ?_;apply aA hck;refine uS jA ?_ ?_<;>intro h2
 .exact absurd rfl h2
 apply aA (UC e c y x k v hval);exact aN
end Go.Sy
namespace Go.Sy
open Go Go.Proofs Tryz Ord
structure cI4(E:j0)(ER:List (List RQ))(x:Rat)(k:Int)(H:Nat)(c:RQ):Prop where
 re:aK prog 43 [.one (eR ER),oU c] (.ret [oU (mM E c.q).1,.one (.int .i64 (mM E c.q).2)])
 st:∀aB st,bp (aV E c.q) (E.length-1) (aG E c.q)=some (aB,st)->0<st/\Fit 2097152 aB/\Fit 2097152 (ei aB x c.q)
 mx:∀aB st,bp (aV E c.q) (E.length-1) (aG E c.q)=some (aB,st)->∀u:RQ,u.q=ei aB x c.q->aK prog 61 [.one (eR ER),oU c,oU u,.one (.int .i64 k)] (.ret [.one (.slice 1 (bA9 E c.q aB st (ei aB x c.q) k).1),.one (.int .i64 (bA9 E c.q aB st (ei aB x c.q) k).2)])
 ent:∀aB st N,bp (aV E c.q) (E.length-1) (aG E c.q)=some (aB,st)->ew E c.q aB st (ei aB x c.q) (E.length-1-1) k=some N->∀d,d<E.length-1->∀l,l<E.length-1 ->
  Fit H (DC E c.q aB st (ei aB x c.q) k N d l).1/\Fit H (DC E c.q aB st (ei aB x c.q) k N d l).2
structure cN9(E:j0)(ER:List (List RQ))(x:Rat)(k:Int)(H W:Nat)(Inv:Nat->RQ->VS->Prop):Prop where
 Dv:∀f c v,Inv f c v->Fit 1024 c.q/\v.length=E.length-1/\∀p∈v,Fit W p.1/\Fit W p.2
 hop:∀f c v,Inv f c v->c.q≠x->cI4 E ER x k H c
 next:∀f c v t M,Inv (f+1) c v->c.q≠x->xm E x k c.q=some (t,M)->Inv f (.of (c.q+t)) (nA (E.length-1) k M v)
def bF6:Tr:=eO 141 [G4 1,.agg [U 0 1,U 0 2,U 0 3,U 0 4]] [some 4] [21,23] [49,49] 49 false (Dc 50 2 4 49 (eO 104 [G4 6,G4 7] [some 4] [24,25] [49,49] 49 false (ot 60 8 4 26 49 (eO 47 [G4 9,G4 2] [none] [27,28] [49,49] 3 false (ju 10 0 0 3 29 (cC 11))))))
def bV8:Tr:=eO 43 [W 0 0,.agg [U 0 1,U 0 2,U 0 3,U 0 4]] [some 4,none] [9,11] [44,49] 87 false (ju 3 0 24 3 15 (aJ 4 0 (gd 3 0 0 3 18 (aJ 5 0 (.ret [tF true]) bF6)) (hx137Q )))
def Jw:aO prog f75 cT [.v (some 6),.v (some 4)]=bV8:=aT
def bk1(q:Rat):Nat:=(Bu (q.num.natAbs:Int)).length+(Bu (q.den:Int)).length
def aT6{T ty:TypeId}{x:n8}{l:k8}(hu:prog.underlying T=some .string):aq prog (.call ⟨.builtin .len,#[x],#[T]⟩) ty [bS l] (.one (.int .i64 l.length)):=
 as2 hu (by show l.toArray.size=_;simp)
def bU2(a:RQ)(H:Nat)(hf:Fit H a.q)(hH:H<=1073741824:=by omega):aK prog 159 [(oU a:aF)] (.ret [.one (.int .i64 (bk1 a.q))]):=by
 refine dB func159 bJ7 ?_;have h1:=Ua (z:=(a.q.num.natAbs:Int)) (H:=H) (by rw[cH];exact hf.1);have h2:=Ua (z:=(a.q.den:Int)) (H:=H) (by rw[cH];exact hf.2);apply aA (YQ a.q.num);apply aA (Vb (a.q.num.natAbs:Int) H (by rw[cH];exact hf.1)) rfl;apply vn (aT6 un9);apply aA (nQ a);apply aA (Vb (a.q.den:Int) H (by rw[cH];exact hf.2)) rfl;apply vn (aT6 un9);apply vn aC;dsimp only[aP,aQ];rw[show((Bu (a.q.num.natAbs:Int)).length:Int)+((Bu (a.q.den:Int)).length:Int)=(bk1 a.q:Int) by unfold bk1;omega];exact aN
def SX(x c:RQ):Bool:=if(bk1 x.q:Int)<=6 then decide (mF (x.q-c.q).abs ((1:Int):Rat)<=0)else false
def aa4(x c:RQ)(hx:Fit 1024 x.q)(hc:Fit 1024 c.q):aK prog 70 [(oU x:aF),(oU c:aF)] (.ret [.one (.bool (SX x c))]):=by
 refine dB func70 aY3 ?_;apply aA (bU2 x 1024 hx);refine uS iQ ?_ ?_<;>intro h2
 .apply aA (aH8 x c 1024 1024 hx hc);apply aA (BF (.of (x.q-c.q)));apply aA (nN 1);apply aA (PQ (.of (x.q-c.q).abs) (.of ((1:Int):Rat)) 4096 64 (lQ ((hx.sub hc).mono dO)) (Fit.int O O));apply vn iQ;dsimp only[aP,aQ];rw[show SX x c=decide (mF (x.q-c.q).abs ((1:Int):Rat)<=0)from aI h2];exact aN
 rw[show SX x c=false from aD h2];exact aN
def Ub(E:j0)(ER:List (List RQ))(X:Rat)(XR:RQ)(YR:List RQ)(x:RQ)(h:SmallX E ER X XR)(hr:jO E X)(hv:bp (aV E X) (E.length-1) (aG E X)=none):aK prog 75 [(fR ER XR YR:aF),(oU x:aF)] (.ret [.one (.bool true)]):=by
 refine dB func75 Jw ?_;have hre:=zo h hr;rw[NK hv]at hre;apply aA hre;apply vn iQ;refine ut ?_;apply vn bA;refine ut ?_;exact aN
def TQ(E:j0)(ER:List (List RQ))(X:Rat)(XR:RQ)(YR:List RQ)(x:RQ)(h:SmallX E ER X XR)(hr:jO E X)(aB:Rat)(st:Nat)(hv:bp (aV E X) (E.length-1) (aG E X)=some (aB,st))(hx:Fit 1024 x.q)(hf:Fit 2097152 aB)(hst:0<st:=by omega):aK prog 75 [(fR ER XR YR:aF),(oU x:aF)] (.ret [.one (.bool (decide (((st:Nat):Int)<=24)&&decide (mF ((x.q-X)*((2:Int):Rat)).abs aB<=0)))]):=by
 refine dB func75 Jw ?_;have hre:=zo h hr;rw[Np hv]at hre;have hXf:Fit 1024 XR.q:=by rw[h.x];exact h.xf.mono O
 apply aA hre;dsimp only;refine uS iQ ?_ ?_<;>intro h2
 .refine uS bA ?_ ?_<;>intro h4
  .exact absurd h4 O
  apply aA (aH8 x XR 1024 1024 hx hXf);apply aA (nN 2);apply aA (ud (.of (x.q-XR.q)) (.of ((2:Int):Rat)) 4096 64 ((hx.sub hXf).mono dO) (Fit.int O O));apply aA (BF (.of ((x.q-XR.q)*((2:Int):Rat))));apply aA (PQ (.of ((x.q-XR.q)*((2:Int):Rat)).abs) (.of aB) 8192 2097152 (lQ ((((hx.sub hXf).mono (C:=4096) dO).mul (Fit.int (B:=64) O O)).mono O)) hf);dsimp only[aP,aQ];apply vn iQ;dsimp only[aP,aQ];rw[gJ h2,Bool.true_and,<-h.x];exact aN
 rw[ej h2,Bool.false_and];exact aN
def KB(a b:Rat):mD [a,b] 2=if b<a then b else a:=by simp[mD]
def AV(a b:Rat):lA [a,b] 2=if a<b then b else a:=by simp[lA]
def mN(q:Rat):ao q*2=q:=by
 unfold ao;rw[show mkRat 1 (2^1)=1/2 by decide +kernel];grind
def aG1{t a:Rat}(h:t.abs<=a):-a<=t/\t<=a:=by
 unfold Rat.abs at h;split at h<;>constructor<;>grind
def OC{aB x c:Rat}(h:(x-c).abs*2<=aB):ei aB x c=x-c:=by
 have e:=mN aB;unfold ei;rw[KB,AV];generalize ao aB=a at *;generalize x-c=d at *;obtain⟨h1,h2⟩:=aG1 (t:=d) (a:=a) e9;split
 .split<;>grind
 .split<;>grind
def kD.sub{x c:Rat}(hx:kD x)(hc:kD c):vJ (x-c):=by
 have h:=(hx.bd.mono (E:=x.den*c.den) (nX _ _) (ah _)).sub (da (lY x) (lY c)) (hc.bd.mono (rV _ _) (ah _));refine⟨an (uZ (dN x.den_pos c.den_pos) h.1) (an (dE hx.d hc.d) dO),an h.2 (cg _ O)⟩
def Kt{E:j0}{x c t:Rat}{k:Int}{M:Nat->Nat->Rat×Rat}(h:xm E x k c=some (t,M)):∃aB st N,bp (aV E c) (E.length-1) (aG E c)=some (aB,st)/\ew E c aB st (ei aB x c) (E.length-1-1) k=some N/\t=ei aB x c/\M=DC E c aB st (ei aB x c) k N:=by
 obtain⟨rv,hv⟩:∃rv,bp (aV E c) (E.length-1) (aG E c)=rv:=⟨_,rfl⟩
 rcases rv with _ | ⟨aB,st⟩
 .rw[yi hv]at h;cases h
 obtain⟨no,hn⟩:∃no,ew E c aB st (ei aB x c) (E.length-1-1) k=no:=⟨_,rfl⟩
 rcases no with _ | N
 .rw[Hb hv hn]at h;cases h
 rw[CN hv hn]at h;obtain⟨h1,h2⟩:=dH (ke h);exact⟨aB,st,N,hv,hn,h1.symm,h2.symm⟩
def Lh{q:Rat}{H k:Nat}(h:Fit H q)(hk:k<=256:=by omega):Fit (H+257+257) (oJ q k):=(Fq (h.mul (qB hk))).mul (gu hk)
def TE{q:Rat}{H k:Nat}(h:Fit H q)(hk:k<=256:=by omega):Fit (H+257+257) (ZA q k):=by
 unfold ZA;rw[BD];exact(Fq (h.mul (qB hk)).neg).neg.mul (gu hk)
def aL1{m H W d:Nat}{k:Int}{M:Nat->Nat->Rat×Rat}{v:VS}(hk:k<=256)(hH:1<=H)(hM:∀l,l<m->Fit H (M d l).1/\Fit H (M d l).2)(hvl:v.length=m)(hv:∀p∈v,Fit W p.1/\Fit W p.2):Fit (m*(H+W+1)+1+257+257) (ya m k M v d).1/\Fit (m*(H+W+1)+1+257+257) (ya m k M v d).2:=by
 obtain⟨h1,h2⟩:=tL (M:=M d) (v:=fun l=>v.getD l (0,0)) (m:=m) (W:=W) hH hM (fun l hl=>hv _ (cj (cY))) m (ah _);exact⟨Lh h1,TE h2⟩
def TK{m K:Nat}(h:m<=4:=by omega)(hK:K<=12000514:=by omega):m*K+1+257+257<=50000000:=by
 have h1:=dE h hK;have h2:4*12000514=48002056:=dO
 rw[h2]at h1;generalize m*K=z at *;omega
def TY{E:j0}{x:Rat}{k:Int}{H W:Nat}{Inv:Nat->Rat->VS->Prop}(P:SI E x k H W Inv){w:VS}:∀f c v,Inv f c v->fe E x k f c v=some w->∃g c',Inv g c' w:=by
 intro f
 induction f with
 | zero=>
   intro c v hI h;by_cases hc:c=x
   .rw[hc,mi]at h;obtain rfl:=ke h;exact⟨_,_,hI⟩
   .rw[uI hc]at h;cases h
 | succ f ih=>
   intro c v hI h;by_cases hc:c=x
   .rw[hc,mi]at h;obtain rfl:=ke h;exact⟨_,_,hI⟩
   .cases hm:xm E x k c with
    | none=>rw[qD _ hc hm]at h;cases h
    | some z=>
      obtain⟨t,M⟩:=z;rw[qL f hc hm]at h;exact ih _ _ (P.next f c v t M hI hc hm) h
section
variable{E:j0}{ER:List (List RQ)}{X:Rat}{XR:RQ}
def cH8(E:j0)(X x:Rat)(v0:VS)(f:Nat)(c:Rat)(v:VS):Prop:=(f=64/\c=X/\v=v0)\/(f=63/\c=x/\v.length=E.length-1/\∀p∈v,Fit 50000000 p.1/\Fit 50000000 p.2)
structure ZL(E:j0)(X x:Rat)(v0:VS):Prop where
 hr:jO E X
 xb:kD x
 vl:v0.length=E.length-1
 vf:∀p∈v0,Fit 513 p.1/\Fit 513 p.2
 re:∀aB st,bp (aV E X) (E.length-1) (aG E X)=some (aB,st)->st<=24/\(x-X).abs*2<=aB
def ZL.step{x:Rat}{v0:VS}{k:Int}(h:SmallX E ER X XR)(N:ZL E X x v0)(hk:k<=256){aB:Rat}{st:Nat}(hv:bp (aV E X) (E.length-1) (aG E X)=some (aB,st)):ei aB x X=x-X/\oQ E X aB st (ei aB x X) k/\Fit 2097152 aB/\0<st:=by
 obtain⟨h1,h2⟩:=N.re aB st hv;have e:=OC h2;obtain⟨l2,l5,_,_⟩:=N.hr.facts;obtain⟨hh,hh62,hrho,_,hW⟩:=ef hv;have ht:vJ (x-X):=N.xb.sub h.xb;refine⟨e,by rw[e];exact YX N.hr hv ht h2 hk,by rw[hrho];exact(fI ht hh62 (n:=1) (d:=0) O O (ah _)).o1,O⟩
def ZL.way{x:Rat}{v0:VS}{k:Int}(h:SmallX E ER X XR)(N:ZL E X x v0)(hk:k<=256):SI E x k 12000000 50000000 (cH8 E X x v0):=by
 obtain⟨l2,l5,_,_⟩:=N.hr.facts;refine⟨fun f c v hI=>?_,fun f c v hI hcx=>?_,fun f c v t M hI hcx hm=>?_⟩
 .rcases hI with⟨rfl,rfl,rfl⟩ | ⟨rfl,rfl,hl,hf⟩
  .exact⟨h.xb.fit.mono O,N.vl,fun p hp=>⟨(N.vf p hp).1.mono O,(N.vf p hp).2.mono O⟩⟩
  .exact⟨N.xb.fit.mono O,hl,hf⟩
 .rcases hI with⟨rfl,rfl,rfl⟩ | ⟨rfl,rfl,hl,hf⟩
  .refine⟨BP h N.hr,uT h N.hr,fun aB st hv=>(N.step h hk hv).2.2.1,fun aB st hv=>?_,fun aB st hv=>?_,fun aB st n hv hn d hd l hl=>?_⟩
   .exact Po (h.at0 N.hr (N.step h hk hv).2.1)
   .exact(N.step h hk hv).2.1.tf.mono O
   .exact h.QT N.hr (N.step h hk hv).2.1 hn hd hl
  .exact absurd rfl hcx
 .rcases hI with⟨hf,rfl,rfl⟩ | ⟨_,rfl,hl,hf⟩
  .obtain⟨aB,st,n,hv,hn,rfl,rfl⟩:=Kt hm;obtain⟨e,S,_,_⟩:=N.step h hk hv;refine .inr ⟨O,by rw[e];grind,by rw[nA,aX,pT],fun p hp=>?_⟩;obtain⟨d,hd,rfl⟩:=jf.1 hp;obtain⟨f1,f2⟩:=aL1 (d:=d) (H:=12000000) (W:=513) (M:=DC E c aB st (ei aB x c) k n) hk O (fun l hl=>h.QT N.hr S hn (gO.1 hd) hl) N.vl N.vf;exact⟨f1.mono (TK),f2.mono (TK)⟩
  .exact absurd rfl hcx
end
end Go.Sy
