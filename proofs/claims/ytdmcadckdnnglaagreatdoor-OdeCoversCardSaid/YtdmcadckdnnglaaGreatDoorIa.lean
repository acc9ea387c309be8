/- Part. -/
import Derived.Test.YtdmcadckdnnglaaGreatDoorHe
set_option linter.all false
set_option maxHeartbeats 4000000
namespace Go.Sy
open Go Go.Proofs Tryz Ord
def bc0:Tr:=gb 0 4 4 0 40 22 24 (dB 7 3 39 26 (IJ 227 8 0 1 2 6 29 123 (Xt 9 30 (gU 6 112 5 10 28 31 118 (bD 4 1 3 24 (jV 0 12 11))))))
def at7:Tr:=dB 41 6 123 78 (dL 8 33 118 82 83 (Kd 8 33 6 123 84 (dV 67 [(G6 42),(G6 43)] [(some 6)] [81,85] [123,123] 123 true (dV 66 [(.agg [(U 34 0),(U 35 0),(U 36 0),(U 37 0),(U 38 0),(U 39 0)]),(G6 44)] [(some 6)] [80,86] [123,123] 123 true (bD 33 1 3 75 (.back 2 [lV 46 0,lV 45 0,lV 45 1,lV 45 2,lV 45 3,lV 45 4,lV 45 5]))))))
def aI0:Tr:=cU 33 32 0 3 75 74 0 (aH 40 0 (gb 31 0 33 0 118 73 75 at7) (dV 229 [(.agg [(U 34 0),(U 35 0),(U 36 0),(U 37 0),(U 38 0),(U 39 0)]),(W 2 0)] [(some 6)] [90,91] [123,3] 123 true (Xt 41 92 (gU 6 112 28 42 89 93 118 (bD 27 1 3 69 (jV 1 44 43))))))
def as7:Tr:=vA 1 (cU 27 26 0 3 69 68 0 (aH 29 0 (gb 25 0 27 0 109 67 69 (bm 30 118 71 (au 31 0 73 118 (.loop 2 [lK 0,lN,(.w (.one (.c (.k (.bool false))))),lN,lN,(.w (.one (.c (.k (.bool false))))),lN] aI0)))) (iQ 64 9 0 10 0 11 0 24 0 24 1 24 2 97 98 (bD 7 1 3 40 (.back 0 [lV 31 0,.row 28,lV 30 0,lV 30 1,lV 30 2])))))
def aI9:Tr:=uQ 167 1 1 1 1 2 9 10 0 11 0 57 58 (ID 18 0 1 2 20 40 56 59 (wO 235 3 21 3 60 40 39 (ID 19 0 1 2 22 40 55 61 (wO 208 3 23 3 62 40 39 (dV 147 [(.agg [(U 16 0),(U 16 1),(U 16 2),(U 16 3),(U 16 4),(U 16 5),(U 16 6),(U 16 7),(U 16 8)]),(G3 24),(W 2 0)] [none] [64,65,66] [185,39,3] 109 true (au 25 0 67 109 as7))))))
def an5:Tr:=iJ 7 0 64 3 42 (QN 14 43 (dV 100 [(W 0 0),(.agg [(U 9 0),(U 10 0),(U 11 0)])] [(some 5)] [46,47] [32,39] 171 true (dV 123 [(G5 15)] [(some 9)] [48] [171] 185 true (lX 202 1 3 3 39 (iQ 36 16 5 16 6 16 7 17 0 17 1 17 2 51 52 (jw 65 18 3 54 39 aI9))))))
def aT4:Tr:=cU 4 3 0 3 24 23 0 (aH 6 0 bc0 (.loop 0 [lK 0,.row 5,lV 0 1,lV 0 2,lV 0 3] (dV 38 [(.agg [(U 9 0),(U 10 0),(U 11 0)]),(G3 1)] [none] [36,37] [39,39] 3 true (lP 12 3 38 (aH 13 0 an5 (uw 6 8))))))
def bq9:Tr:=au 0 4 22 40 (vA 0 aT4)
def Vu:aM prog f234 (look [(1,⟨[11],[(7,118)],[],[(10,[])]⟩)]) [.v (some 5),.v (some 3),.v none]=bq9:=by kernel_rfl
def DA:ae aG.Sub [.one (.exact (.slice none 0 0)),.one (.bool false),.one (.exact (.slice none 0 0)),.one (.exact (.slice none 0 0)),.one (.bool false),.one (.exact (.slice none 0 0))] ((dG 0 0).map .one):=⟨db.1,db.2.1,db.2.2.1,db.1,db.2.1,db.2.2.1,trivial⟩
abbrev VS:=List (Rat×Rat)
abbrev vS(v:VS):List (List aE):=v.map fun p=>dG p.1 p.2
def cL(M v:Nat->Rat×Rat):Nat->Rat×Rat
 | 0=>(0,0)
 | l+1=>((cL M v l).1+kA (M l).1 (M l).2 (v l).1 (v l).2,(cL M v l).2+jx (M l).1 (M l).2 (v l).1 (v l).2)
def ux(m:Nat)(k:Int)(M:Nat->Nat->Rat×Rat)(v:VS)(d:Nat):Rat×Rat:=
 (ki (cL (M d) (fun l=>v.getD l (0,0)) m).1 k.toNat,SK (cL (M d) (fun l=>v.getD l (0,0)) m).2 k.toNat)
def jy(m:Nat)(k:Int)(M:Nat->Nat->Rat×Rat)(v:VS):VS:=(List.range m).map (ux m k M v)
def an(aB:Rat):Rat:=aB*mkRat 1 (2^1)
def dc(aB x c:Rat):Rat:=gZ [-(an aB),iG [an aB,x-c] 2] 2
def zp(E:List (List Rat))(c aB:Rat)(st:Nat)(t:Rat)(k:Int)(N:Nat):Nat->Nat->Rat×Rat:=fun d l=>
 (KY (aV E c) (E.length-1) (aF E c) aB st t k N d l,JS (aV E c) (E.length-1) (aF E c) aB st t k N d l)
def uF(E:List (List Rat))(x:Rat)(k:Int)(c:Rat):Option (Rat×(Nat->Nat->Rat×Rat)):=
 match ba (aV E c) (E.length-1) (aF E c)with
 | none=>none
 | some (aB,st)=>match dm E c aB st (dc aB x c) (E.length-1-1) k with
   | none=>none
   | some N=>some (dc aB x c,zp E c aB st (dc aB x c) k N)
def WD(E:List (List Rat))(x:Rat)(k:Int)(r:Rat->VS->Option VS)(c:Rat)(v:VS):Option VS:=
 if c=x then some v else(uF E x k c).elim none fun z=>r (c+z.1) (jy (E.length-1) k z.2 v)
def fh(E:List (List Rat))(x:Rat)(k:Int):Nat->Rat->VS->Option VS
 | 0=>fun c v=>if c=x then some v else none
 | f+1=>fun c v=>WD E x k (fh E x k f) c v
def qR{E:List (List Rat)}{x c:Rat}{k:Int}{v:VS}(h:c≠x):fh E x k 0 c v=none:=if_neg h
def qW{E:List (List Rat)}{x c:Rat}{k:Int}{v:VS}(f:Nat)(h:c≠x)(hn:uF E x k c=none):fh E x k f c v=none:=by
 cases f with
 | zero=>exact if_neg h
 | succ f=>show WD E x k (fh E x k f) c v=none;unfold WD;rw[if_neg h,hn];rfl
def qk{E:List (List Rat)}{x c t:Rat}{k:Int}{v:VS}{M:Nat->Nat->Rat×Rat}(f:Nat)(h:c≠x)(hn:uF E x k c=some (t,M)):fh E x k (f+1) c v=fh E x k f (c+t) (jy (E.length-1) k M v):=by
 show WD E x k (fh E x k f) c v=_;unfold WD;rw[if_neg h,hn];rfl
def qE{E:List (List Rat)}{x:Rat}{k:Int}{v:VS}(f:Nat):fh E x k f x v=some v:=by
 cases f with
 | zero=>exact if_pos rfl
 | succ f=>exact if_pos rfl
def Ei{E:List (List Rat)}{x c:Rat}{k:Int}(h:ba (aV E c) (E.length-1) (aF E c)=none):uF E x k c=none:=by unfold uF;rw[h]
def CQ{E:List (List Rat)}{x c aB:Rat}{st:Nat}{k:Int}(h:ba (aV E c) (E.length-1) (aF E c)=some (aB,st))(hn:dm E c aB st (dc aB x c) (E.length-1-1) k=none):uF E x k c=none:=by unfold uF;rw[h];dsimp only;rw[hn]
def Jj{E:List (List Rat)}{x c aB:Rat}{st N:Nat}{k:Int}(h:ba (aV E c) (E.length-1) (aF E c)=some (aB,st))(hn:dm E c aB st (dc aB x c) (E.length-1-1) k=some N):uF E x k c=some (dc aB x c,zp E c aB st (dc aB x c) k N):=by unfold uF;rw[h];dsimp only;rw[hn]
def bm2:Option VS->Out
 | some v=>.ret [.one (.slice 6 (vS v))]
 | none=>.pan (CD 5)
structure bC3(E:List (List Rat))(x:Rat)(k:Int)(H:Nat)(c:Rat):Prop where
 hat:aL prog 100 [.one (eQ E),qT c] (.ret [yZ (aV E c) (E.length-1) (aF E c)])
 hre:aL prog 123 [yZ (aV E c) (E.length-1) (aF E c)] (km E c)
 rf:∀aB st,ba (aV E c) (E.length-1) (aF E c)=some (aB,st)->Fit 2097152 aB
 mx:∀aB st,ba (aV E c) (E.length-1) (aF E c)=some (aB,st)->aL prog 147 [.agg (vb (aV E c) (E.length-1) (aF E c) aB (st:Nat)),qT (dc aB x c),.one (.int .i64 k)] (Qh (aV E c) (E.length-1) (aF E c) aB st (dc aB x c) k (dm E c aB st (dc aB x c) (E.length-1-1) k))
 tf:∀aB st,ba (aV E c) (E.length-1) (aF E c)=some (aB,st)->Fit 2097152 (dc aB x c)
 ent:∀aB st N,ba (aV E c) (E.length-1) (aF E c)=some (aB,st)->dm E c aB st (dc aB x c) (E.length-1-1) k=some N->∀d,d<E.length-1->∀l,l<E.length-1 ->
  Fit H (zp E c aB st (dc aB x c) k N d l).1/\Fit H (zp E c aB st (dc aB x c) k N d l).2
structure Mh(E:List (List Rat))(x:Rat)(k:Int)(H W:Nat)(Inv:Nat->Rat->VS->Prop):Prop where
 Pr:∀f c v,Inv f c v->Fit 1024 c/\v.length=E.length-1/\∀p∈v,Fit W p.1/\Fit W p.2
 hop:∀f c v,Inv f c v->c≠x->bC3 E x k H c
 next:∀f c v t M,Inv (f+1) c v->c≠x->uF E x k c=some (t,M)->Inv f (c+t) (jy (E.length-1) k M v)
theorem pZ{M v:Nat->Rat×Rat}{m H W:Nat}(hH:1<=H)(hM:∀l,l<m->Fit H (M l).1/\Fit H (M l).2)(hv:∀l,l<m->Fit W (v l).1/\Fit W (v l).2):∀l,l<=m->Fit (l*(H+W+1)+1) (cL M v l).1/\Fit (l*(H+W+1)+1) (cL M v l).2
 | 0,_=>⟨Fit.zero O,Fit.zero O⟩
 | l+1,h=>by
   obtain⟨a1,a2⟩:=pZ hH hM hv l O;obtain⟨b1,b2⟩:=Cm hH (hM l O).1 (hM l O).2 (hv l O).1 (hv l O).2;rw[cL,Nat.add_mul,Nat.one_mul];exact⟨(a1.add b1).mono O,(a2.add b2).mono O⟩
def dD{v:VS}{l:Nat}(h:l<v.length:=by omega):v[l]?=some (v.getD l (0,0)):=by
 rw[cu,ay h];rfl
def yJ{aB:Rat}{B:Nat}(h:Fit B aB):Fit (B+257) (an aB):=h.mul (eu O)
def by4{a b:Rat}:ku a b≠0↔a≠b:=by
 unfold ku
 constructor
 ·rintro h rfl;exact h (by rw[if_neg (by grind),if_neg (by grind)])
 ·intro h;split
  ·omega
  ·split
   ·omega
   ·exact absurd (show a=b by grind) h
def Ja(E:List (List Rat))(X:Rat)(Y:List Rat)(x:Rat)(k:Int)(H W:Nat)(Inv:Nat->Rat->VS->Prop)(P:Mh E x k H W Inv)(hk:k<=256)(hE1:2<=E.length)(hE5:E.length<=5)(hx:Fit 1024 x)(h0:Inv 64 X (Y.map fun y=>(y,y)))(hH:1<=H:=by omega)(hW:1<=W:=by omega)(hHW:5*(H+W+1)<=4294967296:=by omega)(hyl:Y.length<1099511627776:=by omega):aL prog 234 [(fT E X Y:aG),(qT x:aG),(.one (.int .i64 k):aG)] (bm2 (fh E x k 64 X (Y.map fun y=>(y,y)))):=by
 refine cI (args:=[.v (some 5),.v (some 3),.v none]) (ins:=[.v (fT E X Y),.v (qT x),.v (.one (.int .i64 k))]) (hints:=(look [(1,⟨[11],[(7,118)],[],[(10,[])]⟩)])) fo (by kernel_rfl) func234 ⟨rfl,rfl,rfl,trivial⟩ ?_;rw[Vu];dsimp only[List.map,In.env,aO,aP];apply vn (aU sD (aR _));refine ao {i:Nat // i<=Y.length} (fun g=>[.one (.int .i64 g.1),.rows (vS ((Y.take g.1).map fun y=>(y,y)))]) (fun g=>Y.length-g.1) ⟨0,bO _⟩ aQ.rfl (fun _=>rfl) ?_;rintro⟨i,hi⟩;dsimp only[aO,aP]at hi|-;apply vn ak;refine vs _ rfl ?_ ?_<;>intro h3
 ·obtain⟨y,hy⟩:∃y,Y[i]?=some y:=⟨_,ay O⟩
  apply vn (aZ sD hy (cS i));apply vn (bB ov (by decide) (by simp) (.inl rfl));apply aA (aU9 y);apply bF (us:=[dG y y]);refine pK (ts:=vS ((Y.take i).map fun y=>(y,y))) (us:=[dG y y]) (vs:=vS ((Y.take (i+1)).map fun y=>(y,y))) rfl rfl (by rw[List.take_add_one,hy];simp) (by simp;omega) (by simp[maxLen];omega) ?_;apply vn aC;dsimp only[aO,aP];exact aW rfl ⟨⟨i+1,O⟩,aQ.rfl,by show Y.length-(i+1)<Y.length-i;omega⟩
 obtain rfl:i=Y.length:=O
 rw[List.take_length];obtain⟨res,hres⟩:∃res,fh E x k 64 X (Y.map fun y=>(y,y))=res:=⟨_,rfl⟩
 rw[hres];refine ao {g:Nat×Rat×VS // g.1<=64/\Inv g.1 g.2.1 g.2.2/\fh E x k g.1 g.2.1 g.2.2=res} (fun g=>(.one (.int .i64 (64-(g.1.1:Int))):aG)::.rows (vS g.1.2.2)::(qC g.1.2.1).map .one) (fun g=>g.1.1) ⟨(64,X,Y.map fun y=>(y,y)),aY _,h0,hres⟩ aQ.rfl (fun _=>rfl) ?_;rintro⟨⟨f,c,v⟩,hf,hI,hr⟩;dsimp only[aO,aP,List.map]at hf hI hr|-;obtain⟨hcf,hvl,hvf⟩:=P.Pr f c v hI;apply aA (pN c x 1024 1024 hcf hx);apply vn gN;refine vs _ rfl (fun hne=>?_) (fun heq=>?_)
 ·have hcx:c≠x:=by4.1 hne;have HO:=P.hop f c v hI hcx;apply vn ak;dsimp only[aO,aP];rcases Nat.eq_zero_or_pos f with hf0 | hf0
  ·rw[show res=none by rw[<-hr,hf0];exact qR hcx,show decide ((64:Int)-(f:Int)<64)=false from mO O];exact vcp (mz 5) rfl
  obtain⟨g,hg⟩:∃g,f=g+1:=⟨f-1,O⟩
  rw[hg]at hr;rw[show decide ((64:Int)-(f:Int)<64)=true from iV O];apply aA (mw 5);apply aA HO.hat;dsimp only[aO,aP];have hre:=HO.hre;have hhop:uF E x k c=none->res=none:=fun e=>by rw[<-hr];exact qW _ hcx e
  unfold km at hre;obtain⟨rv,hv⟩:∃rv,ba (aV E c) (E.length-1) (aF E c)=rv:=⟨_,rfl⟩
  rw[hv]at hre;rcases rv with _ | ⟨aB,st⟩
  ·rw[hhop (Ei hv)];exact vcp hre rfl
  have hrf:=HO.rf aB st hv;have htf:=HO.tf aB st hv;apply aA hre;apply aA (wT 1);apply aA (bg aB (mkRat 1 (2^1)) 2097152 257 hrf (eu O));rw[show aB*mkRat 1 (2^1)=an aB from rfl];have hhf:=yJ hrf;apply aA (Eo (an aB));apply aA (KE x c 1024 1024 hx hcf);have hxc:=hx.sub hcf;apply bF (us:=rQ [an aB,x-c])
  apply aA (Xw [an aB,x-c] 2097409 (fun y hy=>by
   simp only[List.mem_cons,ja,gY]at hy;rcases hy with rfl | rfl
   ·exact hhf
   ·exact hxc.mono (by decide)) O O (by simp)) rfl
  have hmf:Fit 2097409 (iG [an aB,x-c] 2):=rV (fun y hy=>by
   simp only[List.mem_cons,ja,gY]at hy;rcases hy with rfl | rfl
   ·exact hhf
   ·exact hxc.mono (by decide)) 2 (by simp)
  apply bF (us:=rQ [-(an aB),iG [an aB,x-c] 2]);dsimp only[aO,aP]
  apply aA (Ud [-(an aB),iG [an aB,x-c] 2] 2097409 (fun y hy=>by
   simp only[List.mem_cons,ja,gY]at hy;rcases hy with rfl | rfl
   ·exact hhf.neg
   ·exact hmf) O O (by simp)) rfl
  rw[show gZ [-(an aB),iG [an aB,x-c] 2] [-(an aB),iG [an aB,x-c] 2].length=dc aB x c from rfl];dsimp only[aO,aP];have hmx:=HO.mx aB st hv;unfold Qh at hmx;have hent:=HO.ent aB st;obtain⟨no,hn⟩:∃no,dm E c aB st (dc aB x c) (E.length-1-1) k=no:=⟨_,rfl⟩
  rw[hn]at hmx;rcases no with _ | N<;>dsimp only at hmx
  ·rw[hhop (CQ hv hn)];exact vcp hmx rfl
  have hent:=hent N hv hn;have hsm:=Jj hv hn;rw[hg]at hI;have hnx:=P.next g c v (dc aB x c) (zp E c aB st (dc aB x c) k N) hI hcx hsm
  have hrs:fh E x k g (c+dc aB x c) (jy (E.length-1) k (zp E c aB st (dc aB x c) k N) v)=res:=by
   rw[<-hr];exact(qk g hcx hsm).symm
  obtain⟨M,hM⟩:∃M,zp E c aB st (dc aB x c) k N=M:=⟨_,rfl⟩
  obtain⟨m,hm⟩:∃m,E.length-1=m:=⟨_,rfl⟩
  apply aA hmx;rw[show Vx (aV E c) (E.length-1) (aF E c) aB st (dc aB x c) k N (E.length-1)=(List.range m).map fun d=>[.slice 6 ((List.range m).map fun l=>dG (M d l).1 (M d l).2)] by rw[<-hM,<-hm];rfl];rw[hM]at hent hnx hrs;rw[hm]at hent hnx hrs hvl;apply vn (aU aP1 ((aR _).trans mA));refine ao {d:Nat // d<=m} (fun g=>[.one (.int .i64 g.1),.rows (vS ((List.range g.1).map (ux m k M v)))]) (fun g=>m-g.1) ⟨0,bO _⟩ aQ.rfl (fun _=>rfl) ?_;rintro⟨d,hd⟩;dsimp only[aO,aP]at hd|-;apply vn ak;refine vs _ rfl ?_ ?_<;>intro h31
  ·have hdm:d<m:=O
   refine vn (aZ aP1 (gv hdm) (cS d)) rfl ?_;apply vn (av bw0);apply vn (aU ju ((aR _).trans mA));dsimp only[aO,aP];have hdf:=fun l hl=>pZ (M:=M d) (v:=fun l=>v.getD l (0,0)) (m:=m) (W:=W) hH (fun l hl=>hent d hdm l hl) (fun l hl=>hvf _ (bc (dD (v:=v)))) l hl;refine ao {l:Nat // l<=m} (fun g=>(.one (.int .i64 g.1):aG)::(dG (cL (M d) (fun l=>v.getD l (0,0)) g.1).1 (cL (M d) (fun l=>v.getD l (0,0)) g.1).2).map .one) (fun g=>m-g.1) ⟨0,bO _⟩ ⟨aG.Sub.same,DA⟩ (fun _=>rfl) ?_;rintro⟨l,hl⟩;dsimp only[aO,aP,List.map]at hl|-;apply vn ak;refine vs _ rfl ?_ ?_<;>intro h37
   ·have hlm:l<m:=O
    refine vn (aZ ju (gv hlm) (cS l)) rfl ?_;apply vn (bB sq (by decide) (by simp) (.inl rfl));dsimp only[aO,aP];have hvx:=dD (v:=v) (l:=l);refine mq rfl rfl O (by rw[aR];omega) ?_;refine Wj (m:=l) (t:=ow (v.getD l (0,0)).1 (v.getD l (0,0)).2) rfl rfl O O hvx (.inl rfl) rfl ?_;dsimp only[aO,aP,Mf,List.drop,List.take];obtain⟨e1,e2⟩:=hent d hdm l hlm;obtain⟨w1,w2⟩:=hvf _ (bc hvx);apply aA (Rs (M d l).1 (M d l).2 (v.getD l (0,0)).1 (v.getD l (0,0)).2 H W hH e1 e2 w1 w2);dsimp only[aO,aP];obtain⟨p1,p2⟩:=Cm hH e1 e2 w1 w2;obtain⟨d1,d2⟩:=hdf l O;have hlx:l*(H+W+1)+1<=4*(H+W+1)+1:=Nat.succ_le_succ (Nat.mul_le_mul_right _ O);apply aA (sn _ _ _ _ (l*(H+W+1)+1) (H+W) d1 d2 p1 p2);apply vn aC;dsimp only[aO,aP];exact aW rfl ⟨⟨l+1,O⟩,aQ.rfl,by show m-(l+1)<m-l;omega⟩
   obtain rfl:l=m:=O
   obtain⟨d1,d2⟩:=hdf l (aY _);have hlx:l*(H+W+1)+1<=4*(H+W+1)+1:=Nat.succ_le_succ (Nat.mul_le_mul_right _ O);apply aA (Jv _ _ k (l*(H+W+1)+1) hk d1 d2);apply bF (us:=[dG (ux l k M v d).1 (ux l k M v d).2]);refine pK (ts:=vS ((List.range d).map (ux l k M v))) (us:=[dG (ux l k M v d).1 (ux l k M v d).2]) (vs:=vS ((List.range (d+1)).map (ux l k M v))) rfl rfl (by rw[mM];simp) (by simp;omega) (by simp[maxLen];omega) ?_;apply vn aC;dsimp only[aO,aP];exact aW rfl ⟨⟨d+1,O⟩,aQ.rfl,by show l-(d+1)<l-d;omega⟩
  obtain rfl:d=m:=O
  apply aA (iU c (dc aB x c) 1024 2097152 hcf htf);apply vn aC
  exact aW rfl ⟨⟨(g,c+dc aB x c,jy d k M v),by dsimp only;omega,hnx,hrs⟩,aQ.of_eq (by
   dsimp only;rw[show(64:Int)-(f:Int)+1=64-(g:Int) by omega];rfl),by show g<f;omega⟩
 have hcx:c=x:=Classical.byContradiction fun h=>heq (by4.2 h)
 rw[show res=some v by rw[<-hr,hcx];exact qE f];exact aK
open Go Go.Proofs Go.RowKit Tryz Ord
attribute [local go_sem] Oper.semAt_some
def ba4:Tr:=dV 234 [(G5 0),(G3 1),(W 2 0)] [none] [4,5,6] [42,39,3] 118 true (.fail 4)
def Gq:aM prog f233 bZ [.ref 5,.ref 3,.ref 1,.ref 1]=ba4:=by kernel_rfl
def uI:Tr:=.retr [] 5
def uJ:Tr:=.need (.strow 3 1 (.k (.int .i64 (0))) 0 [(.u 4 0)]) (.store 118 (.tmp 3) (.tmp 7)) 0 false uI
def uE:Tr:=.need (.call 234 [(.agg [(U 0 0),(U 0 1),(U 0 2),(U 0 3),(U 0 4)]),(.agg [(U 1 0),(U 1 1),(U 1 2)]),(W 2 0)] [none]) (.call ⟨.value (.func 234),#[(.tmp 4),(.tmp 5),(.tmp 6)],#[42,39,3]⟩) 118 true uJ
def we:Sv prog f233 (fun _=>none) [.ref 5,.ref 3,.ref 1] 118 1=uE:=by kernel_rfl
def bk0:Tr:=dV 21 [(G5 0)] [none] [8] [42] 55 true (lP 3 55 9 (aH 4 0 (Rp 2) (dV 160 [(G5 0),(G3 1),(W 2 0)] [none,none] [11,12,13] [42,39,3] 130 true (xr 5 6))))
def Mw:aM prog f72 bZ [.v (some 5),.v (some 3),.v none]=bk0:=by kernel_rfl
def xO(e:List (List Rat))(c:Rat)(y:List Rat)(x:Rat)(k:Int)(hval:aL prog 234 [fT e c y,qT x,.one (.int .i64 k)] (.pan (CD 5))):aL prog 233 [(.one (.aj (fC e c y)):aG),(.one (.aj (qC x)):aG),(.one (.aj ([.int .i64 k])):aG),(.one (.aj ([.exact (.slice none 0 0)])):aG)] (.pan (CD 5)):=by
 refine dvr (ins:=[.ref (fC e c y),.ref (qC x),.ref ([.int .i64 k]),.ref ([.exact (.slice none 0 0)])]) func233 Gq ?_;exact vcp hval rfl
def Bi(e:List (List Rat))(c:Rat)(y:List Rat)(x:Rat)(k:Int)(R:VS)(hval:aL prog 234 [fT e c y,qT x,.one (.int .i64 k)] (.ret [.one (.slice 6 (vS R))])):tS prog 233 118 [(.one (.aj (fC e c y)):aG),(.one (.aj (qC x)):aG),(.one (.aj ([.int .i64 k])):aG)] ([.exact (.slice none 0 0)]) [] ([.slice 6 (vS R)]):=by
 refine Oj (a1:=[.ref 5,.ref 3,.ref 1]) (i1:=[.ref (fC e c y),.ref (qC x),.ref ([.int .i64 k])]) (n:=1) (hints:=(fun _=>none)) fo func233 ⟨rfl,rfl,rfl,trivial⟩ rfl rfl ?_;rw[we];dsimp only[List.map,In.env,aO,aP];apply aA hval;refine yx (ts:=[[.exact (.slice none 0 0)]]) (us:=[[.slice 6 (vS R)]]) rfl rfl O (cells:=[.exact (.slice none 0 0)]) rfl rfl ?_;dsimp only[aO,aP];exact xH rfl rfl
set_option maxRecDepth 100000 in
def zA(M:Nat->Prop)(w:World)(hM:cX M w)(e:List (List Rat))(c:Rat)(y:List Rat)(x:Rat)(k er:Int)(cs':List aE)
  (hcl:(cs'=[.exact (.slice none 0 0)]/\aL prog 233 [.one (.aj (fC e c y)),.one (.aj (qC x)),.one (.aj [.int .i64 k]),.one (.aj [.exact (.slice none 0 0)])] (.pan (CD er)))\/(er=0/\tS prog 233 118 [.one (.aj (fC e c y)),.one (.aj (qC x)),.one (.aj [.int .i64 k])] [.exact (.slice none 0 0)] [] cs')) (hc1:cs'.length=1)
  (u0 u1 u2 u3 u4 r0 r1 r2:Value) (hf:ab M w (fC e c y) [u0,u1,u2,u3,u4]) (hr:ab M w (qC x) [r0,r1,r2]) :
  Calls prog 160 #[.agg #[u0,u1,u2,u3,u4],.agg #[r0,r1,r2],.int .i64 k] w fun e w'=>Below w.heap.size w w'/\∃v,e=.returned (.tuple #[v,.int .i64 er])/\ab M w' cs' [v]:=by
 have hmf:∀(fn:Fn)(first cap:Array Value)(w:World),(Instr.makeFunc fn first cap).run prog w=.ok (.func fn first cap) w:=fun _ _ _ _=>rfl;obtain⟨n0,hn0⟩:∃n0,w.heap.size=n0:=⟨_,rfl⟩
 obtain⟨o0,o1,o2,o3,o4⟩:u0.oneCell'=true/\u1.oneCell'=true/\u2.oneCell'=true/\u3.oneCell'=true/\u4.oneCell'=true:=by have:=hf.one;exact⟨this _ (by simp),this _ (by simp),this _ (by simp),this _ (by simp),this _ (by simp)⟩
 obtain⟨p0,p1,p2⟩:r0.oneCell'=true/\r1.oneCell'=true/\r2.oneCell'=true:=by have:=hr.one;exact⟨this _ (by simp),this _ (by simp),this _ (by simp)⟩
 refine iE func160 rfl ?_;simp only[ntmps160,dW,List.length_cons,bq,Nat.reduceAdd,Nat.reduceSub,dw,dv,du,dz,List.nil_append,List.cons_append];obtain⟨Wa,hWa⟩:∃Wa,((((w.alloc (.cells #[u0,u1,u2,u3,u4] 42)).alloc (.cells #[r0,r1,r2] 39)).alloc (.cells #[.int .i64 k] 3)).alloc (.cells #[.slice none 0 0] 118))=Wa:=⟨_,rfl⟩
 have hsa:Wa.heap.size=n0+4:=by rw[<-hWa];simp[hn0]
 have hBa:Below w.heap.size w Wa:=by
  rw[<-hWa];exact((((cF _ w).alloc O _).alloc (by simp) _).alloc (by simp;omega) _).alloc (by simp;omega) _
 have hF:Wa.heap[n0]?=some (.cells #[u0,u1,u2,u3,u4] 42 (0,0)):=by rw[<-hWa,bM _ _ _ (by simp;omega),bM _ _ _ (by simp;omega),bM _ _ _ (by simp;omega),<-hn0];exact bG w _
 have hR:Wa.heap[n0+1]?=some (.cells #[r0,r1,r2] 39 (0,0)):=by
  rw[<-hWa,bM _ _ _ (by simp;omega),bM _ _ _ (by simp;omega)];have:=bG (w.alloc (.cells #[u0,u1,u2,u3,u4] 42)) (.cells #[r0,r1,r2] 39)
  rwa[bL,hn0]at this
 have hK:Wa.heap[n0+2]?=some (.cells #[.int .i64 k] 3 (0,0)):=by
  rw[<-hWa,bM _ _ _ (by simp;omega)];have:=bG ((w.alloc (.cells #[u0,u1,u2,u3,u4] 42)).alloc (.cells #[r0,r1,r2] 39)) (.cells #[.int .i64 k] 3)
  rwa[bL,bL,hn0]at this
 have hA:Wa.heap[n0+3]?=some (.cells #[.slice none 0 0] 118 (0,0)):=by
  rw[<-hWa];have:=bG (((w.alloc (.cells #[u0,u1,u2,u3,u4] 42)).alloc (.cells #[r0,r1,r2] 39)).alloc (.cells #[.int .i64 k] 3)) (.cells #[.slice none 0 0] 118)
  rwa[bL,bL,bL,hn0]at this
 have hMA:¬M (n0+3):=fun h=>by have:=hM.1 _ h;omega
 have hk2:bP M w (fun b=>M b\/b=n0+3) Wa:=fun b o hb ho _=>by
  have hl:=(cK.1 ho).1;exact⟨fun h=>h.elim hb O,(hBa.block b hl).trans ho⟩
 have hM2:cX (fun b=>M b\/b=n0+3) Wa:=⟨fun b hb=>by
  rcases hb with h | h
  ·have:=hM.1 b h;omega
  ·omega,hM.2.gj hk2⟩
 have hnm:∀b,n0<=b->b<n0+3->¬(M b\/b=n0+3):=fun b h1 h2 h=>h.elim (fun h=>by have:=hM.1 b h;omega) O
 have hca:=CZ 233 (bJ (by kernel_rfl)) M Wa (n0+3) 118 #[.slice none 0 0] [.exact (.slice none 0 0)] cs' [.one (.aj (fC e c y)),.one (.aj (qC x)),.one (.aj [.int .i64 k])] [.pointer (some ⟨n0,0,none⟩),.pointer (some ⟨n0+1,0,none⟩),.pointer (some ⟨n0+1+1,0,none⟩)] er hM2 hMA hA
  ⟨⟨n0,0,_,_,_,rfl,hnm _ O O,hF,hf.mono hk2⟩,⟨n0+1,0,_,_,_,rfl,hnm _ O O,hR,hr.mono hk2⟩,⟨n0+2,0,_,_,_,rfl,hnm _ O O,hK,⟨⟨rfl,rfl⟩,trivial⟩⟩,trivial⟩ (fun _ _=>⟨⟨rfl,rfl⟩,trivial⟩) hcl
 simp only[aO,aP]at hca
 go_wp2_with (go_at_call 121;refine hca.mono ?_)
 rintro e w3 ⟨rfl,hg,us,hus,hrus⟩
 obtain⟨v,rfl⟩:∃v,us=#[v]:=by
  have:=hrus.length;rw[hc1]at this
  match us,this with
  | ⟨[v]⟩,_=>exact⟨v,rfl⟩
 have cv:w3.cell? ⟨n0+3,0,none⟩=some v:=aD hus rfl;have hv1:v.oneCell'=true:=hrus.one v (by simp);have hfr:=bd8 hus 0
 go_wp2
 have st1:Sem.run prog (storeCells ⟨n0+1+1+1,0,none⟩ [v]) w3=.ok () (w3.setRow (n0+3) #[v]):=by
  have:=gE (P:=prog) (j:=0) hus (by simp) hv1
  simpa[storeCells,Addr.add]using this
 rw[st1];have hs9:(w3.setRow (n0+3) #[v]).heap[n0+3]?=some (.cells #[v] 118 (0,0)):=cJ _ _ _ _ _ _ hus
 have hbw:Below w.heap.size w w3:=⟨by rw[hg.os,hBa.os],by rw[hg.tape,hBa.tape],by rw[hg.output,hBa.output],by have:=hg.size;omega,fun j hj=>by
  rw[hg.block j O (fun e=>by simp only[aI]at e;omega),hBa.block j hj]⟩
 have hb9:Below w.heap.size w (w3.setRow (n0+3) #[v]):=below_setRow hbw _
 have hk9:bP (fun b=>M b\/b=n0+3) w3 M (w3.setRow (n0+3) #[v]):=fun b o hb ho _=>
  ⟨fun h=>hb (.inl h),by rw[dC _ _ _ _ (fun e=>hb (.inr e))];exact ho⟩
 have hy9:=hrus.mono hk9;generalize w3.setRow (n0+3) #[v]=W9 at *;have t0:W9.cell? ⟨n0+3,0,none⟩=some v:=aD hs9 rfl;clear st1
 go_wp2
 simp[bodyPost,results,show f160.results=#[.cell 6 118,.tmp 7]from rfl,go_sem,t0];exact⟨hb9,hy9⟩
def Pm:aG.Sub (.agg [.exact (.slice none 0 0),.bool false,.exact (.slice none 0 0),.exact (.slice none 0 0),.bool false,.exact (.slice none 0 0)]) (ow 0 0):=⟨db.1,db.2.1,db.2.2.1,db.1,db.2.1,db.2.2.1,trivial⟩
def Wu(v:Option VS):VS×Int:=match v with | some v=>(v,0) | none=>([],5)
def NQ(e:List (List Rat))(c:Rat)(y:List Rat)(x:Rat)(k:Int)(v:Option VS)(hval:aL prog 234 [fT e c y,qT x,.one (.int .i64 k)] (bm2 v)) :
  aL prog 160 [fT e c y,qT x,.one (.int .i64 k)] (.ret [.one (.slice 6 (vS (Wu v).1)),.one (.int .i64 (Wu v).2)]):=by
 refine⟨bJ (by kernel_rfl),fun M w vs hM hv=>?_⟩
 match vs,hv with
 | [a,xv,kv],hv=>
   obtain⟨us,rfl,hus⟩:=hv.1;obtain⟨u0,u1,u2,u3,u4,rfl⟩:=aB0 hus;obtain⟨xs,rfl,hxs⟩:=hv.2.1;obtain⟨r0,r1,r2,rfl⟩:=ZA hxs;have hk:kv=.int .i64 k:=hv.2.2.1.1;subst hk;cases v with
   | some R=>
     refine(zA M w hM e c y x k 0 [.slice 6 (vS R)] (.inr ⟨rfl,Bi e c y x k R hval⟩) rfl u0 u1 u2 u3 u4 r0 r1 r2 hus hxs).mono ?_;rintro r w' ⟨hb,v,rfl,hr⟩;exact⟨hb,[v,.int .i64 0],rfl,hr.1,⟨rfl,rfl⟩,trivial⟩
   | none=>
     refine(zA M w hM e c y x k 5 [.exact (.slice none 0 0)] (.inl ⟨rfl,xO e c y x k hval⟩) rfl u0 u1 u2 u3 u4 r0 r1 r2 hus hxs).mono ?_;rintro r w' ⟨hb,v,rfl,hr⟩;exact⟨hb,[v,.int .i64 5],rfl,aE.Sub.nil.rep hr.1,⟨rfl,rfl⟩,trivial⟩
 | [],hv=>exact hv.elim
 | [_],hv=>exact hv.2.elim
 | [_,_],hv=>exact hv.2.2.elim
 | _::_::_::_::_,hv=>exact hv.2.2.2.elim
def GD(e:List (List Rat))(c:Rat)(y:List Rat)(x:Rat)(k:Int)(v:Option VS)(hck:aL prog 21 [fT e c y] (.ret [.one (.int .i64 0)]))(hval:aL prog 234 [fT e c y,qT x,.one (.int .i64 k)] (bm2 v)):aL prog 72 [(fT e c y:aG),(qT x:aG),(.one (.int .i64 k):aG)] (.ret [.one (.slice 6 (vS (Wu v).1)),.one (.int .i64 (Wu v).2)]):=by
 refine bw func72 Mw ?_;apply aA hck;apply vn gN;refine vs _ rfl ?_ ?_<;>intro h2
 ·exact absurd rfl h2
 apply aA (NQ e c y x k v hval);exact aK
end Go.Sy
namespace Go.Sy
open Go Go.Proofs Tryz Ord
structure bU5(E:List (List Rat))(ER:List (List RQ))(x:Rat)(k:Int)(H:Nat)(c:RQ):Prop where
 re:aL prog 43 [.one (eR ER),lT c] (.ret [lT (jW E c.q).1,.one (.int .i64 (jW E c.q).2)])
 st:∀aB st,ba (aV E c.q) (E.length-1) (aF E c.q)=some (aB,st)->0<st/\Fit 2097152 aB/\Fit 2097152 (dc aB x c.q)
 mx:∀aB st,ba (aV E c.q) (E.length-1) (aF E c.q)=some (aB,st)->∀u:RQ,u.q=dc aB x c.q->aL prog 61 [.one (eR ER),lT c,lT u,.one (.int .i64 k)] (.ret [.one (.slice 1 (aO2 E c.q aB st (dc aB x c.q) k).1),.one (.int .i64 (aO2 E c.q aB st (dc aB x c.q) k).2)])
 ent:∀aB st N,ba (aV E c.q) (E.length-1) (aF E c.q)=some (aB,st)->dm E c.q aB st (dc aB x c.q) (E.length-1-1) k=some N->∀d,d<E.length-1->∀l,l<E.length-1 ->
  Fit H (zp E c.q aB st (dc aB x c.q) k N d l).1/\Fit H (zp E c.q aB st (dc aB x c.q) k N d l).2
structure bZ9(E:List (List Rat))(ER:List (List RQ))(x:Rat)(k:Int)(H W:Nat)(Inv:Nat->RQ->VS->Prop):Prop where
 Pr:∀f c v,Inv f c v->Fit 1024 c.q/\v.length=E.length-1/\∀p∈v,Fit W p.1/\Fit W p.2
 hop:∀f c v,Inv f c v->c.q≠x->bU5 E ER x k H c
 next:∀f c v t M,Inv (f+1) c v->c.q≠x->uF E x k c.q=some (t,M)->Inv f (.of (c.q+t)) (jy (E.length-1) k M v)
def ay1(q:Rat):Nat:=(xj (q.num.natAbs:Int)).length+(xj (q.den:Int)).length
def ah4{T ty:TypeId}{x:Operand}{l:List UInt8}(hu:prog.underlying T=some .string):af prog (.call ⟨.builtin .len,#[x],#[T]⟩) ty [bS l] (.one (.int .i64 l.length)):=
 Wq hu (by show l.toArray.size=_;simp)
def bg9(a:RQ)(H:Nat)(hf:Fit H a.q)(hH:H<=1073741824:=by omega):aL prog 159 [(lT a:aG)] (.ret [.one (.int .i64 (ay1 a.q))]):=by
 refine bw func159 aW6 ?_;have h1:=Np (z:=(a.q.num.natAbs:Int)) (H:=H) (by rw[Int.natAbs_natCast];exact hf.1);have h2:=Np (z:=(a.q.den:Int)) (H:=H) (by rw[Int.natAbs_natCast];exact hf.2);apply aA (Sa a.q.num);apply aA (Oo (a.q.num.natAbs:Int) H (by rw[Int.natAbs_natCast];exact hf.1)) rfl;apply vn (ah4 un9);apply aA (kN a);apply aA (Oo (a.q.den:Int) H (by rw[Int.natAbs_natCast];exact hf.2)) rfl;apply vn (ah4 un9);apply vn aC;dsimp only[aO,aP];rw[show((xj (a.q.num.natAbs:Int)).length:Int)+((xj (a.q.den:Int)).length:Int)=(ay1 a.q:Int) by unfold ay1;omega];exact aK
def Mr(x c:RQ):Bool:=if(ay1 x.q:Int)<=6 then decide (ku (x.q-c.q).abs ((1:Int):Rat)<=0)else false
def Tn(x c:RQ)(hx:Fit 1024 x.q)(hc:Fit 1024 c.q):aL prog 70 [(lT x:aG),(lT c:aG)] (.ret [.one (.bool (Mr x c))]):=by
 refine bw func70 am8 ?_;apply aA (bg9 x 1024 hx);apply vn iO;refine vs _ rfl ?_ ?_<;>intro h2
 ·apply aA (bd2 x c 1024 1024 hx hc);apply aA (Cs (.of (x.q-c.q)));apply aA (lG 1);apply aA (Px (.of (x.q-c.q).abs) (.of ((1:Int):Rat)) 4096 64 (js ((hx.sub hc).mono (by decide))) (Fit.int O O));apply vn iO;dsimp only[aO,aP];rw[show Mr x c=decide (ku (x.q-c.q).abs ((1:Int):Rat)<=0)from if_pos h2];exact aK
 rw[show Mr x c=false from if_neg h2];exact aK
def xN(a b:Rat):iG [a,b] 2=if b<a then b else a:=by simp[iG]
def xJ(a b:Rat):gZ [a,b] 2=if a<b then b else a:=by simp[gZ]
def kU(q:Rat):an q*2=q:=by
 unfold an;rw[show mkRat 1 (2^1)=1/2 by decide +kernel];grind
def Zc{t a:Rat}(h:t.abs<=a):-a<=t/\t<=a:=by
 unfold Rat.abs at h;split at h<;>constructor<;>grind
def UT{aB x c:Rat}(h:(x-c).abs*2<=aB):dc aB x c=x-c:=by
 have e:=kU aB;unfold dc;rw[xN,xJ];generalize an aB=a at *;generalize x-c=d at *;obtain⟨h1,h2⟩:=Zc (t:=d) (a:=a) (by grind);split
 ·split<;>grind
 ·split<;>grind
def jg.sub{x c:Rat}(hx:jg x)(hc:jg c):rK (x-c):=by
 have h:=(hx.bd.mono (E:=x.den*c.den) (qL _ _) (aY _)).sub (Nat.mul_ne_zero (iy x) (iy c)) (hc.bd.mono (tj _ _) (aY _));refine⟨Nat.le_trans (BE (Nat.mul_pos x.den_pos c.den_pos) h.1) (Nat.le_trans (cV hx.d hc.d) (by decide)),Nat.le_trans h.2 (Nat.mul_le_mul_right _ O)⟩
def Ff{E:List (List Rat)}{x c t:Rat}{k:Int}{M:Nat->Nat->Rat×Rat}(h:uF E x k c=some (t,M)):∃aB st N,ba (aV E c) (E.length-1) (aF E c)=some (aB,st)/\dm E c aB st (dc aB x c) (E.length-1-1) k=some N/\t=dc aB x c/\M=zp E c aB st (dc aB x c) k N:=by
 obtain⟨rv,hv⟩:∃rv,ba (aV E c) (E.length-1) (aF E c)=rv:=⟨_,rfl⟩
 rcases rv with _ | ⟨aB,st⟩
 ·rw[Ei hv]at h;cases h
 obtain⟨no,hn⟩:∃no,dm E c aB st (dc aB x c) (E.length-1-1) k=no:=⟨_,rfl⟩
 rcases no with _ | N
 ·rw[CQ hv hn]at h;cases h
 rw[Jj hv hn]at h;obtain⟨h1,h2⟩:=bt (lL h);exact⟨aB,st,N,hv,hn,h1.symm,h2.symm⟩
def FJ{q:Rat}{H k:Nat}(h:Fit H q)(hk:k<=256:=by omega):Fit (H+257+257) (ki q k):=(BM (h.mul (mZ hk))).mul (eu hk)
def MX{q:Rat}{H k:Nat}(h:Fit H q)(hk:k<=256:=by omega):Fit (H+257+257) (SK q k):=by
 unfold SK;rw[xi];exact(BM (h.mul (mZ hk)).neg).neg.mul (eu hk)
def ZT{m H W d:Nat}{k:Int}{M:Nat->Nat->Rat×Rat}{v:VS}(hk:k<=256)(hH:1<=H)(hM:∀l,l<m->Fit H (M d l).1/\Fit H (M d l).2)(hvl:v.length=m)(hv:∀p∈v,Fit W p.1/\Fit W p.2):Fit (m*(H+W+1)+1+257+257) (ux m k M v d).1/\Fit (m*(H+W+1)+1+257+257) (ux m k M v d).2:=by
 obtain⟨h1,h2⟩:=pZ (M:=M d) (v:=fun l=>v.getD l (0,0)) (m:=m) (W:=W) hH hM (fun l hl=>hv _ (bc (dD))) m (aY _);exact⟨FJ h1,MX h2⟩
def Nc{m K:Nat}(h:m<=4:=by omega)(hK:K<=12000514:=by omega):m*K+1+257+257<=50000000:=by
 have h1:=cV h hK;have h2:4*12000514=48002056:=by decide
 rw[h2]at h1;generalize m*K=z at *;omega
def Ys{E:List (List Rat)}{x:Rat}{k:Int}{H W:Nat}{Inv:Nat->Rat->VS->Prop}(P:Mh E x k H W Inv){w:VS}:∀f c v,Inv f c v->fh E x k f c v=some w->∃g c',Inv g c' w:=by
 intro f
 induction f with
 | zero=>
   intro c v hI h;by_cases hc:c=x
   ·rw[hc,qE]at h;obtain rfl:=lL h;exact⟨_,_,hI⟩
   ·rw[qR hc]at h;cases h
 | succ f ih=>
   intro c v hI h;by_cases hc:c=x
   ·rw[hc,qE]at h;obtain rfl:=lL h;exact⟨_,_,hI⟩
   ·cases hm:uF E x k c with
    | none=>rw[qW _ hc hm]at h;cases h
    | some z=>
      obtain⟨t,M⟩:=z;rw[qk f hc hm]at h;exact ih _ _ (P.next f c v t M hI hc hm) h
section
variable{E:List (List Rat)}{ER:List (List RQ)}{X:Rat}{XR:RQ}
def bT9(E:List (List Rat))(X x:Rat)(v0:VS)(f:Nat)(c:Rat)(v:VS):Prop:=(f=64/\c=X/\v=v0)\/(f=63/\c=x/\v.length=E.length-1/\∀p∈v,Fit 50000000 p.1/\Fit 50000000 p.2)
structure SU(E:List (List Rat))(X x:Rat)(v0:VS):Prop where
 hr:gT E X
 xb:jg x
 vl:v0.length=E.length-1
 vf:∀p∈v0,Fit 513 p.1/\Fit 513 p.2
 re:∀aB st,ba (aV E X) (E.length-1) (aF E X)=some (aB,st)->st<=24/\(x-X).abs*2<=aB
def SU.step{x:Rat}{v0:VS}{k:Int}(h:SmallX E ER X XR)(N:SU E X x v0)(hk:k<=256){aB:Rat}{st:Nat}(hv:ba (aV E X) (E.length-1) (aF E X)=some (aB,st)):dc aB x X=x-X/\kq E X aB st (dc aB x X) k/\Fit 2097152 aB/\0<st:=by
 obtain⟨h1,h2⟩:=N.re aB st hv;have e:=UT h2;obtain⟨l2,l5,_,_⟩:=N.hr.facts;obtain⟨hh,hh62,hrho,_,hW⟩:=eO hv;have ht:rK (x-X):=N.xb.sub h.xb;refine⟨e,by rw[e];exact Sf N.hr hv ht h2 hk,by rw[hrho];exact(eJ ht hh62 (n:=1) (d:=0) O O (aY _)).o1,O⟩
def SU.way{x:Rat}{v0:VS}{k:Int}(h:SmallX E ER X XR)(N:SU E X x v0)(hk:k<=256):Mh E x k 12000000 50000000 (bT9 E X x v0):=by
 obtain⟨l2,l5,_,_⟩:=N.hr.facts;refine⟨fun f c v hI=>?_,fun f c v hI hcx=>?_,fun f c v t M hI hcx hm=>?_⟩
 ·rcases hI with⟨rfl,rfl,rfl⟩ | ⟨rfl,rfl,hl,hf⟩
  ·exact⟨h.xb.fit.mono O,N.vl,fun p hp=>⟨(N.vf p hp).1.mono O,(N.vf p hp).2.mono O⟩⟩
  ·exact⟨N.xb.fit.mono O,hl,hf⟩
 ·rcases hI with⟨rfl,rfl,rfl⟩ | ⟨rfl,rfl,hl,hf⟩
  ·refine⟨yE h N.hr,qd h N.hr,fun aB st hv=>(N.step h hk hv).2.2.1,fun aB st hv=>?_,fun aB st hv=>?_,fun aB st n hv hn d hd l hl=>?_⟩
   ·exact IL (h.WC N.hr (N.step h hk hv).2.1)
   ·exact(N.step h hk hv).2.1.tf.mono O
   ·exact h.Kg N.hr (N.step h hk hv).2.1 hn hd hl
  ·exact absurd rfl hcx
 ·rcases hI with⟨hf,rfl,rfl⟩ | ⟨_,rfl,hl,hf⟩
  ·obtain⟨aB,st,n,hv,hn,rfl,rfl⟩:=Ff hm;obtain⟨e,S,_,_⟩:=N.step h hk hv;refine .inr ⟨O,by rw[e];grind,by rw[jy,aR,mA],fun p hp=>?_⟩;obtain⟨d,hd,rfl⟩:=gn.1 hp;obtain⟨f1,f2⟩:=ZT (d:=d) (H:=12000000) (W:=513) (M:=zp E c aB st (dc aB x c) k n) hk O (fun l hl=>h.Kg N.hr S hn (jk.1 hd) hl) N.vl N.vf;exact⟨f1.mono (Nc),f2.mono (Nc)⟩
  ·exact absurd rfl hcx
end
end Go.Sy
