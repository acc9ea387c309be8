/- Part. -/
import Derived.Test.YtacgmapjhpghkaaGreatDoorWa
import Derived.Maps.OwnIn
set_option linter.all false
set_option maxHeartbeats 1000000
set_option maxRecDepth 100000
namespace Go.Sy
def al4:=@Go.wpListIn_append_own_at
open Go Go.Proofs Go.RowKit Tryz Ord
attribute [local go_sem] Oper.semAt_some
def MC:Tr:=.ret [(.one (.ref 0 [(.u 0 0)]))]
def VQ:aj prog 24 (fun _=>none) (aH [0] (aM f202)) [(0,.v none)] ([3].map ResultVar.tmp) none false=MC:=aS
def KZ:Tr:=.ret [(W 0 0)]
def Xu:aj prog 24 (fun _=>none) (aH [1,0,0] (aM f202)) [(1,.ref 1)] ([7].map ResultVar.tmp) none false=KZ:=aS
def cf7(t:iS)(h:t.size=24):t=#[t.getD 0 undef,t.getD 1 undef,t.getD 2 undef,t.getD 3 undef,t.getD 4 undef,t.getD 5 undef,t.getD 6 undef,t.getD 7 undef,t.getD 8 undef,t.getD 9 undef,t.getD 10 undef,t.getD 11 undef,t.getD 12 undef,t.getD 13 undef,t.getD 14 undef,t.getD 15 undef,t.getD 16 undef,t.getD 17 undef,t.getD 18 undef,t.getD 19 undef,t.getD 20 undef,t.getD 21 undef,t.getD 22 undef,t.getD 23 undef]:=(qo t 24 h).trans rfl
def bE9(v:Value):vc prog (fun o=>bD o (.ret [.one (.aw [.exact v])])) (aj prog 24 (fun _=>none) (aH [0] (aM f202)) [(0,.v none)] ([3].map ResultVar.tmp) none false) ([.v (.one (.exact v))].map In.env) []:=by
 rw[VQ];dsimp only[List.map,In.env,aU,aV];exact aR
def bD5(v:Value):vc prog (fun o=>bD o (.ret [.one (.exact v)])) (aj prog 24 (fun _=>none) (aH [1,0,0] (aM f202)) [(1,.ref 1)] ([7].map ResultVar.tmp) none false) ([.ref ([.exact v])].map In.env) []:=by
 rw[Xu];dsimp only[List.map,In.env,aU,aV];exact aR
def sD{cells:List aC}{M:c6}{w:World}{v x:Value}{j:Nat}(h:(aC.aw cells).rep M w v)(hj:cells[j]?=some (.exact x)):∃b off,v=.pointer (some ⟨b,off,none⟩)/\w.cell? ⟨b,off+j,none⟩=some x:=by
 obtain⟨b,off,cs,T,fz,rfl,hb,hh,hr⟩:=h;refine⟨b,off,rfl,?_⟩;obtain⟨u,hu,hx⟩:=hr.get j _ hj;have hux:u=x:=hx.1;subst hux;rw[eh]at hu;split at hu
 .rw[fG]at hu;exact bH hh (by simpa using hu)
 .cases hu
def zq{M:c6}{w:World}{v:Value}{au:j0}(h:(aC.slice 1 (au.map fun v=>[.exact v])).rep M w v)(hne:0<au.length):∃b off cap,v=.slice (some ⟨b,off,none⟩) au.length cap/\∀j x,au[j]?=some x->w.cell? ⟨b,off+j,none⟩=some x:=by
 obtain⟨a,cap,rfl,_,_,h⟩:=h;rcases h with h | ⟨b,off,cs,T,fz,rfl,_,hh,hr⟩
 .have:=congrArg List.length h;rw[aL]at this;simp at this;subst this;simp at hne
 .refine⟨b,off,cap,by rw[aL],fun j x hx=>?_⟩;obtain⟨_,h2⟩:=hr j [.exact x] (by rw[dR,hx];rfl);rw[eG]at h2;cases hq:(cs.toList.drop (off+j)).take 1 with
  | nil=>rw[hq]at h2;exact h2.elim
  | cons u us=>
    rw[hq]at h2;have hu:u=x:=h2.1.1;subst hu;have h3:((cs.toList.drop (off+j)).take 1)[0]?=some u:=by rw[hq];rfl
    rw[List.getElem?_take_of_lt O,fG]at h3;exact bH hh (by simpa using h3)
noncomputable def cP:Code×Code:=match f202.body with
 | some (.seq _ (.seq (.seq _ (.block _ (.rangeFunc _ _ a b))) _))=>(a,b)
 | _=>(.skip,.skip)
def Hj(M:c6)(w:World)(gf:Nat)(lbI:iS)(rowsI:List (List (List aC)))(ts0 ts1:List (List aC))(u0 u1:Value)(b0 b1:Nat)(hnd:b0≠b1)
  (hI:Gen prog 46 3 gf lbI rowsI (fun _=>False) (fun k=>k∈[b0,b1]) M w) (hgf:∀args w,(callFunc gf args).run prog w=.ok (.enter gf args) w)
  (h0:dH 46 3 ts0 (fun k=>M k\/k∈[b0,b1]) w u0 b0) (h1:dH 46 3 ts1 (fun k=>M k\/k∈[b0,b1]) w u1 b1) (hM0:¬M b0) (hM1:¬M b1)
  (hF:bf (fun k=>M k\/k∈[b0,b1]) w) (p1 p2 mv:Value) (r1:(aC.aw [.exact (.func (.func gf) #[] lbI)]).rep (fun k=>M k\/k∈[b0,b1]) w p1) (r2:(aC.aw [.exact mv]).rep (fun k=>M k\/k∈[b0,b1]) w p2) (r3:(aC.slice 1 ([u0,u1].map fun v=>[.exact v])).rep (fun k=>M k\/k∈[b0,b1]) w mv) :
  Gen prog 46 3 202 #[p1,p2] (rowsI++[ts0,ts1]) (fun k=>k∈[b0,b1]) (fun k=>k∈[b0,b1]) M w:=by
 intro W σ Ms nx s0 l J hbW hMs hH hR hJ0;have hl0:=h0.lt;have hl1:=h1.lt;have hWs:=hbW.size
 have hk0:av (fun k=>M k\/k∈[b0,b1]) w (Mx (Ms s0) [b0,b1] W.heap.size) W:=fun b o hb ho _=>by
  have hlt:=(cJ.1 ho).1;exact⟨fun h=>h.elim (fun h=>hb (.inl (hMs b hlt h))) fun h=>h.elim (fun h=>O) (fun h=>hb (.inr h)),(hbW.block b hlt).trans ho⟩
 have r1':=aC.mono _ hk0 r1;have r2':=aC.mono _ hk0 r2;have r3':=aC.mono _ hk0 r3;have h0':=h0.mono hk0 (hbW.block b0 hl0);have h1':=h1.mono hk0 (hbW.block b1 hl1);have m0:¬Ms s0 b0:=fun h=>hM0 (hMs b0 hl0 h);have m1:¬Ms s0 b1:=fun h=>hM1 (hMs b1 hl1 h)
 have hk1:av (fun k=>M k\/k∈[b0,b1]) w (fun k=>Ms s0 k\/k∈[b0,b1]) W:=fun b o hb ho _=>by
  have hlt:=(cJ.1 ho).1;exact⟨fun h=>h.elim (fun h=>hb (.inl (hMs b hlt h))) (fun h=>hb (.inr h)),(hbW.block b hlt).trans ho⟩
 have hF1:bf (fun k=>Ms s0 k\/k∈[b0,b1]) W:=⟨fun k hk=>hk.elim (fun h=>(hH.yi hJ0).1 k h) (fun h=>by
  simp only[cp,iZ,iQ]at h;rcases h with rfl | rfl<;>omega),hF.2.dJ hk1⟩
 refine(bC (n:=1001)).1 ?_;refine rS func202 rfl trivial ?_ rfl;simp only[ntmps202,cq,bB,bu,Nat.reduceAdd,Nat.reduceSub,eE,eF,eJ,eI,List.nil_append,List.cons_append];have hone:(Value.func (.yield l) #[] #[]).oneCell'=true:=rfl;refine cn (dK.2 (bV jN.wp (n0:=W.heap.size) (N:=24) (ins:=[(0,.v none)]) (xs:=[.v (.one (.exact (.func (.yield l) #[] #[])))]) fo ⟨rfl,trivial⟩ (tg (bE9 _)) aS (ah _) hF1 rfl rfl ⟨⟨rfl,hone⟩,trivial⟩ ?_));intro a1 w1 us1 hag1 hb1 hsz1 hdf1 hr1 hrep1;have hus:=bA hr1;subst hus;have k0:=aO hag1 0 aS;have k1:=aO hag1 1 aS;have k2:=aO hag1 2 aS;change a1.tmps.getD 0 undef=.func (.yield l) #[] #[]at k0;change a1.tmps.getD 1 undef=p1 at k1;change a1.tmps.getD 2 undef=p2 at k2;have t3:(aC.aw [.exact (.func (.yield l) #[] #[])]).rep (fun k=>Ms s0 k\/k∈[b0,b1]) w1 (a1.tmps.getD 3 undef):=hrep1.1;have hJ1:=hH.below hJ0 (ah _) hb1;have tI:=hb1.size
 have r1a:(aC.aw [.exact (.func (.func gf) #[] lbI)]).rep (Ms s0) w1 (a1.tmps.getD 1 undef):=by
  rw[k1];refine aC.mono _ (fun b o hb ho _=>?_) r1';have hlt:=(cJ.1 ho).1;exact⟨fun h=>hb (.inl h),(hb1.block b hlt).trans ho⟩
 show Code.wpIn _ _ _ _ _ _ _;refine cn (cn (dK.2 (bV jN.wp (n0:=w1.heap.size) (N:=24) (ins:=[(1,.ref 1)]) (xs:=[.ref [.exact (.func (.func gf) #[] lbI)]]) fo ⟨rfl,trivial⟩ (tg (bD5 _)) aS (ah _) (hH.yi hJ1) hsz1 hdf1 ⟨r1a,trivial⟩ ?_)));intro a2 w2 us2 hag2 hb2 hsz2 hdf2 hr2 hrep2;have hus:=bA hr2;subst hus;have hJ2:=hH.below hJ1 O hb2;have oz:=hb2.size;have e0:=(aO hag2 0 aS).trans k0;have e1:=(aO hag2 1 aS).trans k1;have e2:=(aO hag2 2 aS).trans k2;have e3:=aO hag2 3 aS;have e7:a2.tmps.getD 7 undef=.func (.func gf) #[] lbI:=hrep2.1.1;generalize hp3:a1.tmps.getD 3 undef=p3 at t3 e3;have hW2:∀j,j<W.heap.size->w2.heap[j]?=W.heap[j]?:=fun j hj=>(hb2.block j O).trans (hb1.block j hj)
 have hkx:av (Mx (Ms s0) [b0,b1] W.heap.size) W (Mx (Ms s0) [b0,b1] w2.heap.size) w2:=fun b o hb ho _=>by
  have hlt:=(cJ.1 ho).1;exact⟨fun h=>h.elim (fun h=>hb (.inl h)) fun h=>h.elim (fun h=>O) (fun h=>hb (.inr (.inr h))),(hW2 b hlt).trans ho⟩
 have hk3:av (fun k=>Ms s0 k\/k∈[b0,b1]) w1 (Mx (Ms s0) [b0,b1] w2.heap.size) w2:=fun b o hb ho _=>by
  have hlt:=(cJ.1 ho).1;exact⟨fun h=>h.elim (fun h=>hb (.inl h)) fun h=>h.elim (fun h=>O) (fun h=>hb (.inr h)),(hb2.block b hlt).trans ho⟩
 have q3:=aC.mono _ hk3 t3;have q2:=aC.mono _ hkx r2';have qm:=aC.mono _ hkx r3';have g0:=h0'.mono hkx (hW2 b0 O);have g1:=h1'.mono hkx (hW2 b1 O);have kp2:Kp (fun k=>Ms s0 k\/k∈[b0,b1]) W (Ms s0) w2:=((Kp.below hb1).br5 fun k hk=>.inl hk).trans (Kp.below hb2);have hlt2:∀k,Ms s0 k->k<w2.heap.size:=fun k hk=>(hH.yi hJ2).1 k hk;obtain⟨t2,d2⟩:=a2;dsimp only at hsz2 hdf2 e0 e1 e2 e3 e7;subst hdf2;clear hag2 hr2 hrep2 hag1 hr1 hrep1 hJ0 hJ1 k0 k1 k2 t3 r1a r1 r2 r3 r1' r2' r3' h0 h1 h0' h1' hk0 hk1 hkx hk3 hF1;rw[cf7 t2 hsz2,e0,e1,e2,e3,e7];generalize t2.getD 4 undef=y4;generalize t2.getD 5 undef=y5;generalize t2.getD 6 undef=y6;generalize t2.getD 8 undef=y8;generalize t2.getD 9 undef=y9;generalize t2.getD 10 undef=y10;generalize t2.getD 11 undef=y11;generalize t2.getD 12 undef=y12;generalize t2.getD 13 undef=y13;generalize t2.getD 14 undef=y14;generalize t2.getD 15 undef=y15;generalize t2.getD 16 undef=y16;generalize t2.getD 17 undef=y17;generalize t2.getD 18 undef=y18;generalize t2.getD 19 undef=y19;generalize t2.getD 20 undef=y20;generalize t2.getD 21 undef=y21;generalize t2.getD 22 undef=y22;generalize t2.getD 23 undef=y23;clear e0 e1 e2 e3 e7 hsz2 t2 hp3;obtain⟨n2,hn2⟩:∃n2,n2=w2.heap.size:=⟨_,rfl⟩
 show Code.wpIn _ _ _ _ _ _ _;refine pT ?_;refine XS rfl O (gf:=gf) (lb:=lbI) rfl trivial hgf ?_;intro fn D l2 W1 hfn hD hl hsz1' hbl1 hK1 hL1;subst hD hl;rw[<-hn2]at q3 q2 qm g0 g1 hsz1' hbl1 hK1 hL1|-;obtain⟨tm,htm,hLr⟩:∃tm:Array Value,tm=#[.func (.yield l) #[] #[],p1,p2,p3,y4,y5,y6,.func (.func gf) #[] lbI,y8,y9,y10,y11,y12,y13,y14,y15,y16,y17,y18,y19,y20,y21,y22,y23]/\W1.heap[n2+1]?=some (.loop (iz fn tm #[8] cP.1 cP.2 n2 .ready none)):=⟨_,rfl,hL1⟩
 obtain⟨yl,hyl⟩:∃yl:Value,yl=.func (.yield l) #[] #[]:=⟨_,rfl⟩
 rw[<-hyl]at q3;have hW1:∀j,j<n2->W1.heap[j]?=w2.heap[j]?:=fun j hj=>hbl1.block j hj
 have hbel:Below w.heap.size w W1:=by
  refine hbW.trans ⟨?_,?_,?_,O,fun j hj=>?_⟩
  .exact hbl1.os.trans kp2.os
  .exact hbl1.tape.trans kp2.tape
  .exact hbl1.output.trans kp2.output
  .exact(hW1 j O).trans (hW2 j O)
 have hkl:av (Mx (Ms s0) [b0,b1] n2) w2 (Mx (Ms s0) [b0,b1] n2) W1:=fun b o hb ho _=>by
  have hlt:=(cJ.1 ho).1;exact⟨hb,(hW1 b O).trans ho⟩
 have hbl1':Below w2.heap.size w2 W1:=by rw[<-hn2];exact hbl1
 obtain⟨N,hN⟩:∃N:Nat->Prop,∀k,N k↔Ms s0 k\/k∈[b0,b1]:=⟨_,fun _=>mZ⟩
 replace kp2:Kp N W (Ms s0) w2:=kp2.br5 fun k hk=>(hN k).2 hk
 have w0:WJ n2 (.loop (iz fn tm #[8] cP.1 cP.2 n2 .ready none)) N W yl mv p2 p3 [u0,u1] [b0,b1] 46 3 [ts0,ts1] 0 (Ms s0) W1:=by
  refine⟨O,hK1,hLr,fun h=>by have:=hlt2 _ h;omega,fun h=>by have:=hlt2 _ h;omega,aC.mono _ hkl q3,aC.mono _ hkl q2,aC.mono _ hkl qm,fun j v b ts _ hv hb ht=>?_,kp2.trans (Kp.below hbl1')⟩
  match j,hv,hb,ht with
  | 0,hv,hb,ht=>simp at hv hb ht;subst hv hb ht;exact⟨O,m0,g0.mono hkl (hW1 _ O)⟩
  | 1,hv,hb,ht=>simp at hv hb ht;subst hv hb ht;exact⟨O,m1,g1.mono hkl (hW1 _ O)⟩
  | j+2,hv,_,_=>simp at hv
 have hWn:W.heap.size<=n2:=O
 refine(bC.2 (hI W1 Ms nx s0 (n2+1) (fun i s W'=>J i s W'/\WJ n2 (.loop (iz fn tm #[8] cP.1 cP.2 n2 .ready none)) N W yl mv p2 p3 [u0,u1] [b0,b1] 46 3 [ts0,ts1] 0 (Ms s) W') hbel (fun k hk hm=>hMs k hk hm)
  ⟨fun h=>hH.yi h.1,fun h=>hH.near h.1,fun h hg hm hc hb=>⟨hH.grow h.1 O hm hc hb,h.2.grow hWn O hb⟩⟩ ?hR2 ⟨hH.below hJ2 O hbl1',w0⟩)).mono ?_
 case hR2=>
  rintro i s W' v b ts hts ⟨hJ,hw⟩ hrow hoff hbb;obtain⟨hbn,hbx⟩:n2+2<=b/\nx s<=b:=hbb.elim (fun h=>⟨O,h.2⟩) (fun h=>h.elim);refine YieldAt.imp (WH (F:=Fence.wide) (m:=999) (R:=fun bb c W''=>bb=true/\∃s',(J (i+1) s' W''/\WJ n2 (.loop (iz fn tm #[8] cP.1 cP.2 n2 .ready none)) N W yl mv p2 p3 [u0,u1] [b0,b1] 46 3 [ts0,ts1] 0 (Ms s') W'')/\Kp (Mb (Ms s) b) W' (Ms s') W'') hw.hl rfl trivial ?_) ?_
  rotate_left
  .rintro e W'' ⟨bb,c,rfl,rfl,h⟩;exact⟨rfl,h⟩
  rw[show(#[8].zip #[v]).foldl (fun t (p,v)=>t.setIfInBounds p v) tm=#[.func (.yield l) #[] #[],p1,p2,p3,y4,y5,y6,.func (.func gf) #[] lbI,v,y9,y10,y11,y12,y13,y14,y15,y16,y17,y18,y19,y20,y21,y22,y23] by rw[htm];simp];dsimp only[cP,f202];have hvone:=hrow.one;clear hbl1 hbl1' hsz1' hlt2 q3 q2 qm g0 g1 hkl w0 hbel hWs hLr hK1 hL1 hW1 hW2 kp2 hJ2;obtain⟨n2a,n2b⟩:n2<=w2.heap.size/\w2.heap.size<=n2:=O
  clear hn2;subst htm
  gi_wp2
  refine⟨hw.hl,?_⟩;have hwb:=hw.ZP hWn (.loop (iz fn #[.func (.yield l) #[] #[],p1,p2,p3,y4,y5,y6,.func (.func gf) #[] lbI,y8,y9,y10,y11,y12,y13,y14,y15,y16,y17,y18,y19,y20,y21,y22,y23] #[8] cP.1 cP.2 n2 .busy none));have hJb:=hH.grow hJ (g:=n2+1) O hw.nl (fun o ho=>by rw[hw.hl]at ho;cases ho;rfl) (Cy W' (n2+1) (.loop (iz fn #[.func (.yield l) #[] #[],p1,p2,p3,y4,y5,y6,.func (.func gf) #[] lbI,y8,y9,y10,y11,y12,y13,y14,y15,y16,y17,y18,y19,y20,y21,y22,y23] #[8] cP.1 cP.2 n2 .busy none)))
  have hrowb:=hrow.other (W':=W'.putObj (n2+1) (.loop (iz fn #[.func (.yield l) #[] #[],p1,p2,p3,y4,y5,y6,.func (.func gf) #[] lbI,y8,y9,y10,y11,y12,y13,y14,y15,y16,y17,y18,y19,y20,y21,y22,y23] #[8] cP.1 cP.2 n2 .busy none))) (fun j o ho hc=>mE fun e=>by
   rw[e,hw.hl]at ho;cases ho;cases hc)
  have hsb:(W'.putObj (n2+1) (.loop (iz fn #[.func (.yield l) #[] #[],p1,p2,p3,y4,y5,y6,.func (.func gf) #[] lbI,y8,y9,y10,y11,y12,y13,y14,y15,y16,y17,y18,y19,y20,y21,y22,y23] #[8] cP.1 cP.2 n2 .busy none))).heap.size=W'.heap.size:=qU;have hob:∀j,j≠n2+1->(W'.putObj (n2+1) (.loop (iz fn #[.func (.yield l) #[] #[],p1,p2,p3,y4,y5,y6,.func (.func gf) #[] lbI,y8,y9,y10,y11,y12,y13,y14,y15,y16,y17,y18,y19,y20,y21,y22,y23] #[8] cP.1 cP.2 n2 .busy none))).heap[j]?=W'.heap[j]?:=fun j hj=>mE hj;have hosb:(W'.putObj (n2+1) (.loop (iz fn #[.func (.yield l) #[] #[],p1,p2,p3,y4,y5,y6,.func (.func gf) #[] lbI,y8,y9,y10,y11,y12,y13,y14,y15,y16,y17,y18,y19,y20,y21,y22,y23] #[8] cP.1 cP.2 n2 .busy none))).os=W'.os/\(W'.putObj (n2+1) (.loop (iz fn #[.func (.yield l) #[] #[],p1,p2,p3,y4,y5,y6,.func (.func gf) #[] lbI,y8,y9,y10,y11,y12,y13,y14,y15,y16,y17,y18,y19,y20,y21,y22,y23] #[8] cP.1 cP.2 n2 .busy none))).tape=W'.tape/\(W'.putObj (n2+1) (.loop (iz fn #[.func (.yield l) #[] #[],p1,p2,p3,y4,y5,y6,.func (.func gf) #[] lbI,y8,y9,y10,y11,y12,y13,y14,y15,y16,y17,y18,y19,y20,y21,y22,y23] #[8] cP.1 cP.2 n2 .busy none))).output=W'.output:=⟨rfl,rfl,rfl⟩
  dsimp only[cP,f202]at hwb hJb hrowb hsb hob hosb;generalize W'.putObj (n2+1) _=Wb at hwb hJb hrowb hsb hob hosb|-;obtain⟨b3,o3,hp3,c3⟩:=sD (j:=0) hwb.q3 rfl;have hY:=YieldAt.any (m':=998) (n2+1) (hR i s Wb v b ts (by rw[ek (cL.1 hts).1];exact hts) hJb hrowb hoff (.inl ⟨O,hbx⟩));rw[cV]at c3;subst hp3 hyl
  gi_wp2
  obtain⟨fnr,tmr,asr,bdr,hy,hRd⟩:=hY;rw[hy];refine⟨(fun h=>by cases h),?_⟩;refine hRd.mono ?_;rintro e W5 ⟨rfl,s',hJ5,kp5⟩;have hw5:=hwb.step (fr':=0) O O (.inl O) (.inl O) (ah _) (fun j b' _ hb' hlt=>O) kp5;have hs5:=kp5.size;clear hRd hy hrowb hwb hJb c3
  gi_wp2
  refine⟨hw5.hl,rfl,s',⟨hH.grow hJ5 (g:=n2+1) O hw5.nl (fun o ho=>by rw[hw5.hl]at ho;cases ho;rfl) (Cy W5 (n2+1) _),hw5.ZP hWn _⟩,?_⟩;refine⟨kp5.os.trans ?_,kp5.tape.trans ?_,kp5.output.trans ?_,by rw[qU];omega,fun k hk hm=>?_⟩
  .exact hosb.1
  .exact hosb.2.1
  .exact hosb.2.2
  .obtain⟨h1,h2⟩:=kp5.same k O hm;refine⟨h1,?_⟩;by_cases hkl:k=n2+1
   .subst hkl;rw[BV O];exact hw.hl.symm
   .exact(mE hkl).trans (h2.trans (hob k hkl))
 rintro e W2 ⟨hv,s1,⟨hJ,hw⟩,_⟩;clear hbl1 hbl1' hsz1' hlt2 q3 q2 qm g0 g1 hkl w0 hbel hLr hK1 hL1 hW1 hW2 kp2 hJ2 hI;obtain⟨n2a,n2b⟩:n2<=w2.heap.size/\w2.heap.size<=n2:=O
 clear hn2;subst htm;refine⟨hv,.inl ⟨hw.hl,?_⟩⟩;have hwe:=hw.ZP hWn (.loop (iz fn #[.func (.yield l) #[] #[],p1,p2,p3,y4,y5,y6,.func (.func gf) #[] lbI,y8,y9,y10,y11,y12,y13,y14,y15,y16,y17,y18,y19,y20,y21,y22,y23] #[8] cP.1 cP.2 n2 .exhausted none));have hJe:=hH.grow hJ (g:=n2+1) O hw.nl (fun o ho=>by rw[hw.hl]at ho;cases ho;rfl) (Cy W2 (n2+1) (.loop (iz fn #[.func (.yield l) #[] #[],p1,p2,p3,y4,y5,y6,.func (.func gf) #[] lbI,y8,y9,y10,y11,y12,y13,y14,y15,y16,y17,y18,y19,y20,y21,y22,y23] #[8] cP.1 cP.2 n2 .exhausted none)));show Code.wpIn _ _ _ _ _ _ (W2.putObj (n2+1) (.loop (iz fn #[.func (.yield l) #[] #[],p1,p2,p3,y4,y5,y6,.func (.func gf) #[] lbI,y8,y9,y10,y11,y12,y13,y14,y15,y16,y17,y18,y19,y20,y21,y22,y23] #[8] cP.1 cP.2 n2 .exhausted none)));obtain⟨lo,hlo⟩:∃lo:Obj,lo=(.loop (iz fn #[.func (.yield l) #[] #[],p1,p2,p3,y4,y5,y6,.func (.func gf) #[] lbI,y8,y9,y10,y11,y12,y13,y14,y15,y16,y17,y18,y19,y20,y21,y22,y23] #[8] cP.1 cP.2 n2 .exhausted none)):=⟨_,rfl⟩
 rw[<-hlo]at hwe hJe|-;clear hlo hw hJ hv;generalize W2.putObj (n2+1) lo=W3 at hwe hJe|-;obtain⟨b3,o3,hp3,c3⟩:=sD (j:=0) hwe.q3 rfl;obtain⟨b2,o2,hp2,c2⟩:=sD (j:=0) hwe.q2 rfl;obtain⟨bm,om,cap,hmv,cm⟩:=zq hwe.qm aT;rw[cV]at c3 c2;subst hp3 hp2 hyl hmv;have hlen2:([u0,u1]:List Value).length=2:=rfl;rw[hlen2]at hwe c2;clear hlen2;have cm0:=cm 0 u0 rfl;have cm1:=cm 1 u1 rfl;rw[cV]at cm0;clear cm
 gi_wp2
 refine rh (fun j a' W'=>∃(k:Nat)(s:σ)(x6 x16 x17 x18 x19 x20 x21 x22 x23:Value),j=2-k/\k<=2/\a'=⟨#[.func (.yield l) #[] #[],p1,.pointer (some ⟨b2,o2,none⟩),.pointer (some ⟨b3,o3,none⟩),y4,y5,x6,.func (.func gf) #[] lbI,y8,y9,y10,y11,y12,.slice (some ⟨bm,om,none⟩) 2 cap,.int .i64 2,.int .i64 (k:Int),x16,x17,x18,x19,x20,x21,x22,x23],[{ target:=.collected n2,args:=#[] }]⟩/\J (rowsI.length+k) s W'/\WJ n2 lo N W (.func (.yield l) #[] #[]) (.slice (some ⟨bm,om,none⟩) 2 cap) (.pointer (some ⟨b2,o2,none⟩)) (.pointer (some ⟨b3,o3,none⟩)) [u0,u1] [b0,b1] 46 3 [ts0,ts1] k (Ms s) W') 2 ⟨0,s1,y6,y16,y17,y18,y19,y20,y21,y22,y23,rfl,O,rfl,hJe,hwe⟩ ?round
 case round=>
  rintro j a' W' ⟨k,s,x6,x16,x17,x18,x19,x20,x21,x22,x23,rfl,hk2,rfl,hJ,hw⟩;obtain⟨b3',o3',hp3,c3⟩:=sD (j:=0) hw.q3 rfl;obtain⟨bm',om',cap',hmv,cm⟩:=zq hw.qm aT;cases hp3;cases hmv;rw[cV]at c3;have hbig:=hw.big;obtain rfl | rfl | rfl:k=0\/k=1\/k=2:=O
  .have cm0:=cm 0 u0 rfl;rw[cV]at cm0;clear cm;obtain⟨hlt,hnb,hri⟩:=hw.qr 0 u0 b0 ts0 O rfl rfl rfl;have hra:=hri.less (N':=fun k=>Ms s k\/k∈[b0,b1]\/k=b0) (fun k hk=>hk.elim .inl fun e=>.inr (.inr (e.elim id fun e=>by rw[e];simp)));have hY:=YieldAt.plain (m':=1000) (hR (rowsI.length+0) s W' u0 b0 ts0 aT hJ hra hnb (.inr aT));have hone0:=hra.one
   gi_wp2
   obtain⟨fnr,tmr,asr,bdr,hy,hRd⟩:=hY;rw[hy];refine⟨(fun h=>by cases h),?_⟩;refine hRd.mono ?_;rintro e W5 ⟨rfl,s',hJ5,kp5⟩
   have hw5:=hw.step (fr':=1) O O (.inr aT) (.inr ((hN _).2 (.inr aT))) O (fun j b' hj hb' hlt'=>by
    match j,hj,hb' with
    | 1,_,hb'=>simp at hb';rw[<-hb'];exact fun e=>hnd e.symm
    | j+2,_,hb'=>simp at hb') kp5
   clear hRd hy hra hri hw hJ c3 cm0 hone0
   gi_wp2
   exact⟨2-1,O,1,s',_,_,_,_,_,_,_,_,_,rfl,O,rfl,hJ5,hw5⟩
  .have cm1:=cm 1 u1 rfl;clear cm;obtain⟨hlt,hnb,hri⟩:=hw.qr 1 u1 b1 ts1 O rfl rfl rfl;have hra:=hri.less (N':=fun k=>Ms s k\/k∈[b0,b1]\/k=b1) (fun k hk=>hk.elim .inl fun e=>.inr (.inr (e.elim id fun e=>by rw[e];simp)));have hY:=YieldAt.plain (m':=1000) (hR (rowsI.length+1) s W' u1 b1 ts1 aT hJ hra hnb (.inr aT));have hone0:=hra.one
   gi_wp2
   obtain⟨fnr,tmr,asr,bdr,hy,hRd⟩:=hY;rw[hy];refine⟨(fun h=>by cases h),?_⟩;refine hRd.mono ?_;rintro e W5 ⟨rfl,s',hJ5,kp5⟩
   have hw5:=hw.step (fr':=2) O O (.inr aT) (.inr ((hN _).2 (.inr aT))) O (fun j b' hj hb' hlt'=>by
    match j,hj,hb' with
    | j+2,_,hb'=>simp at hb') kp5
   clear hRd hy hra hri hw hJ c3 cm1 hone0
   gi_wp2
   exact⟨2-2,O,2,s',_,_,_,_,_,_,_,_,_,rfl,O,rfl,hJ5,hw5⟩
  .clear cm;have hJD:=hH.grow hJ (g:=n2) O hw.nD (fun o ho=>by rw[hw.hD]at ho;cases ho;rfl) (Cy W' n2 (.deferred none));have hD:=hw.hD;have kp:=hw.kp;clear hw hJ c3
   gi_wp2
   refine⟨aT,.inl ⟨_,_,rfl,sV hD,?_⟩⟩;refine⟨_,BZ rfl _ _ _,⟨_,rfl⟩,s,by rw[cF];exact hJD,?_⟩;have kp':=kp.br5 (N:=fun k=>Ms s0 k\/k∈[b0,b1]) fun k hk=>(hN k).1 hk;refine⟨kp'.os,kp'.tape,kp'.output,by rw[qU];exact kp'.size,fun k hk hm=>?_⟩;obtain⟨h1,h2⟩:=kp'.same k hk hm;exact⟨h1,(mE O).trans h2⟩
end Go.Sy
namespace Go.Sy
open Go Go.Proofs Go.RowKit Tryz Ord
attribute [local go_sem] Oper.semAt_some
def elW:dZ prog 197=some (28,1,24):=aS
def ap1{F:Fence}{nF:Nat}{ops:j7}{rest:j8}{o:Oper}{a:Act}{Q:iN}{w:World}(hgd:o.guard=none)(s x:j6)
  (ho:o.op=.call { callee:=.builtin .append,args:=#[s,x],argTypes:=#[197,197] }) (base:Nat) (v:Value) (k:Nat) (xs:j0) (hs:a.eval s=v) (hown:w.ownsRow base 28 1 v k xs) (b c:Nat) (u:Value) {fz:Nat×Nat}
  (hb:w.heap[b]?=some (.cells #[u] 28 fz)) (hx:a.eval x=.slice (some ⟨b,0,none⟩) 1 c) (h1:u.oneCell'=true) (hbase:base<=w.heap.size)
  (h:∀v' w',w'.ownsRow base 28 1 v' (k+1) (xs++[u])->w.grownBy w' v.ownBlock->(v'.ownBlock=v.ownBlock\/v'.ownBlock=some w.heap.size)->wpListIn F nF prog ops Q rest (a.put o.dst v') w') (hk:k<1099511627776:=by omega) :
  wpListIn F nF prog ops Q (o::rest) a w:=by
 obtain⟨ie,hu,hie,hies,hieb⟩:=br elW;obtain⟨ie',zv,hi,hz,hzc,_,hzs⟩:=ed (show jm prog 28=some [.slice none 0 0] by kernel_rfl);rw[hie]at hi;simp only[aZ]at hi;subst hi;refine al4 w hgd s x 197 ho base 28 ie zv 1 24 hu hie hz hies hieb (by rw[hzs,hies]) bY v k xs hs hown ⟨b,0,none⟩ 1 c [u] hx rfl ?_ (by simpa using h1) (by simp only[maxLen];omega) O hbase (fun v' w' h2 h3 _ h5=>h v' w' h2 h3 h5);intro j u' hj
 match j,hj with
 | 0,hj=>simp at hj;subst hj;exact bH hb rfl
abbrev As(M:c6)(n0:Nat)(va:Value)(bs:c7)(k:Nat):Prop:=M k\/k=n0\/va.ownBlock=some k\/k∈bs
structure AJ(M S:c6)(w:World)(lo:Obj)(rows:List (List (List aC)))(i nv:Nat)(va:Value)(vs:j0)(bs:c7)(W:World):Prop where
 near:nv<=W.heap.size
 big:w.heap.size+3<=W.heap.size
 wos:W.os=w.os/\W.tape=w.tape/\W.output=w.output
 old:∀k,k<w.heap.size->¬S k->W.heap[k]?=w.heap[k]?
 hO:W.heap[w.heap.size]?=some (.cells #[va] 197 (0,0))
 hD:W.heap[w.heap.size+1]?=some (.deferred (some []))
 hl:W.heap[w.heap.size+2]?=some lo
 own:W.ownsRow (w.heap.size+3) 28 1 va i vs
 lb:bs.length=i
 nd:bs.Nodup
 row:∀(j:Nat)(v:Value)(b:Nat)(ts:List (List aC)),vs[j]?=some v->bs[j]?=some b->rows[j]?=some ts->dH 46 3 ts (fun k=>As M w.heap.size va bs k\/S k\/nv<=k) W v b
 vb:∀b∈bs,va.ownBlock≠some b
 bl:∀b∈bs,w.heap.size+3<=b\/S b
 bc:∀b∈bs,∃o:Obj,W.heap[b]?=some o/\o.isCells=true
section
variable{M S:c6}{w:World}{lo lo':Obj}{rows:List (List (List aC))}{i nv:Nat}{va:Value}{vs:j0}{bs:c7}{W W':World}
def AJ.len(h:AJ M S w lo rows i nv va vs bs W):vs.length=i:=by have:=h.own.1;omega
def AJ.blt(h:AJ M S w lo rows i nv va vs bs W){b:Nat}(hb:b∈bs):b<W.heap.size:=by
 obtain⟨o,ho,_⟩:=h.bc b hb;exact(cJ.1 ho).1
def AJ.vlt(h:AJ M S w lo rows i nv va vs bs W){g:Nat}(hg:va.ownBlock=some g):w.heap.size+3<=g/\g<W.heap.size:=h.own.lt g hg
def AJ.yi(h:AJ M S w lo rows i nv va vs bs W)(hM:bf (fun k=>M k\/S k) w):bf (As M w.heap.size va bs) W:=by
 have hbig:=h.big;refine⟨fun k hk=>?_,fun x hx=>?_⟩
 .rcases hk with hk | hk | hk | hk
  .have:=hM.1 k (.inl hk);omega
  .omega
  .exact(h.vlt hk).2
  .exact h.blt hk
 .obtain⟨h1,T,fz,h2⟩:=hM.2 x hx;have hlt:=(cJ.1 h2).1;refine⟨?_,T,fz,(h.old _ hlt fun hs=>h1 (.inr hs)).trans h2⟩;rintro(hk | hk | hk | hk)
  .exact h1 (.inl hk)
  .omega
  .have:=(h.vlt hk).1;omega
  .exact(h.bl _ hk).elim (fun h=>O) (fun hs=>h1 (.inr hs))
def AJ.same(h:AJ M S w lo rows i nv va vs bs W)(hs:W.heap.size<=W'.heap.size)(hos:W'.os=W.os/\W'.tape=W.tape/\W'.output=W.output)(hk:∀(k:Nat)(o:Obj),W.heap[k]?=some o->o.isCells=true->W'.heap[k]?=W.heap[k]?)(hlow:∀k,k<w.heap.size->W'.heap[k]?=W.heap[k]?)(hD:W'.heap[w.heap.size+1]?=some (.deferred (some [])))(hl:W'.heap[w.heap.size+2]?=some lo'):AJ M S w lo' rows i nv va vs bs W':=by
 have hbig:=h.big;have hwos:=h.wos;refine⟨by have:=h.near;omega,O,⟨hos.1.trans hwos.1,hos.2.1.trans hwos.2.1,hos.2.2.trans hwos.2.2⟩,fun k hk2 hn=>(hlow k hk2).trans (h.old k hk2 hn),(hk _ _ h.hO rfl).trans h.hO,hD,hl,?_,h.lb,h.nd,fun j v b ts hv hb ht=>?_,h.vb,h.bl,fun b hb=>?_⟩
 .refine⟨h.own.1,?_⟩;rcases h.own.2 with hn | ⟨g,cap,cur,e,hbg,hg,rest⟩
  .exact .inl hn
  .exact .inr ⟨g,cap,cur,e,hbg,(hk g _ hg rfl).trans hg,rest⟩
 .have h1:=h.row j v b ts hv hb ht;obtain⟨o,ho,hc⟩:=h.bc b (dc hb);exact h1.mono (fun k o hm ho hc=>⟨hm,(hk k o ho hc).trans ho⟩) (hk b o ho hc)
 .obtain⟨o,ho,hc⟩:=h.bc b hb;exact⟨o,(hk b o ho hc).trans ho,hc⟩
def AJ.grow(h:AJ M S w lo rows i nv va vs bs W){g:Nat}(hg:w.heap.size+3<=g)(hc:∀o:Obj,W.heap[g]?=some o->o.isCells=false)(hb:W.grownBy W' (some g)):AJ M S w lo rows i nv va vs bs W':=by
 have hbig:=h.big;have hs:∀k,k<W.heap.size->k≠g->W'.heap[k]?=W.heap[k]?:=fun k hk hne=>hb.block k hk fun e=>hne (cI e);refine h.same hb.size ⟨hb.os,hb.tape,hb.output⟩ (fun k o ho hco=>hs k (cJ.1 ho).1 fun e=>?_) (fun k hk=>hs k O O) ((hs _ O O).trans h.hD) ((hs _ O O).trans h.hl);subst e;rw[hc o ho]at hco;cases hco
def AJ.ZP(h:AJ M S w lo rows i nv va vs bs W)(hlo:lo.isCells=false)(lo':Obj):AJ M S w lo' rows i nv va vs bs (W.putObj (w.heap.size+2) lo'):=by
 have hbig:=h.big;have hp:∀j,j≠w.heap.size+2->(W.putObj (w.heap.size+2) lo').heap[j]?=W.heap[j]?:=fun j hj=>mE hj;refine h.same (by rw[qU];exact ah _) ⟨rfl,rfl,rfl⟩ (fun k o ho hc=>hp k fun e=>?_) (fun k hk=>hp k O) ((hp _ O).trans h.hD) (BV O);subst e;rw[h.hl]at ho;cases ho;rw[hlo]at hc;cases hc
def AJ.app(h:AJ M S w lo rows i nv va vs bs W)(hS:∀k,S k->k<w.heap.size/\¬M k)(hMw:∀k,M k->k<w.heap.size){v:Value}{b:Nat}{ts:List (List aC)}(hts:rows[i]?=some ts)(hr:dH 46 3 ts (fun k=>As M w.heap.size va bs k\/S k\/k=b) W v b)(hoff:¬As M w.heap.size va bs b)(hbb:(w.heap.size+3<=b/\nv<=b)\/S b){v':Value}{w3:World}
  (hv3:w3.ownsRow (w.heap.size+3) 28 1 v' (i+1) (vs++[v])) (hg3:(W.alloc (.cells #[v] 28)).grownBy w3 va.ownBlock) (hat:v'.ownBlock=va.ownBlock\/v'.ownBlock=some (W.alloc (.cells #[v] 28)).heap.size) (hlo:lo.isCells=false) :
  AJ M S w lo rows (i+1) (w3.setCell ⟨w.heap.size,0,none⟩ v').heap.size v' (vs++[v]) (bs++[b]) (w3.setCell ⟨w.heap.size,0,none⟩ v')/\Kp (Mb (As M w.heap.size va bs) b) W (As M w.heap.size v' (bs++[b])) (w3.setCell ⟨w.heap.size,0,none⟩ v'):=by
 have hbig:=h.big;have hblt:=hr.lt;have hwos:=h.wos;have hsz3:W.heap.size+1<=w3.heap.size:=by have:=hg3.size;rw[cz]at this;exact this
 have hszc:(w3.setCell ⟨w.heap.size,0,none⟩ v').heap.size=w3.heap.size:=by have:=(PQ w3 w.heap.size v');exact xk (by simp[World.setCell]) this.size
 have h3:∀j,j<W.heap.size->va.ownBlock≠some j->w3.heap[j]?=W.heap[j]?:=fun j hj hne=>(hg3.block j (by rw[cz];omega) fun e=>hne e.symm).trans (dB _ _ _ hj);have h4:∀j,j<W.heap.size->va.ownBlock≠some j->j≠w.heap.size->(w3.setCell ⟨w.heap.size,0,none⟩ v').heap[j]?=W.heap[j]?:=fun j hj hne hno=>((PQ w3 w.heap.size v').block j O fun e=>hno (cI e)).trans (h3 j hj hne);have hvo:va.ownBlock≠some w.heap.size:=fun e=>by have:=(h.vlt e).1;omega
 have hv'lt:∀g,v'.ownBlock=some g->w.heap.size+3<=g/\(g<W.heap.size->va.ownBlock=some g):=fun g hg=>⟨(hv3.lt g hg).1,fun hlt=>by
  rcases hat with e | e
  .rw[<-e];exact hg
  .rw[e,cz]at hg;have:=cI hg;omega⟩
 have hbn:b≠w.heap.size:=fun e=>hoff (.inr (.inl e));have hbv:va.ownBlock≠some b:=fun e=>hoff (.inr (.inr (.inl e)));have hbs:b ∉ bs:=fun e=>hoff (.inr (.inr (.inr e)))
 have hkp:Kp (Mb (As M w.heap.size va bs) b) W (As M w.heap.size v' (bs++[b])) (w3.setCell ⟨w.heap.size,0,none⟩ v'):=by
  refine⟨hg3.os,hg3.tape,hg3.output,O,fun k hk hm=>?_⟩;have m1:¬M k:=fun e=>hm (.inl (.inl e));have m2:k≠w.heap.size:=fun e=>hm (.inl (.inr (.inl e)));have m3:va.ownBlock≠some k:=fun e=>hm (.inl (.inr (.inr (.inl e))));have m4:k ∉ bs:=fun e=>hm (.inl (.inr (.inr (.inr e))));have m5:k≠b:=fun e=>hm (.inr e);refine⟨?_,h4 k hk m3 m2⟩;rintro(e | e | e | e)
  .exact m1 e
  .exact m2 e
  .exact m3 ((hv'lt k e).2 hk)
  .rcases dx.1 e with e | e
   .exact m4 e
   .exact m5 (da.1 e)
 have hcell:∀(j:Nat),j<W.heap.size->j∈bs\/j=b->(w3.setCell ⟨w.heap.size,0,none⟩ v').heap[j]?=W.heap[j]?:=fun j hj hjb=>by
  refine h4 j hj ?_ ?_
  .rcases hjb with hjb | rfl
   .exact h.vb j hjb
   .exact hbv
  .rcases hjb with hjb | rfl
   .exact fun e=>(h.bl j hjb).elim (fun h=>O) fun h=>by have:=(hS j h).1;omega
   .exact hbn
 have hvl:=h.len;have hbl:=h.lb;have hke:=hkp.dJ;refine⟨⟨ah _,O,⟨hg3.os.trans hwos.1,hg3.tape.trans hwos.2.1,hg3.output.trans hwos.2.2⟩,fun k hk hn=>?_,?_,?_,?_,?_,by rw[cF,hbl];rfl,?_,?_,?_,?_,?_⟩,hkp⟩
 .exact(h4 k O (fun e=>by have:=(h.vlt e).1;omega) O).trans (h.old k hk hn)
 .have h3o:=(h3 w.heap.size O hvo).trans h.hO;exact Boxed.set v' h3o
 .exact(h4 _ O (fun e=>by have:=(h.vlt e).1;omega) O).trans h.hD
 .refine(h4 _ O (fun e=>?_) O).trans h.hl;have:=(h.vlt e).1;omega
 .refine hv3.kept (PQ w3 w.heap.size v') (.inr fun e=>?_);have:=(hv'lt _ e).1;omega
 .exact List.nodup_append.2 ⟨h.nd,aT,fun x hx y hy e=>by rw[da.1 hy]at e;exact hbs (e▸hx)⟩
 .intro j v0 b0 ts0 hv hb ht;by_cases hji:j<i
  .rw[ek O]at hv hb;have h1:=h.row j v0 b0 ts0 hv hb ht;have hb0:=dc hb;refine h1.mono (fun k o hk ho _=>?_) (hcell b0 (h.blt hb0) (.inl hb0));have hlt:=(cJ.1 ho).1;have hkb:k≠b:=fun e=>hbb.elim (fun h=>hk (.inr (.inr O))) (fun hs=>hk (.inr (.inl (e▸hs))));obtain⟨k1,k2⟩:=hkp.same k hlt fun e=>e.elim (fun e=>hk (.inl e)) hkb;exact⟨fun e=>e.elim k1 fun e=>e.elim (fun e=>hk (.inr (.inl e))) (fun e=>O),k2.trans ho⟩
  .have hj1:j<i+1:=by have:=(cL.1 hb).1;rw[cF,hbl]at this;exact this
   obtain rfl:j=i:=O
   rw[fi O,hvl,fE]at hv;rw[fi O,hbl,fE]at hb;obtain rfl:v=v0:=by simpa using hv
   obtain rfl:b=b0:=by simpa using hb
   rw[hts]at ht;obtain rfl:=cI ht;refine hr.mono (fun k o hk ho _=>?_) (hcell b hblt (.inr rfl));have hlt:=(cJ.1 ho).1;obtain⟨k1,k2⟩:=hkp.same k hlt fun e=>e.elim (fun e=>hk (.inl e)) (fun e=>hk (.inr (.inr e)));exact⟨fun e=>e.elim k1 fun e=>e.elim (fun e=>hk (.inr (.inl e))) (fun e=>O),k2.trans ho⟩
 .intro b' hb' e;rcases dx.1 hb' with hb' | hb'
  .exact h.vb b' hb' ((hv'lt b' e).2 (h.blt hb'))
  .rw[da.1 hb']at e;exact hbv ((hv'lt b e).2 hblt)
 .intro b' hb';rcases dx.1 hb' with hb' | hb'
  .exact h.bl b' hb'
  .rw[da.1 hb'];exact hbb.imp (fun h=>h.1) id
 .intro b' hb';rcases dx.1 hb' with hb' | hb'
  .obtain⟨o,ho,hc⟩:=h.bc b' hb';exact⟨o,(hcell b' (h.blt hb') (.inl hb')).trans ho,hc⟩
  .rw[da.1 hb'];obtain⟨xs,ho,_⟩:=hr.row;rcases ho.2 with⟨e,_⟩ | ⟨g,cap,cur,e,_,hg,_⟩
   .have:=hr.own;rw[e]at this;cases this
   .have:=hr.own;rw[e]at this;have hgb:g=b:=cI this;subst hgb;exact⟨_,(hcell g hblt (.inr rfl)).trans hg,rfl⟩
end
end Go.Sy
namespace Go.Sy
open Go Go.Proofs Go.RowKit Tryz Ord
attribute [local go_sem] Oper.semAt_some
structure Mat(M S:c6)(w:World)(rows:List (List (List aC)))(va:Value)(vs:j0)(bs:c7)(W:World):Prop where
 size:w.heap.size<=W.heap.size
 wos:W.os=w.os/\W.tape=w.tape/\W.output=w.output
 old:∀k,k<w.heap.size->¬S k->W.heap[k]?=w.heap[k]?
 own:W.ownsRow w.heap.size 28 1 va rows.length vs
 lb:bs.length=rows.length
 nd:bs.Nodup
 row:∀(j:Nat)(v:Value)(b:Nat)(ts:List (List aC)),vs[j]?=some v->bs[j]?=some b->rows[j]?=some ts->dH 46 3 ts (fun k=>M k\/va.ownBlock=some k\/k∈bs\/S k) W v b
 vb:∀b∈bs,va.ownBlock≠some b
 bl:∀b∈bs,w.heap.size<=b\/S b
def AJ.mat{M S:c6}{w:World}{lo:Obj}{rows:List (List (List aC))}{nv:Nat}{va:Value}{vs:j0}{bs:c7}{W W':World}(h:AJ M S w lo rows rows.length nv va vs bs W)(hs:W'.heap.size=W.heap.size)(hos:W'.os=W.os/\W'.tape=W.tape/\W'.output=W.output)(hk:∀k,k≠w.heap.size+1->W'.heap[k]?=W.heap[k]?):Mat M S w rows va vs bs W':=by
 have hbig:=h.big;have hwos:=h.wos
 have hne:∀(k:Nat)(o:Obj),W.heap[k]?=some o->o.isCells=true->k≠w.heap.size+1:=fun k o ho hc e=>by
  subst e;rw[h.hD]at ho;cases ho;cases hc
 refine⟨O,⟨hos.1.trans hwos.1,hos.2.1.trans hwos.2.1,hos.2.2.trans hwos.2.2⟩,fun k hk2 hn=>(hk k O).trans (h.old k hk2 hn),⟨h.own.1,?_⟩,h.lb,h.nd,fun j v b ts hv hb ht=>?_,h.vb,fun b hb=>(h.bl b hb).imp (fun h=>O) id⟩
 .rcases h.own.2 with hn | ⟨g,cap,cur,e,hbg,hg,rest⟩
  .exact .inl hn
  .exact .inr ⟨g,cap,cur,e,O,(hk g (hne g _ hg rfl)).trans hg,rest⟩
 .obtain⟨o,ho,hc⟩:=h.bc b (dc hb)
  exact(h.row j v b ts hv hb ht).mono (fun k o hm ho hc=>⟨fun e=>hm (by
   rcases e with e | e | e | e
   .exact .inl (.inl e)
   .exact .inl (.inr (.inr (.inl e)))
   .exact .inl (.inr (.inr (.inr e)))
   .exact .inr (.inl e)),(hk k (hne k o ho hc)).trans ho⟩) (hk b (hne b o ho hc))
noncomputable def iR:Code×Code:=match f230.body with
 | some (.seq _ (.seq (.seq _ (.block _ (.rangeFunc _ _ a b))) _))=>(a,b)
 | _=>(.skip,.skip)
def SN(M S:c6)(w:World)(hM:bf (fun k=>M k\/S k) w)(hS:∀k,S k->k<w.heap.size/\¬M k)(gf:Nat)(lb:iS)(rows:List (List (List aC)))(hG:Gen prog 46 3 gf lb rows S S M w)(hgf:∀args w,(callFunc gf args).run prog w=.ok (.enter gf args) w)(hlen:rows.length<549755813888) :
  Calls prog 230 #[.slice none 0 0,.func (.func gf) #[] lb] w fun e W'=>∃va vs bs,e=.returned va/\Mat M S w rows va vs bs W':=by
 refine(bC (n:=1001)).1 ?_;refine rS func230 rfl trivial ?_ rfl;simp only[ntmps230,cq,bB,bu,Nat.reduceAdd,Nat.reduceSub,eE,eF,eJ,eI,List.nil_append,List.cons_append];have hMw:∀k,M k->k<w.heap.size:=fun k hk=>hM.1 k (.inl hk)
 gi_wp2
 refine XS rfl O (gf:=gf) (lb:=lb) rfl trivial hgf ?_;intro fn D l W1 hfn hD hl hsz1 hb1 hK1 hL1;have hsA:(w.alloc (.cells #[.slice none 0 0] 197)).heap.size=w.heap.size+1:=cz ..;rw[hsA]at hD hl hsz1 hb1;subst hD hl;obtain⟨tm,htm,hLr⟩:∃tm:Array Value,tm=#[.slice none 0 0,.func (.func gf) #[] lb,.pointer (some ⟨w.heap.size,0,none⟩),undef,.slice none 0 0,undef,.func (.func gf) #[] lb,undef,undef,undef,undef,undef,undef]/\W1.heap[w.heap.size+2]?=some (.loop (iz fn tm #[7] iR.1 iR.2 (w.heap.size+1) .ready none)):=⟨_,rfl,hL1⟩
 have hO1:W1.heap[w.heap.size]?=some (.cells #[.slice none 0 0] 197 (0,0)):=(hb1.block _ O).trans (cr w _);have hold1:∀k,k<w.heap.size->W1.heap[k]?=w.heap[k]?:=fun k hk=>(hb1.block _ O).trans (dB _ _ _ hk);have hbel:Below w.heap.size w W1:=⟨hb1.os,hb1.tape,hb1.output,O,hold1⟩
 have w0:AJ M S w (.loop (iz fn tm #[7] iR.1 iR.2 (w.heap.size+1) .ready none)) rows 0 W1.heap.size (.slice none 0 0) [] [] W1:=
  ⟨ah _,O,⟨hb1.os,hb1.tape,hb1.output⟩,fun k hk _=>hold1 k hk,hO1,hK1,hLr,pY _ _ _ _,rfl,List.nodup_nil,fun j v b ts hv=>by simp at hv,(fun b hb=>by cases hb),(fun b hb=>by cases hb),(fun b hb=>by cases hb)⟩
 refine(bC.2 (hG W1 (σ:=Value×List Value×List Nat×Nat) (fun s=>As M w.heap.size s.1 s.2.2.1) (fun s=>s.2.2.2) (.slice none 0 0,[],[],W1.heap.size) (w.heap.size+2) (fun i s W'=>AJ M S w (.loop (iz fn tm #[7] iR.1 iR.2 (w.heap.size+1) .ready none)) rows i s.2.2.2 s.1 s.2.1 s.2.2.1 W') hbel (fun k hk hm=>by
  rcases hm with h | h | h | h
  .exact h
  .omega
  .cases h
  .cases h) ⟨fun h=>h.yi hM,fun h=>h.near,fun h hg hm hc hb=>h.grow O hc hb⟩ ?hR w0)).mono ?_
 case hR=>
  rintro i ⟨va,vs,bs,nv⟩ W' v b ts hts hJ hrow hoff hbb;dsimp only at hJ hrow hoff hbb|-;have hil:i<rows.length:=(cL.1 hts).1
  obtain⟨Lv,capv,rfl⟩:∃L cap,v=.slice (some ⟨b,0,none⟩) L cap:=by
   obtain⟨xs,ho,_⟩:=hrow.row;have hown:=hrow.own;rcases ho.2 with⟨rfl,_⟩ | ⟨g,cap,cur,rfl,_⟩
   .cases hown
   .have:g=b:=cI hown;subst this;exact⟨_,_,rfl⟩
  clear w0 hbel hold1 hO1 hLr hL1 hK1 hG;have hbb':(w.heap.size+3<=b/\nv<=b)\/S b:=hbb.imp (fun h=>⟨O,h.2⟩) id;clear hb1 hsz1 hsA hbb;refine YieldAt.imp (WH (F:=Fence.wide) (m:=999) (R:=fun bb c W''=>bb=true/\∃s':Value×List Value×List Nat×Nat,AJ M S w (.loop (iz fn tm #[7] iR.1 iR.2 (w.heap.size+1) .ready none)) rows (i+1) s'.2.2.2 s'.1 s'.2.1 s'.2.2.1 W''/\Kp (Mb (As M w.heap.size va bs) b) W' (As M w.heap.size s'.1 s'.2.2.1) W'') hJ.hl rfl trivial ?_) ?_
  rotate_left
  .rintro e W'' ⟨bb,c,rfl,rfl,h⟩;exact⟨rfl,h⟩
  rw[show(#[7].zip #[Value.slice (some ⟨b,0,none⟩) Lv capv]).foldl (fun t (p,v)=>t.setIfInBounds p v) tm=#[.slice none 0 0,.func (.func gf) #[] lb,.pointer (some ⟨w.heap.size,0,none⟩),undef,.slice none 0 0,undef,.func (.func gf) #[] lb,.slice (some ⟨b,0,none⟩) Lv capv,undef,undef,undef,undef,undef] by rw[htm];simp];have hvone:=hrow.one;subst htm;dsimp only[iR,f230]
  gi_wp2
  refine⟨hJ.hl,?_⟩;obtain⟨lb',hlb⟩:∃lo:Obj,lo=.loop (iz fn #[.slice none 0 0,.func (.func gf) #[] lb,.pointer (some ⟨w.heap.size,0,none⟩),undef,.slice none 0 0,undef,.func (.func gf) #[] lb,undef,undef,undef,undef,undef,undef] #[7] iR.1 iR.2 (w.heap.size+1) .busy none):=⟨_,rfl⟩
  have hJb:=hJ.ZP rfl lb'
  have hrowb:=hrow.other (W':=W'.putObj (w.heap.size+2) lb') (fun j o ho hc=>mE fun e=>by
   rw[e,hJ.hl]at ho;cases ho;cases hc)
  have hsb:(W'.putObj (w.heap.size+2) lb').heap.size=W'.heap.size:=qU;have hob:∀j,j≠w.heap.size+2->(W'.putObj (w.heap.size+2) lb').heap[j]?=W'.heap[j]?:=fun j hj=>mE hj;have hosb:(W'.putObj (w.heap.size+2) lb').os=W'.os/\(W'.putObj (w.heap.size+2) lb').tape=W'.tape/\(W'.putObj (w.heap.size+2) lb').output=W'.output:=⟨rfl,rfl,rfl⟩
  show Code.wpIn _ _ _ _ _ _ (W'.putObj (w.heap.size+2) (.loop (iz fn #[.slice none 0 0,.func (.func gf) #[] lb,.pointer (some ⟨w.heap.size,0,none⟩),undef,.slice none 0 0,undef,.func (.func gf) #[] lb,undef,undef,undef,undef,undef,undef] #[7] iR.1 iR.2 (w.heap.size+1) .busy none)));rw[<-hlb];have hlbc:lb'.isCells=false:=by rw[hlb];rfl
  generalize W'.putObj (w.heap.size+2) lb'=Wb at hJb hrowb hsb hob hosb|-;have cO:=bH (j:=0) hJb.hO rfl;obtain⟨hsb1,hsb2⟩:Wb.heap.size<=W'.heap.size/\W'.heap.size<=Wb.heap.size:=⟨O,O⟩
  have hJhl:=hJ.hl;clear hsb hJ hrow;have happ:=fun v' w3=>hJb.app (v':=v') (w3:=w3) hS hMw hts hrowb hoff hbb';have hbigb:=hJb.big;have hvo:va.ownBlock≠some w.heap.size:=fun e=>by have:=(hJb.vlt e).1;omega
  have hOb:∀w3,(Wb.alloc (.cells #[.slice (some ⟨b,0,none⟩) Lv capv] 28)).grownBy w3 va.ownBlock->w3.cell? ⟨w.heap.size,0,none⟩=some va:=fun w3 hg3=>bH (j:=0) ((hg3.block _ (by rw[cz];omega) (fun e=>hvo e.symm)).trans ((dB _ _ _ O).trans hJb.hO)) rfl;have hFb:∀w3,(Wb.alloc (.cells #[.slice (some ⟨b,0,none⟩) Lv capv] 28)).grownBy w3 va.ownBlock->w3.frozen? ⟨w.heap.size,0,none⟩=false:=fun w3 hg3=>Boxed.frozen (v:=va) ((hg3.block _ (by rw[cz];omega) (fun e=>hvo e.symm)).trans ((dB _ _ _ O).trans hJb.hO))
  gi_wp2_with (gi_at_builtin;refine ap1 rfl _ _ rfl (w.heap.size+3) va i vs rfl (hJb.own.alloc _) Wb.heap.size 1 (.slice (some ⟨b,0,none⟩) Lv capv) (cr Wb _) rfl hvone (by rw[cz];omega) ?_;intro v' w3 hv3 hg3 hat3;obtain⟨g',cap',rfl⟩:=ownsRow_succ hv3;have cO3:=hOb w3 hg3;have cF3:=hFb w3 hg3)
  obtain⟨hA,hK⟩:=happ _ w3 hv3 hg3 hat3 hlbc;subst hlb;refine⟨hA.hl,rfl,(_,_,_,_),hA.ZP rfl _,?_⟩;have hKs:=hK.size;refine⟨hK.os.trans hosb.1,hK.tape.trans hosb.2.1,hK.output.trans hosb.2.2,by rw[qU];omega,fun k hk hm=>?_⟩;obtain⟨h1,h2⟩:=hK.same k O hm;refine⟨h1,?_⟩;by_cases hkl:k=w.heap.size+2
  .subst hkl;rw[BV O];exact hJhl.symm
  .exact(mE hkl).trans (h2.trans (hob k hkl))
 rintro e W2 ⟨hv,⟨va,vs,bs,nv⟩,hJ,hkk⟩;clear hkk;dsimp only at hJ;clear w0 hbel hold1 hO1 hLr hL1 hK1 hG hb1 hsz1 hsA;subst htm;refine⟨hv,.inl ⟨hJ.hl,?_⟩⟩;have hJe:=hJ.ZP rfl (.loop (iz fn #[.slice none 0 0,.func (.func gf) #[] lb,.pointer (some ⟨w.heap.size,0,none⟩),undef,.slice none 0 0,undef,.func (.func gf) #[] lb,undef,undef,undef,undef,undef,undef] #[7] iR.1 iR.2 (w.heap.size+1) .exhausted none));rename_i K0 hK0;refine hK0 _ _ ?_;clear hK0 K0;show Code.wpIn _ _ _ _ _ _ (W2.putObj (w.heap.size+2) (.loop (iz fn #[.slice none 0 0,.func (.func gf) #[] lb,.pointer (some ⟨w.heap.size,0,none⟩),undef,.slice none 0 0,undef,.func (.func gf) #[] lb,undef,undef,undef,undef,undef,undef] #[7] iR.1 iR.2 (w.heap.size+1) .exhausted none)));obtain⟨lo,hlo⟩:∃lo:Obj,lo=.loop (iz fn #[.slice none 0 0,.func (.func gf) #[] lb,.pointer (some ⟨w.heap.size,0,none⟩),undef,.slice none 0 0,undef,.func (.func gf) #[] lb,undef,undef,undef,undef,undef,undef] #[7] iR.1 iR.2 (w.heap.size+1) .exhausted none):=⟨_,rfl⟩
 rw[<-hlo]at hJe|-;clear hlo hJ hv;generalize W2.putObj (w.heap.size+2) lo=W3 at hJe|-;have cO:=bH (j:=0) hJe.hO rfl;have hD:=hJe.hD
 gi_wp2
 refine⟨aT,.inl ⟨_,_,rfl,sV hD,?_⟩⟩;refine⟨_,kN rfl _ _ _,va,vs,bs,rfl,hJe.mat qU ⟨rfl,rfl,rfl⟩ (fun k hk=>mE hk)⟩
end Go.Sy
namespace Go.Sy
open Go Go.Proofs Go.RowKit Tryz Ord
attribute [local go_sem] Oper.semAt_some
def YP(M S:c6)(w:World)(hM:bf (fun k=>M k\/S k) w)(hS:∀k,S k->k<w.heap.size/\¬M k)(gf:Nat)(lb:iS)(rows:List (List (List aC)))(hG:Gen prog 46 3 gf lb rows S S M w)(hgf:∀args w,(callFunc gf args).run prog w=.ok (.enter gf args) w)(hlen:rows.length<549755813888) :
  Calls prog 199 #[.func (.func gf) #[] lb] w fun e W'=>∃va vs bs,e=.returned va/\Mat M S w rows va vs bs W':=by
 refine(bC (n:=1001)).1 ?_;refine jF func199 rfl trivial ?_ rfl;simp only[ntmps199,cq,bB,bu,Nat.reduceAdd,Nat.reduceSub,eE,eF,eJ,eI,List.nil_append,List.cons_append]
 gi_wp2
 refine⟨trivial,?_⟩;refine(bC.2 (SN M S w hM hS gf lb rows hG hgf hlen)).mono ?_;rintro e W' ⟨va,vs,bs,rfl,hm⟩
 gi_wp2
 refine gB (kN rfl _ _ _) rfl ⟨va,vs,bs,rfl,hm⟩
end Go.Sy
namespace Go.Sy
open Go Go.Proofs Go.RowKit Tryz Ord
def KP:Tr:=.ret [(W 3 0)]
def Ls:Tr:=.need (.call 200 [(W 2 0),(.one (.gv 201 [(.ref 0 [(.u 1 0)])]))] [none]) (.call ⟨.value (.func 200),#[(.tmp 23),(.tmp 24)],#[197,195]⟩) 3 true KP
def MJ:Tr:=.need (.prim [(W 0 0),(W 1 0)] none) (.slice 197 (.tmp 21) (some (.tmp 22)) none none) 197 false Ls
def VY:aj prog 125 (fun _=>none) (aH [1,1,0,1,0,0,1,1,0,0,1,0] (aM f136)) [(4,.v none),(5,.ref 1)] ([6].map ResultVar.tmp) none false=MJ:=aS
def HF:Tr:=.retr [] 8
def NH:Tr:=.need (.strow 7 1 (.u 3 0) 0 [(.u 6 0)]) (.store 28 (.tmp 45) (.tmp 43)) 0 false HF
def LD:Tr:=.need (.idx 7 (.u 3 0)) (.indexAddr 197 (.tmp 30) (.tmp 33)) 0 false NH
def Lg:Tr:=.need (.strow 2 1 (.u 0 0) 0 [(.u 5 0)]) (.store 28 (.tmp 44) (.tmp 39)) 0 false LD
def Mw:Tr:=.need (.idx 2 (.u 0 0)) (.indexAddr 197 (.tmp 28) (.tmp 29)) 0 false Lg
def IW:Tr:=.need (.ldrow 2 (.u 0 0) 0 1 false) (.load 28 (.tmp 42)) 28 false Mw
def NR:Tr:=.need (.idx 2 (.u 0 0)) (.indexAddr 197 (.tmp 40) (.tmp 41)) 0 false IW
def JI:Tr:=.need (.ldrow 2 (.u 4 0) 0 1 false) (.load 28 (.tmp 38)) 28 false NR
def JN:Tr:=.need (.idx 2 (.u 4 0)) (.indexAddr 197 (.tmp 34) (.tmp 37)) 0 false JI
def Ie:Tr:=.need (.prim [(W 0 0),(W 1 0)] none) (.binOp .add 3 (.tmp 35) (.tmp 36) 3) 3 false JN
def HW:Tr:=.need (.prim [(W 0 0),(W 1 0)] none) (.binOp .add 3 (.tmp 31) (.tmp 32) 3) 3 false Ie
def WA:Aj prog 125 (fun _=>none) (aH [1,1,0,1,0,0,1,1,0,0,1,1,1,0] (aM f136)) [(5,.ref 1),(6,.v none)] 4 28 1 ([].map ResultVar.tmp)=HW:=aS
def Kx:Tr:=.ret [(.one (.c (.k (.bool true))))]
def IE:Tr:=.ret [(W 7 0)]
def Mr:Tr:=.need (.prim [(W 6 0),(WK (0))] none) (.binOp .eql 3 (.tmp 61) (.const (I3 (0))) 3) 4 false IE
def Kd:Tr:=.need (.call 23 [(.agg [(U 5 0),(U 5 1),(U 5 2)])] [none]) (.call ⟨.value (.func 23),#[(.tmp 60)],#[46]⟩) 3 false Mr
def Jr:Tr:=.need (.prim [(W 4 0)] (some 3)) (.load 46 (.tmp 59)) 46 false Kd
def JL:Tr:=.need (.prim [(W 1 0),(W 2 0)] none) (.indexAddr 28 (.tmp 57) (.tmp 58)) 0 false Jr
def NF:Tr:=.split (.u 3 0) Kx JL
def JY:Tr:=.need (.prim [(W 0 0),(W 2 0)] none) (.binOp .eql 3 (.tmp 53) (.tmp 54) 3) 4 false NF
def Yl:aj prog 125 (fun _=>none) (aH [1,1,0,1,0,0,1,1,0,0,1,1,1,1,1,0,0,1,1,0,0,1,0,0] (aM f136)) [(7,.v none),(8,.v none),(5,.ref 1)] ([63].map ResultVar.tmp) none false=JY:=aS
def Em:Tr:=.back 0 [(.w (W 21 0)),(.row 20)]
def DT:Tr:=.need (.prim [(W 9 0),(WK (1))] none) (.binOp .add 3 (.tmp 81) (.const (I3 (1))) 3) 3 false Em
def Fl:Tr:=.need (.strow 10 3 (.u 9 0) 0 [(.u 19 0),(.u 19 1),(.u 19 2)]) (.store 46 (.tmp 99) (.tmp 98)) 0 false DT
def EH:Tr:=.need (.idx 10 (.u 9 0)) (.indexAddr 28 (.tmp 83) (.tmp 84)) 0 false Fl
def FW:Tr:=.need (.call 86 [(.agg [(U 13 0),(U 13 1),(U 13 2)]),(.agg [(U 18 0),(U 18 1),(U 18 2)])] [(some 3)]) (.call ⟨.value (.func 86),#[(.tmp 88),(.tmp 97)],#[46,46]⟩) 46 true EH
def Er:Tr:=.need (.call 76 [(.agg [(U 8 0),(U 8 1),(U 8 2)]),(.agg [(U 17 0),(U 17 1),(U 17 2)])] [(some 3)]) (.call ⟨.value (.func 76),#[(.tmp 89),(.tmp 96)],#[46,46]⟩) 46 true FW
def Ew:Tr:=.need (.prim [(W 16 0)] (some 3)) (.load 46 (.tmp 95)) 46 false Er
def HO:Tr:=.need (.prim [(W 15 0),(W 9 0)] none) (.indexAddr 28 (.tmp 93) (.tmp 94)) 0 false Ew
def Gt:Tr:=.need (.prim [(W 14 0)] none) (.load 28 (.tmp 92)) 28 false HO
def Dl:Tr:=.need (.prim [(W 0 0),(W 1 0)] none) (.indexAddr 197 (.tmp 90) (.tmp 91)) 0 false Gt
def FD:Tr:=.need (.ldrow 10 (.u 9 0) 0 3 true) (.load 46 (.tmp 87)) 46 false Dl
def FG:Tr:=.need (.idx 10 (.u 9 0)) (.indexAddr 28 (.tmp 85) (.tmp 86)) 0 false FD
def Dx:Tr:=.retr [] 10
def DS:Tr:=.split (.u 12 0) FG Dx
def IU:Tr:=.need (.prim [(W 9 0),(W 11 0)] none) (.binOp .lss 3 (.tmp 77) (.tmp 79) 3) 4 false DS
def Lf:Tr:=.need (.lenrow 10) (.call ⟨.builtin .len,#[(.tmp 78)],#[28]⟩) 3 false IU
def JR:Tr:=.loop 0 [(.w (W 1 0)),(.row 2)] Lf
def Jf:Tr:=.need (.call 112 [(.agg [(U 3 0),(U 3 1),(U 3 2)]),(.agg [(U 7 0),(U 7 1),(U 7 2)])] [(some 3)]) (.call ⟨.value (.func 112),#[(.tmp 67),(.tmp 74)],#[46,46]⟩) 46 true JR
def LN:Tr:=.need (.prim [(W 6 0)] (some 3)) (.load 46 (.tmp 73)) 46 false Jf
def HY:Tr:=.need (.prim [(W 5 0),(W 1 0)] none) (.indexAddr 28 (.tmp 71) (.tmp 72)) 0 false LN
def Mc:Tr:=.need (.prim [(W 4 0)] none) (.load 28 (.tmp 70)) 28 false HY
def Nq:Tr:=.need (.prim [(W 0 0),(W 1 0)] none) (.indexAddr 197 (.tmp 68) (.tmp 69)) 0 false Mc
def Im:Tr:=.need (.ldrow 2 (.u 1 0) 0 3 true) (.load 46 (.tmp 66)) 46 false Nq
def Oc:Tr:=.need (.idx 2 (.u 1 0)) (.indexAddr 28 (.tmp 64) (.tmp 65)) 0 false Im
def WY:Aj prog 125 (fun _=>none) (aH [1,1,0,1,0,0,1,1,0,0,1,1,1,1,1,0,0,1,1,0,0,1,1] (aM f136)) [(4,.v none),(5,.ref 1)] 8 46 3 ([].map ResultVar.tmp)=Oc:=aS
def CY:Tr:=.back 0 [(.w (W 16 0)),(.row 15)]
def Hq:Tr:=.need (.prim [(W 2 0),(WK (1))] none) (.binOp .add 3 (.tmp 104) (.const (I3 (1))) 3) 3 false CY
def De:Tr:=.need (.app 3 56 (some 3) none (some 14)) (.call ⟨.builtin .append,#[(.tmp 109),(.tmp 121)],#[28,28]⟩) 28 false Hq
def Fz:Tr:=.need (.lit 3 [[(.u 13 0),(.u 13 1),(.u 13 2)]]) (.buildSlice 28 1 #[(0,(.tmp 120))]) 28 false De
def DC:Tr:=.need (.call 112 [(.agg [(U 10 0),(U 10 1),(U 10 2)]),(.agg [(U 12 0),(U 12 1),(U 12 2)])] [(some 3)]) (.call ⟨.value (.func 112),#[(.tmp 115),(.tmp 119)],#[46,46]⟩) 46 true Fz
def GN:Tr:=.need (.prim [(W 11 0)] (some 3)) (.load 46 (.tmp 118)) 46 false DC
def En:Tr:=.need (.prim [(W 6 0),(W 2 0)] none) (.indexAddr 28 (.tmp 116) (.tmp 117)) 0 false GN
def LA:Tr:=.need (.prim [(W 9 0)] (some 3)) (.load 46 (.tmp 114)) 46 false En
def MY:Tr:=.need (.prim [(W 6 0),(W 8 0)] none) (.indexAddr 28 (.tmp 110) (.tmp 113)) 0 false LA
def IV:Tr:=.need (.prim [(W 7 0),(WK (1))] none) (.binOp .sub 3 (.tmp 112) (.const (I3 (1))) 3) 3 false MY
def Ng:Tr:=.need (.prim [(W 6 0)] none) (.call ⟨.builtin .len,#[(.tmp 111)],#[28]⟩) 3 false IV
def Mg:Tr:=.need (.prim [(W 5 0)] none) (.load 28 (.tmp 107)) 28 false Ng
def Ko:Tr:=.need (.prim [(W 0 0),(W 2 0)] none) (.indexAddr 197 (.tmp 102) (.tmp 104)) 0 false Mg
def HM:Tr:=.ret [(.one (.c (.sr 3 3))),(.one (.c (.k (.bool true))))]
def Oe:Tr:=.split (.u 4 0) Ko HM
def Od:Tr:=.need (.prim [(W 2 0),(W 1 0)] none) (.binOp .lss 3 (.tmp 104) (.tmp 103) 3) 0 false Oe
def Ja:Tr:=.loop 0 [(.w (WK (0))),.nilrow] Od
def Nk:Tr:=.need (.prim [(W 0 0)] none) (.call ⟨.builtin .len,#[(.tmp 102)],#[197]⟩) 3 false Ja
def WD:aj prog 125 (fun _=>none) (aH [1,1,1] (aM f136)) [(4,.v none)] f136.results.toList none true=Nk:=aS
def XH{E sz b T:Nat}{α:Type}{f:α->List aC}{ds:List α}{x:j6}{ty:Nat}{y:j6}{k:IntKind}{n:Int}{m:Nat}(h:dZ prog T=some (E,sz,b))(h0:0<=n)(hm:n.toNat=m)(hn:m<=ds.length):ao prog (.slice T x (some y) none none) ty [.one (.slice sz (ds.map f)),.one (.int k n)] (.one (.slice sz ((ds.drop m).map f))):=by
 have:=Po (P:=prog) (T:=T) (x:=x) (y:=y) (ty:=ty) (k:=k) (n:=n) (ts:=ds.map f) h h0 (by rw[aL,hm];exact hn);rw[hm,<-mX]at this;exact this
def re(a b:Rat):Va a b=a/b:=by
 unfold Va;split
 .rename_i h;rw[h,Qj,Rat.inv_zero,Rat.mul_zero]
 .rfl
def bw7(k:Nat)(r:c4):Bool:=decide (r.getD k 0≠0)
def bP7(rows:b9)(k L:Nat)(hL:∀r∈rows,r.length=L)(hLs:L<1099511627776)(hk:k<rows.length:=by omega)(hkL:k<L:=by omega)(hs:rows.length<1099511627776:=by omega):vc prog (fun o=>bD o (.ret [.one (.int .i64 (nG (bw7 k) (rows.drop k) 0))])) (aj prog 125 (fun _=>none) (aH [1,1,0,1,0,0,1,1,0,0,1,0] (aM f136)) [(4,.v none),(5,.ref 1)] ([6].map ResultVar.tmp) none false) ([.v (.one (eQ rows)),.ref ([.int .i64 (k:Int)])].map In.env) []:=by
 rw[VY];dsimp only[List.map,In.env,aU,aV];apply vn (XH tw (m:=k) O (bI k) O);apply aA (yh (rows.drop k) 201 [.aw [.int .i64 (k:Int)]] (bw7 k) (fun r hr=>YT r k (by rw[hL r (pF hr)];exact hkL) (by rw[hL r (pF hr)];exact hLs)) (by rw[dF];omega)) rfl;exact aR
abbrev xV(v:Value):List aC:=[.exact v]
def gi{α:Type}(vs:List α)(k j:Nat)(x y:α):List α:=(vs.set k y).set j x
def bE4(vs:j0)(k i:Nat)(x y:Value)(hx:vs[k]?=some x)(hy:vs[k+i]?=some y)(hs:vs.length<1099511627776:=by omega):vc prog (fun o=>o=.retr [] ((gi vs k (k+i) x y).map xV)) (Aj prog 125 (fun _=>none) (aH [1,1,0,1,0,0,1,1,0,0,1,1,1,0] (aM f136)) [(5,.ref 1),(6,.v none)] 4 28 1 ([].map ResultVar.tmp)) ([.ref ([.int .i64 (k:Int)]),.v (.one (.int .i64 (i:Int)))].map In.env++[.rows (vs.map xV)]) []:=by
 rw[WA];dsimp only[List.map,In.env,aU,aV];have hkl:=(cL.1 hx).1;have hil:=(cL.1 hy).1;obtain⟨z,hz⟩:∃z,(vs.set k y)[k+i]?=some z:=⟨_,bM (by rw[al];exact hil)⟩
 apply vn (aB O O);apply vn (aB O O);refine bo rfl rfl O O ?_;refine nQ rfl rfl O (show((k:Int)+(i:Int)).toNat=k+i by omega) hy rfl ?_;refine bo rfl rfl O O ?_;refine nQ rfl rfl O (bI k) hx rfl ?_;refine bo rfl rfl O O ?_;refine gL (f:=xV) (d':=y) rfl rfl O (bI k) hx rfl ?_;refine bo rfl rfl O (by rw[al];omega) ?_;refine gL (f:=xV) (d':=x) rfl rfl O (show((k:Int)+(i:Int)).toNat=k+i by omega) hz rfl ?_;dsimp only[aU,aV];exact kA rfl rfl
def bC9(i k:Nat)(r:c4)(hk:k<r.length:=by omega)(hs:r.length<1099511627776:=by omega):vc prog (fun o=>bD o (.ret [.one (.bool (decide (i=k\/r.getD k 0=0)))])) (aj prog 125 (fun _=>none) (aH [1,1,0,1,0,0,1,1,0,0,1,1,1,1,1,0,0,1,1,0,0,1,0,0] (aM f136)) [(7,.v none),(8,.v none),(5,.ref 1)] ([63].map ResultVar.tmp) none false) ([.v (.one (.int .i64 (i:Int))),.v (.one (sQ r)),.ref ([.int .i64 (k:Int)])].map In.env) []:=by
 rw[Yl];dsimp only[List.map,In.env,aU,aV];apply vn cW;refine l4 ?_ ?_<;>intro h1
 .rw[bz (show i=k\/r.getD k 0=0 from .inl O)];exact aR
 apply vn (aN bX (m:=k) O (bI k) (aa hk));apply vn (ab cb bY aT (.inl rfl));apply aA (mV _);apply vn cW;rw[show decide ((r.getD k 0).num.sign=0)=decide (i=k\/r.getD k 0=0) by rw[nh];exact⟨fun h=>.inr (sign_zero.1 h),fun h=>sign_zero.2 (h.resolve_left O)⟩];exact aR
def bS9(r p:c4)(k A:Nat)(xY:List (List aC))(htk:xY[k]?=some [sQ p])(hA1:1<=A)(hA:A<=1000000000)(hr:∀a∈r,Fit A a)(hp:∀a∈p,Fit A a)(hkr:k<r.length:=by omega)(hrp:p.length=r.length:=by omega)(hs:r.length<1099511627776:=by omega):vc prog (fun o=>o=.retr [] (rQ (pI k p (r.getD k 0/p.getD k 0) r r.length))) (Aj prog 125 (fun _=>none) (aH [1,1,0,1,0,0,1,1,0,0,1,1,1,1,1,0,0,1,1,0,0,1,1] (aM f136)) [(4,.v none),(5,.ref 1)] 8 46 3 ([].map ResultVar.tmp)) ([.v (.one (.slice 1 xY)),.ref ([.int .i64 (k:Int)])].map In.env++[.rows (rQ r)]) []:=by
 rw[WY];dsimp only[List.map,In.env,aU,aV];have hrk:=aa hkr;refine bo rfl rfl O O ?_;refine Nv rfl rfl O (bI k) hrk (.inl rfl) rfl ?_;dsimp only[aU,aV,mkS,List.drop,List.take];apply vn (ak1 tw (by rw[bI];exact htk)) rfl;apply vn (bq aW5);dsimp only[aU,aV];apply vn (aN bX (m:=k) O (bI k) (aa (show k<p.length by omega)));apply vn (ab cb bY aT (.inl rfl));apply aA (qP _ _ A A (aD hr _ hA1) (aD hp _ hA1));rw[re];refine bZ {j:Nat // k<=j/\j<=r.length} (fun g=>[.one (.int .i64 (g.1:Int)),.rows (rQ (pI k p (r.getD k 0/p.getD k 0) r g.1))]) (fun g=>r.length-g.1) ⟨k,ah _,O⟩ (by dsimp only;rw[Fi];exact ai.rfl) (fun _=>rfl) ?_;rintro⟨j,hkj,hj⟩;dsimp only[aU,aV]at hkj hj|-;have hel:=lz k p (r.getD k 0/p.getD k 0) r j;refine Wt rfl ((aL _).trans hel) ?_;apply vn bO;refine l4 ?_ ?_<;>intro h10
 .have hj':j<r.length:=O
  have hej:(pI k p (r.getD k 0/p.getD k 0) r j)[j]?=some (r.getD j 0):=by rw[<-Xf k p (r.getD k 0/p.getD k 0) r (ah j)];exact aa
  refine bo rfl rfl O O ?_;refine Nv rfl rfl O (bI j) hej (.inl rfl) rfl ?_;dsimp only[aU,aV,mkS,List.drop,List.take];apply vn (ak1 tw (by rw[bI];exact htk)) rfl;apply vn (bq aW5);dsimp only[aU,aV];apply vn (aN bX (m:=j) O (bI j) (aa (show j<p.length by omega)));apply vn (ab cb bY aT (.inl rfl));apply aA (ig _ _ (A+A) A ((aD hr _ hA1).div (aD hp _ hA1)) (aD hp _ hA1));apply aA (lZ _ _ A (A+A+A) (aD hr _ hA1) (((aD hr _ hA1).div (aD hp _ hA1)).mul (aD hp _ hA1)));refine bo rfl rfl O O ?_;refine gL (f:=qC) (d':=r.getD j 0-r.getD k 0/p.getD k 0*p.getD j 0) rfl rfl O (bI j) hej rfl ?_;rw[OI k p _ r hkj];apply vn (aB O O);dsimp only[aU,aV];exact aq rfl ⟨⟨j+1,O,O⟩,ai.rfl,by show r.length-(j+1)<r.length-j;omega⟩
 rw[show j=r.length by omega];exact kA rfl rfl
def bE2(rows:b9)(L A:Nat)(hL:∀r∈rows,r.length=L/\∀a∈r,Fit A a)(hLs:L<1099511627776)(hA1:1<=A)(hA:A<=10000000000)(hml:rows.length<=L:=by omega):vc prog (fun o=>bD o (.ret [.one (sQ ((List.range rows.length).map (lY rows))),.one (.bool true)])) (aj prog 125 (fun _=>none) (aH [1,1,1] (aM f136)) [(4,.v none)] f136.results.toList none true) ([.v (.one (eQ rows))].map In.env) []:=by
 rw[WD];dsimp only[List.map,In.env,aU,aV];apply vn (ae tw (aL _));refine bZ {i:Nat // i<=rows.length} (fun g=>[.one (.int .i64 (g.1:Int)),.rows (rQ ((List.range g.1).map (lY rows)))]) (fun g=>rows.length-g.1) ⟨0,dM _⟩ ai.rfl (fun _=>rfl) ?_;rintro⟨i,hi⟩;dsimp only[aU,aV]at hi|-;have hll:((List.range i).map (lY rows)).length=i:=aT
 apply vn bO;refine l4 ?_ ?_<;>intro h3
 .have hi':i<rows.length:=O
  obtain⟨r,hr⟩:∃r,rows[i]?=some r:=⟨_,bM hi'⟩
  obtain⟨hrl,hrf⟩:=hL r (dc hr);have hrg:rows.getD i []=r:=by rw[fI,hr];rfl
  apply vn (aN tw (m:=i) O (bI i) hr);apply vn (bq aW5);apply vn (ae bX (aL _));apply vn (aI O O);dsimp only[aU,aV];apply vn (aN bX (m:=r.length-1) O O (aa (show r.length-1<r.length by omega)));apply vn (ab cb bY aT (.inl rfl));dsimp only[aU,aV];apply vn (aN bX (m:=i) O (bI i) (aa (show i<r.length by omega)));apply vn (ab cb bY aT (.inl rfl));apply aA (qP _ _ A A (aD hrf _ hA1) (aD hrf _ hA1));rw[re,show r.getD (r.length-1) 0/r.getD i 0=lY rows i by rw[lY,hrg]];apply et (us:=[qC (lY rows i)]);refine kq (xs:=(List.range i).map (lY rows)) (x:=lY rows i) (f:=qC) rfl rfl O (by simp only[maxLen];omega) ?_;rw[show(List.range i).map (lY rows)++[lY rows i]=(List.range (i+1)).map (lY rows) by rw[gy,cG];rfl];apply vn (aB O O);dsimp only[aU,aV];exact aq rfl ⟨⟨i+1,O⟩,ai.rfl,by show rows.length-(i+1)<rows.length-i;omega⟩
 rw[show i=rows.length by omega];exact aR
end Go.Sy
