/- Part. -/
import Derived.Test.YtdmcadckdnnglaaGreatDoorKe
set_option linter.all false
set_option maxHeartbeats 4000000
set_option maxRecDepth 100000
namespace Go.Sy
open Go Go.Proofs Go.RowKit Tryz Ord
attribute [local go_sem] Oper.semAt_some
def as8:Tr:=.fail 4
def bX0:Tr:=eO 170 [G5 0,G6 1,W 2 0] [some 12] [4,5,6] [42,123,3] 233 true as8
def Wn:aO prog f238 cT [.ref 5,.ref 6,.ref 1,.ref 12]=bX0:=aT
def Cb:Tr:=.retr [] 5
def BX:Tr:=.need (.strow 3 12 (.k (.int .i64 (0))) 0 [.u 4 0,.u 4 1,.u 4 2,.u 4 3,.u 4 4,.u 4 5,.u 4 6,.u 4 7,.u 4 8,.u 4 9,.u 4 10,.u 4 11]) (.store 233 (.tmp 3) (.tmp 7)) 0 false Cb
def CB:Tr:=.need (.call 170 [.agg [U 0 0,U 0 1,U 0 2,U 0 3,U 0 4],.agg [U 1 0,U 1 1,U 1 2,U 1 3,U 1 4,U 1 5],W 2 0] [some 12]) (D5 170 #[.tmp 4,.tmp 5,.tmp 6] #[42,123,3]) 233 true BX
def JE:TC prog f238 (fun _=>none) [.ref 5,.ref 6,.ref 1] 233 12=CB:=aT
def RI(E:j0)(X:Rat)(Y:j1)(a b:Rat)(k er:Int)(h:aK prog 170 [fT E X Y,kP a b,.one (.int .i64 k)] (.pan (zI er))):aK prog 238 [(.one (.aW (fC E X Y)):aF),(.one (.aW (cM a b)):aF),(.one (.aW ([.int .i64 k])):aF),(.one (.aW (wZ)):aF)] (.pan (zI er)):=by
 refine dvr (ins:=[.ref (fC E X Y),.ref (cM a b),.ref ([.int .i64 k]),.ref (wZ)]) func238 Wn ?_;exact vcp h rfl
def Ru(E:j0)(X:Rat)(Y:j1)(a b:Rat)(k:Int)(p q:k5)(h:aK prog 170 [fT E X Y,kP a b,.one (.int .i64 k)] (.ret [.agg (cM p.1 p.2++cM q.1 q.2)])):rj prog 238 233 [(.one (.aW (fC E X Y)):aF),(.one (.aW (cM a b)):aF),(.one (.aW ([.int .i64 k])):aF)] (wZ) [] (cM p.1 p.2++cM q.1 q.2):=by
 refine JV (a1:=[.ref 5,.ref 6,.ref 1]) (i1:=[.ref (fC E X Y),.ref (cM a b),.ref ([.int .i64 k])]) (n:=12) (hints:=(fun _=>none)) fo func238 ⟨rfl,rfl,rfl,trivial⟩ rfl rfl ?_;rw[JE];dsimp only[List.map,In.env,aP,aQ];apply aA h;refine BE (ts:=[wZ]) (us:=[cM p.1 p.2++cM q.1 q.2]) rfl rfl O (cells:=wZ) rfl rfl ?_;dsimp only[aP,aQ];exact yC rfl rfl
def bf6(E:j0)(X:Rat)(Y:j1)(a b:Rat)(k er:Int)(he:er≠0):vc prog (fun o=>ey o (.pan (zI er))) (lG prog 120 (fun _=>none) (cJ [1,1,1,1,1] (dJ f172)) [(3,.v none),(4,.ref 5),(5,.ref 6),(6,.ref 1),(10,.v none)] ([3,4,5,6,15].map ResultVar.tmp) (some 1) false) ([.v (.one (.int .i64 12)),.ref (fC E X Y),.ref (cM a b),.ref ([.int .i64 k]),.v (.one (.int .i64 er))].map In.env) []:=by
 rw[wC];dsimp only[List.map,In.env,aP,aQ];apply vn bA;refine ut ?_;apply vn bA;dsimp only[aP,aQ];rw[ej he];exact vcp (ll er) rfl
def bm2(E:j0)(X:Rat)(Y:j1)(a b:Rat)(k:Int):vc prog (fun o=>ey o (.pan (zI 14))) (lG prog 120 (fun _=>none) (cJ [1,1,1,1,1] (dJ f172)) [(3,.v none),(4,.ref 5),(5,.ref 6),(6,.ref 1),(10,.v none)] ([3,4,5,6,15].map ResultVar.tmp) (some 1) false) ([.v (.one (.int .i64 12)),.ref (fC E X Y),.ref (cM a b),.ref ([.int .i64 k]),.v (.one (.int .i64 0))].map In.env) []:=by
 rw[wC];dsimp only[List.map,In.env,aP,aQ];apply vn bA;refine ut ?_;apply vn bA;apply aA (nP 0);exact vcp (ll 14) rfl
def aZ6(E:j0)(X:Rat)(Y:j1)(a b:Rat)(k d er:Int)(hd:d≠12)(fa:Fit 513 a)(fb:Fit 513 b):vc prog (fun o=>ey o (.ret [.one (.int .i64 d),.one (.aW (fC E X Y)),.one (.aW (cM a b)),.one (.aW [.int .i64 k]),.one (.aW (qC (ao (a+b))))])) (lG prog 120 (fun _=>none) (cJ [1,1,1,1,1] (dJ f172)) [(3,.v none),(4,.ref 5),(5,.ref 6),(6,.ref 1),(10,.v none)] ([3,4,5,6,15].map ResultVar.tmp) (some 1) false) ([.v (.one (.int .i64 d)),.ref (fC E X Y),.ref (cM a b),.ref ([.int .i64 k]),.v (.one (.int .i64 er))].map In.env) []:=by
 rw[wC];dsimp only[List.map,In.env,aP,aQ];apply vn bA;dsimp only[aP,aQ];rw[ej hd];refine lw ?_;apply aA (tI a b 513 fa fb);exact aN
def ah6(c1 c2:Except Int VS):Except Int VS:=match c1 with
 | .error e=>.error e
 | .ok x=>match c2 with
   | .error e=>.error e
   | .ok y=>.ok (x++y)
def Bt(M:j2)(w:World)(hM:cX M w)(E:j0)(X:Rat)(Y:j1)(a b:Rat)(k d er:Int)(cs':List aE)(z:VS)(fin:Bool)(c:Except Int VS)(hd0:0<=d)(hd:d<=12)(fa:Fit 513 a)(fb:Fit 513 b)
  (hcl:(cs'=wZ/\aK prog 238 [.one (.aW (fC E X Y)),.one (.aW (cM a b)),.one (.aW [.int .i64 k]),.one (.aW wZ)] (.pan (zI er)))\/(er=0/\rj prog 238 233 [.one (.aW (fC E X Y)),.one (.aW (cM a b)),.one (.aW [.int .i64 k])] wZ [] cs')) (hc1:cs'.length=12)
  (hB:vc prog (Nb [.one (.int .i64 d),.one (.aW (fC E X Y)),.one (.aW (cM a b)),.one (.aW [.int .i64 k]),.one (.slice 6 (vS z)),.one (.int .i64 er),.one (.bool fin)] (vS z)) (GL prog 120 (fun _=>none) (cJ [1,1,1] (dJ f172)) [(3,.v none),(4,.ref 5),(5,.ref 6),(6,.ref 1),(8,.v none),(9,.ref 12),(10,.v none)] ([3,4,5,6,8,10].map ResultVar.tmp) 1 8 123 6)
   ([.v (.one (.int .i64 d)),.ref (fC E X Y),.ref (cM a b),.ref [.int .i64 k],.v (.one (.exact (.slice none 0 0))),.ref cs',.v (.one (.int .i64 er))].map In.env) [])
  (hfin:fin=true->c=.ok z) (h12:fin=false->d=12->c=.error (if er=0 then 14 else er))
  (hrec:fin=false->d≠12->∃c1 c2,vK E X Y k (d+1) a (ao (a+b)) c1/\vK E X Y k (d+1) (ao (a+b)) b c2/\(∀x y,c1=.ok x->c2=.ok y->x.length+y.length<=8192)/\c=ah6 c1 c2)
  (u0 u1 u2 u3 u4 s0 s1 s2 s3 s4 s5:Value) (hf:ai M w (fC E X Y) [u0,u1,u2,u3,u4]) (hs:ai M w (cM a b) [s0,s1,s2,s3,s4,s5]) :
  Calls prog 172 #[.agg #[u0,u1,u2,u3,u4],.agg #[s0,s1,s2,s3,s4,s5],.int .i64 k,.int .i64 d] w fun e w'=>Below w.heap.size w w'/\bz0 M w w' c e:=by
 have hmf:=AC;obtain⟨n0,hn0⟩:∃n0,w.heap.size=n0:=⟨_,rfl⟩
 obtain⟨o0,o1,o2,o3,o4⟩:u0.oneCell'=true/\u1.oneCell'=true/\u2.oneCell'=true/\u3.oneCell'=true/\u4.oneCell'=true:=by have:=hf.one;exact⟨this _ bY,this _ bY,this _ bY,this _ bY,this _ bY⟩
 obtain⟨p0,p1,p2,p3,p4,p5⟩:=A7 hs.one
 refine jn func172 rfl ?_;simp only[ntmps172,ed,bm,ck,Nat.reduceAdd,Nat.reduceSub,fX,fW,fS,fU,List.nil_append,List.cons_append];refine fA ?_;generalize hK:Exit.then _ _=K
 go_wp2
 rw[<-hK];clear hK K;show Code.wp _ _ _ _ _;refine fA ?_;generalize hK:Exit.then _ _=K
 go_wp2
 rw[<-hK];clear hK K;show Code.wp _ _ _ _ _;obtain⟨W1,hW1⟩:∃W1,((((w.alloc (.cells #[u0,u1,u2,u3,u4] 42)).alloc (.cells #[s0,s1,s2,s3,s4,s5] 123)).alloc (.cells #[.int .i64 k] 3)).alloc (.cells #[.slice none 0 0,.bool false,.slice none 0 0,.slice none 0 0,.bool false,.slice none 0 0,.slice none 0 0,.bool false,.slice none 0 0,.slice none 0 0,.bool false,.slice none 0 0] 233))=W1:=⟨_,rfl⟩
 have hs1:W1.heap.size=n0+4:=by rw[<-hW1];simp[hn0]
 have hB1:Below w.heap.size w W1:=by rw[<-hW1];exact((((cz _ w).alloc (ah _) _).alloc bY _).alloc iF _).alloc iF _
 have hF1:W1.heap[n0]?=some (.cells #[u0,u1,u2,u3,u4] 42 (0,0)):=by rw[<-hW1,bJ _ _ _ iF,bJ _ _ _ iF,bJ _ _ _ iF,<-hn0];exact bc w _
 have hS1:W1.heap[n0+1]?=some (.cells #[s0,s1,s2,s3,s4,s5] 123 (0,0)):=by
  rw[<-hW1,bJ _ _ _ iF,bJ _ _ _ iF];have:=bc (w.alloc (.cells #[u0,u1,u2,u3,u4] 42)) (.cells #[s0,s1,s2,s3,s4,s5] 123)
  rwa[br,hn0]at this
 have hK1:W1.heap[n0+2]?=some (.cells #[.int .i64 k] 3 (0,0)):=by
  rw[<-hW1,bJ _ _ _ iF];have:=bc ((w.alloc (.cells #[u0,u1,u2,u3,u4] 42)).alloc (.cells #[s0,s1,s2,s3,s4,s5] 123)) (.cells #[.int .i64 k] 3)
  rwa[br,br,hn0]at this
 have hA3:W1.heap[n0+3]?=some (.cells #[.slice none 0 0,.bool false,.slice none 0 0,.slice none 0 0,.bool false,.slice none 0 0,.slice none 0 0,.bool false,.slice none 0 0,.slice none 0 0,.bool false,.slice none 0 0] 233 (0,0)):=by
  rw[<-hW1];have:=bc (((w.alloc (.cells #[u0,u1,u2,u3,u4] 42)).alloc (.cells #[s0,s1,s2,s3,s4,s5] 123)).alloc (.cells #[.int .i64 k] 3)) (.cells #[.slice none 0 0,.bool false,.slice none 0 0,.slice none 0 0,.bool false,.slice none 0 0,.slice none 0 0,.bool false,.slice none 0 0,.slice none 0 0,.bool false,.slice none 0 0] 233)
  rwa[br,br,br,hn0]at this
 have hMA:¬M (n0+3):=fun h=>by have:=hM.1 _ h;omega
 have hk2:bq M w (fun b=>M b\/b=n0+3) W1:=fun b o hb ho _=>by
  have hl:=(cf.1 ho).1;exact⟨fun h=>h.elim hb O,(hB1.block b hl).trans ho⟩
 have hM2:cX (fun b=>M b\/b=n0+3) W1:=⟨fun b hb=>by
  rcases hb with h | h
  .have:=hM.1 b h;omega
  .omega,hM.2.jc hk2⟩
 have hnm:∀b,n0<=b->b<n0+3->¬(M b\/b=n0+3):=fun b h1 h2 h=>h.elim (fun h=>by have:=hM.1 b h;omega) O
 have hca:=yR 238 (bM aT) M W1 (n0+3) 233 _ wZ cs' [.one (.aW (fC E X Y)),.one (.aW (cM a b)),.one (.aW [.int .i64 k])] [.pointer (some ⟨n0,0,none⟩),.pointer (some ⟨n0+1,0,none⟩),.pointer (some ⟨n0+1+1,0,none⟩)] er hM2 hMA hA3
  ⟨⟨n0,0,_,_,_,rfl,hnm _ O O,hF1,hf.mono hk2⟩,⟨n0+1,0,_,_,_,rfl,hnm _ O O,hS1,hs.mono hk2⟩,⟨n0+2,0,_,_,_,rfl,hnm _ O O,hK1,⟨⟨rfl,rfl⟩,trivial⟩⟩,trivial⟩ (fun _ _=>⟨⟨rfl,rfl⟩,⟨rfl,rfl⟩,⟨rfl,rfl⟩,⟨rfl,rfl⟩,⟨rfl,rfl⟩,⟨rfl,rfl⟩,⟨rfl,rfl⟩,⟨rfl,rfl⟩,⟨rfl,rfl⟩,⟨rfl,rfl⟩,⟨rfl,rfl⟩,⟨rfl,rfl⟩,trivial⟩) hcl
 simp only[aP,aQ]at hca;rw[hW1];refine fA ?_;generalize hK:Exit.then _ _=K
 go_wp2_with (go_at_call 121;refine hca.mono ?_)
 rintro e w3 ⟨rfl,hg,us,hus,hrus⟩
 go_wp2
 rw[<-hK];clear hK K hca;show Code.wp _ _ _ _ _;have hs3:=hg.size
 have hB3:Below w.heap.size w w3:=⟨by rw[hg.os,hB1.os],by rw[hg.tape,hB1.tape],by rw[hg.output,hB1.output],O,fun j hj=>by
  rw[hg.block j O (fun e=>by simp only[aM]at e;omega),hB1.block j hj]⟩
 have hF3:=(hg.block n0 O (fun e=>by simp only[aM]at e;omega)).trans hF1;have hS3:=(hg.block (n0+1) O (fun e=>by simp only[aM]at e;omega)).trans hS1;have hK3:=(hg.block (n0+2) O (fun e=>by simp only[aM]at e;omega)).trans hK1;have hk3:bq (fun b=>M b\/b=n0+3) w3 M w3:=fun b o hb ho _=>⟨fun h=>hb (.inl h),ho⟩
 have hM3:cX M w3:=⟨fun b hb=>by have:=hM.1 b hb;omega,hM.2.below rfl hB3⟩
 have hk03:bq M w M w3:=bq.below hB3
 have hru:ai M w3 cs' ((us.toList.drop 0).take cs'.length):=by
  rw[gF,cU (by have:=hrus.length;omega)];exact hrus.mono hk3
 have nM:∀j,n0<=j->¬M j:=fun j hj h=>by have:=hM.1 j h;omega
 refine ax6 (n:=1) (fr:=8) (E:=123) (sz:=6) (ins:=[(3,.v none),(4,.ref 5),(5,.ref 6),(6,.ref 1),(8,.v none),(9,.ref 12),(10,.v none)]) (xs:=[.v (.one (.int .i64 d)),.ref (fC E X Y),.ref (cM a b),.ref [.int .i64 k],.v (.one (.exact (.slice none 0 0))),.ref cs',.v (.one (.int .i64 er))]) fo ⟨rfl,rfl,rfl,rfl,rfl,hc1,rfl,trivial⟩
  hB aT hM3 rfl rfl
  ⟨⟨rfl,rfl⟩,⟨n0,0,_,_,_,rfl,nM _ O,hF3,hf.mono hk03⟩,⟨n0+1,0,_,_,_,rfl,nM _ O,hS3,hs.mono hk03⟩,⟨n0+2,0,_,_,_,rfl,nM _ O,hK3,⟨⟨rfl,rfl⟩,trivial⟩⟩,⟨rfl,rfl⟩,⟨n0+3,0,_,_,_,rfl,hMA,hus,hru⟩,⟨rfl,rfl⟩,trivial⟩ ?_
 intro e a' W2 vs2 hex hB2 hsz hdf hrun hvs hown;have huse:=ja hrun;subst huse;have h3:a'.tmps.getD 3 undef=.int .i64 d:=hvs.1.1;have h4:(aE.aW (fC E X Y)).rep M W2 (a'.tmps.getD 4 undef):=hvs.2.1;have h5:(aE.aW (cM a b)).rep M W2 (a'.tmps.getD 5 undef):=hvs.2.2.1;have h6:(aE.aW [.int .i64 k]).rep M W2 (a'.tmps.getD 6 undef):=hvs.2.2.2.1;have h10:a'.tmps.getD 10 undef=.int .i64 er:=hvs.2.2.2.2.2.1.1;have hfb:Value.bool (wK e)=.bool fin:=hvs.2.2.2.2.2.2.1.1;have hBw2:Below w.heap.size w W2:=hB3.trans (hB2.mono hB3.size);have hM4:cX M W2:=⟨fun b hb=>bt (hM3.1 b hb) hB2.size,hM3.2.below rfl hB2⟩
 clear hvs hrun;cases e with
 | exit id=>cases hex
 | ret=>
   have hf:fin=true:=by simp only[wK,Value.bool.injEq]at hfb;exact hfb.symm
   obtain⟨ys,ho,hl,hr⟩:=hown rfl;have hc:=hfin hf;subst hc;simp only[pn,Exit.then];simp[bodyPost,results,show f172.results=#[.tmp 8]from rfl,go_sem];exact⟨hdf,hBw2,_,by rw[<-iG],ys,mY ho hB3.size,hl,hr⟩
 | normal=>
   have hf:fin=false:=by simp only[wK,Value.bool.injEq]at hfb;exact hfb.symm
   obtain⟨t,ds⟩:=a';have hds:ds=[]:=hdf;subst hds;have hsz:t.size=120:=hsz;show Code.wp _ (oe 1 _) _ _ _;simp only[oe];by_cases h12':d=12
   .subst h12';have hc:=h12 hf rfl;subst hc;by_cases he:er=0
    .subst he
     refine wY (n:=1) (ins:=[(3,.v none),(4,.ref 5),(5,.ref 6),(6,.ref 1),(10,.v none)]) (xs:=[.v (.one (.int .i64 12)),.ref (fC E X Y),.ref (cM a b),.ref [.int .i64 k],.v (.one (.int .i64 0))]) fo ⟨rfl,rfl,rfl,rfl,rfl,trivial⟩
      (bm2 E X Y a b k) aT hM4 hsz rfl ⟨⟨h3,rfl⟩,h4,h5,h6,⟨h10,rfl⟩,trivial⟩ (fun e a' w' rs us h=>by cases h) ?_
     intro c v a' w' h hdf hb hv;cases h;have hv:v=LR 14:=hv.1;subst hv;exact⟨hdf,hBw2.trans (hb.mono hBw2.size),rfl⟩
    .refine wY (n:=1) (ins:=[(3,.v none),(4,.ref 5),(5,.ref 6),(6,.ref 1),(10,.v none)]) (xs:=[.v (.one (.int .i64 12)),.ref (fC E X Y),.ref (cM a b),.ref [.int .i64 k],.v (.one (.int .i64 er))]) fo ⟨rfl,rfl,rfl,rfl,rfl,trivial⟩
      (bf6 E X Y a b k er he) aT hM4 hsz rfl ⟨⟨h3,rfl⟩,h4,h5,h6,⟨h10,rfl⟩,trivial⟩ (fun e a' w' rs us h=>by cases h) ?_
     intro c v a' w' h hdf hb hv;cases h;have hv:v=LR er:=hv.1;subst hv;exact⟨hdf,hBw2.trans (hb.mono hBw2.size),by rw[aD he];rfl⟩
   .obtain⟨c1,c2,hz1,hz2,hl,rfl⟩:=hrec hf h12'
    refine wY (n:=1) (ins:=[(3,.v none),(4,.ref 5),(5,.ref 6),(6,.ref 1),(10,.v none)]) (xs:=[.v (.one (.int .i64 d)),.ref (fC E X Y),.ref (cM a b),.ref [.int .i64 k],.v (.one (.int .i64 er))]) fo ⟨rfl,rfl,rfl,rfl,rfl,trivial⟩
     (aZ6 E X Y a b k d er h12' fa fb) aT hM4 hsz rfl ⟨⟨h3,rfl⟩,h4,h5,h6,⟨h10,rfl⟩,trivial⟩ ?_ (by intro c v a' w' h;cases h)
    intro e a' W4 rs us' hrs hex hB4 hsz hdf hrun hus;cases hrs;cases e with
    | exit id=>cases hex
    | ret=>cases hex
    | normal=>
    have huse:=ja hrun;subst huse;have q3:a'.tmps.getD 3 undef=.int .i64 d:=hus.1.1;have q4:(aE.aW (fC E X Y)).rep M W4 (a'.tmps.getD 4 undef):=hus.2.1;have q5:(aE.aW (cM a b)).rep M W4 (a'.tmps.getD 5 undef):=hus.2.2.1;have q6:(aE.aW [.int .i64 k]).rep M W4 (a'.tmps.getD 6 undef):=hus.2.2.2.1;have q15:(aE.aW (qC (ao (a+b)))).rep M W4 (a'.tmps.getD 15 undef):=hus.2.2.2.2.1;clear hus hrun;have hBw4:Below w.heap.size w W4:=hBw2.trans (hB4.mono hBw2.size);have hM5:cX M W4:=⟨fun b hb=>bt (hM4.1 b hb) hB4.size,hM4.2.below rfl hB4⟩
    obtain⟨t,ds⟩:=a';have hds:ds=[]:=hdf;subst hds;have hsz:t.size=120:=hsz;show Code.wp _ (oe 1 _) _ _ _;simp only[oe];have hWd:Below W4.heap.size W4 { W4 with drawn:=W4.drawn+1 }:=⟨rfl,rfl,rfl,ah _,fun _ _=>rfl⟩
    refine fA (wp_region_any (ops:=dm) fo (Ym (ZI M W4 _ _ _ _ E X Y a b (ao (a+b)) k d c1 c2) (fun L i o s W ho hL hdep hcl h=>aK7 hM5 q4 q5 q6 q15 hd0 O hz1 hz2 hl _ ?_ L i o s W ho hL hdep hcl h) aG5 ?_ _ _ _ _ bY ?_ (an (ac8 _ _) (by simp[oG])) ?_))
    .intro er s' w' he hdf hb;refine⟨hdf,hBw4.trans (hb.mono hBw4.size),?_⟩;rcases he with rfl | ⟨x,rfl,rfl⟩<;>rfl
    .rintro L s W hall I;refine wp_ret ?_;obtain⟨x,y,rfl,rfl,ys,ho,hl,hr⟩:=I.r3 (hall 18 (by rw[oG];omega));have e8:=I.r4 (hall 19 (by rw[oG];omega));simp[bodyPost,results,show f172.results=#[.tmp 8]from rfl,go_sem];exact⟨I.df,hBw4.trans (I.bel.mono hBw4.size),_,by rw[<-iG,e8],ys,mY ho hBw4.size,hl,hr⟩
    .intro j o' ho hj;rw[IV]at hj;cases hj
    .have hF:∀j,(Array.replicate dm.size false).getD j false=false:=IV _;exact⟨hsz,rfl,hWd,q3,rfl,rfl,rfl,rfl,fun j t hj hL=>(by rw[hF]at hL;cases hL),fun h=>(by rw[hF]at h;cases h),fun h=>(by rw[hF]at h;cases h),fun h=>(by rw[hF]at h;cases h),fun h=>(by rw[hF]at h;cases h)⟩
end Go.Sy
namespace Go.Sy
open Go Go.Proofs Go.RowKit Tryz Ord
attribute [local go_sem] Oper.semAt_some
def YA:Tr:=Hs 2
def bY8:Tr:=tk 35 7 0 1 2 20 39 3 (gd 8 0 0 3 21 (aJ 9 0 YA (eO 121 [.one (.lp 171 [.ref 0 [.u 0 0,.u 0 1,.u 0 2,.u 0 3,.u 0 4],.ref 0 [.u 1 0,.u 1 1,.u 1 2,.u 1 3,.u 1 4,.u 1 5],.ref 0 [.u 2 0],.ref 0 [.k (.slice none 0 0)]])] [none] [24] [1] 55 true (oK 10 55 26 (aJ 11 0 (aH0 10) (Hs 0))))))
def bM2:Tr:=eO 21 [G5 0] [none] [10] [42] 55 false (oK 3 55 11 (aJ 4 0 YA (eO 168 [G6 1] [none] [14] [123] 4 false (kq 5 0 15 (aJ 6 0 YA (eO 80 [G6 1] [some 3] [19] [123] 39 false bY8))))))
def VQ:aO prog f85 cT [.v (some 5),.v (some 6),.v none]=bM2:=aT
def CE:Tr:=.retr [] 5
def Cp:Tr:=.need (.strow 3 1 (.k (.int .i64 (0))) 0 [.u 4 0]) (.store 118 (.tmp 3) (.tmp 7)) 0 false CE
def CJ:Tr:=.need (.call 172 [.agg [U 0 0,U 0 1,U 0 2,U 0 3,U 0 4],.agg [U 1 0,U 1 1,U 1 2,U 1 3,U 1 4,U 1 5],W 2 0,WK (0)] [none]) (D5 172 #[.tmp 4,.tmp 5,.tmp 6,.const (I3 (0))] #[42,123,3,3]) 118 true Cp
def GN:TC prog f171 (fun _=>none) [.ref 5,.ref 6,.ref 1] 118 1=CJ:=aT
def bQ0:Tr:=.need (.call 172 [G5 0,G6 1,W 2 0,WK 0] [none]) (D5 172 #[tT 4,tT 5,tT 6,.const (I3 0)] #[42,123,3,3]) 118 true as8
def WJ:aO prog f171 cT [.ref 5,.ref 6,.ref 1,.ref 1]=bQ0:=aT
def LY:Tr:=.fail 1011
def MY:Tr:=.fail 1011
def KT:Tr:=.fail 1011
def JI:Tr:=.ret [.one (.ref 0 [.u 0 0,.u 0 1,.u 0 2,.u 0 3,.u 0 4]),.one (.ref 0 [.u 1 0,.u 1 1,.u 1 2,.u 1 3,.u 1 4,.u 1 5]),.one (.ref 0 [.u 2 0]),W 3 0,W 4 0]
def IK:Tr:=.split (.u 11 0) KT JI
def IP:Tr:=.need (.prim [W 10 0,WK (0)] none) (.binOp .eql 3 (.tmp 21) (.const (I3 (0))) 3) 4 false IK
def NW:Tr:=.need (.call 35 [.agg [U 9 0,U 9 1,U 9 2]] [none]) (D5 35 #[.tmp 20] #[39]) 3 false IP
def Nd:Tr:=.need (.call 80 [.agg [U 1 0,U 1 1,U 1 2,U 1 3,U 1 4,U 1 5]] [some 3]) (D5 80 #[.tmp 19] #[123]) 39 false NW
def Mm:Tr:=.split (.u 8 0) MY Nd
def LW:Tr:=.need (.prim [W 7 0] none) (.unOp .not 4 (.tmp 15)) 4 false Mm
def Nl:Tr:=.need (.call 168 [.agg [U 1 0,U 1 1,U 1 2,U 1 3,U 1 4,U 1 5]] [none]) (D5 168 #[.tmp 14] #[123]) 4 false LW
def Mz:Tr:=.split (.u 6 0) LY Nl
def Og:Tr:=.need (.prim [W 5 0,WK (0)] none) (.binOp .neq 55 (.tmp 11) (.const (I3 (0))) 55) 4 false Mz
def ND:Tr:=.need (.call 21 [.agg [U 0 0,U 0 1,U 0 2,U 0 3,U 0 4]] [none]) (D5 21 #[.tmp 10] #[42]) 55 false Og
def UA:lG prog 30 (fun _=>none) (cJ [1] (dJ f85)) [(3,.ref 5),(4,.ref 6),(5,.ref 1),(6,.v none),(7,.v none)] ([3,4,5,6,7].map ResultVar.tmp) (some 0) false=ND:=aT
section
variable{E:j0}{X:Rat}{Y:j1}{k:Int}
def ae4{n:Nat}{a b:Rat}{z:VS}(h:iP E X Y k a b=some z):zE E X Y k n a b=.ok z:=by
 cases n<;>(unfold zE;rw[h])
def bv5{n:Nat}{a b:Rat}(h:iP E X Y k a b=none):zE E X Y k (n+1) a b=ah6 (zE E X Y k n a (ao (a+b))) (zE E X Y k n (ao (a+b)) b):=by
 unfold zE ah6;rw[h];cases n<;>rfl
def bh9{a b:Rat}{er:Int}(h:iP E X Y k a b=none)(he:(∃F,rM E X Y k a b=.ok F)/\er=0\/rM E X Y k a b=.error er/\er≠0):zE E X Y k 0 a b=.error (if er=0 then 14 else er):=by
 unfold zE;rw[h];rcases he with⟨⟨F,hF⟩,rfl⟩ | ⟨he,h0⟩
 .rw[hF];rfl
 .rw[he,aD h0]
def OV{a b:Rat}{d:Int}{c:Except Int VS}(S:PH E X Y k a b)(hd0:0<=d)(hd:d<=12)(hsome:∀z,iP E X Y k a b=some z->c=.ok z)
  (h12:iP E X Y k a b=none->d=12->∀er,((∃F,rM E X Y k a b=.ok F)/\er=0\/rM E X Y k a b=.error er/\er≠0)->c=.error (if er=0 then 14 else er))
  (hrec:iP E X Y k a b=none->d≠12->∃c1 c2,vK E X Y k (d+1) a (ao (a+b)) c1/\vK E X Y k (d+1) (ao (a+b)) b c2/\(∀x y,c1=.ok x->c2=.ok y->x.length+y.length<=8192)/\c=ah6 c1 c2):vK E X Y k d a b c:=by
 intro M w vs hM hv
 match vs,hv with
 | [fv,sv,kv,dv],hv=>
   obtain⟨us,rfl,hus⟩:=hv.1;obtain⟨u0,u1,u2,u3,u4,rfl⟩:=aM5 hus;obtain⟨ss,rfl,hss⟩:=hv.2.1;obtain⟨s0,s1,s2,s3,s4,s5,rfl⟩:=bJ8 hss;have hkv:kv=.int .i64 k:=hv.2.2.1.1;subst hkv;have hdv:dv=.int .i64 d:=hv.2.2.2.1.1;subst hdv;have hen:=S.enc;cases hov:rM E X Y k a b with
   | error er=>
     have he:er≠0:=by rcases Oz hov with rfl | rfl<;>decide
     have hst:iP E X Y k a b=none:=by unfold iP;rw[hov]
     rw[hov]at hen;exact Bt M w hM E X Y a b k d er wZ [] false c hd0 hd S.fa S.fb (.inl ⟨rfl,RI E X Y a b k er hen⟩) rfl (be5 d E X Y a b k er he) (fun h=>by cases h) (fun _ h=>h12 hst h er (.inr ⟨hov,he⟩)) (fun _ h=>hrec hst h) u0 u1 u2 u3 u4 s0 s1 s2 s3 s4 s5 hus hss
   | ok F=>
     rw[hov]at hen;obtain⟨f1,f2,f3,f4⟩:=S.fF F hov;have hcl:=Ru E X Y a b k (F 0) (F 1) hen;cases h0:Mo (F 0)with
     | false=>
       have hst:iP E X Y k a b=some []:=by unfold iP;rw[hov];exact aI h0
       exact Bt M w hM E X Y a b k d 0 _ [] true c hd0 hd S.fa S.fb (.inr ⟨rfl,hcl⟩) rfl (br0 d E X Y a b k (F 0) (F 1) 4200000000 f1 f2 f3 f4 h0) (fun _=>hsome _ hst) (fun h=>by cases h) (fun h=>by cases h) u0 u1 u2 u3 u4 s0 s1 s2 s3 s4 s5 hus hss
     | true=>
       cases h1:Mo (F 1)with
       | true=>
         have hst:iP E X Y k a b=none:=by unfold iP;rw[hov];dsimp only;rw[h0,h1];rfl
         exact Bt M w hM E X Y a b k d 0 _ [] false c hd0 hd S.fa S.fb (.inr ⟨rfl,hcl⟩) rfl (bd5 d E X Y a b k (F 0) (F 1) 4200000000 f1 f2 f3 f4 h0 h1) (fun h=>by cases h) (fun _ h=>h12 hst h 0 (.inl ⟨⟨F,hov⟩,rfl⟩)) (fun _ h=>hrec hst h) u0 u1 u2 u3 u4 s0 s1 s2 s3 s4 s5 hus hss
       | false=>
         obtain⟨⟨u,hu,eu,lu,u1',u2'⟩,⟨v,hvv,ev,lv,v1',v2'⟩⟩:=S.ends F hov
         have hst:iP E X Y k a b=if(zD a b (qg (u.getD 0 (0,0))) (qg (v.getD 0 (0,0)))).2=true then some (zD a b (qg (u.getD 0 (0,0))) (qg (v.getD 0 (0,0)))).1 else none:=by
          unfold iP;rw[hov];dsimp only;rw[h0,h1,eu,ev];rfl
         have hB:=bg3 d E X Y a b k (F 0) (F 1) 4200000000 f1 f2 f3 f4 h0 h1 u v hu hvv lu lv u1' u2' v1' v2';generalize zD a b (qg (u.getD 0 (0,0))) (qg (v.getD 0 (0,0)))=zz at hst hB;exact Bt M w hM E X Y a b k d 0 _ zz.1 zz.2 c hd0 hd S.fa S.fb (.inr ⟨rfl,hcl⟩) rfl hB (fun h=>hsome _ (by rw[hst,aI h])) (fun h h2=>h12 (by rw[hst,h];rfl) h2 0 (.inl ⟨⟨F,hov⟩,rfl⟩)) (fun h=>hrec (by rw[hst,h];rfl)) u0 u1 u2 u3 u4 s0 s1 s2 s3 s4 s5 hus hss
 | [],hv=>exact hv.elim
 | [_],hv=>exact hv.2.elim
 | [_,_],hv=>exact hv.2.2.elim
 | [_,_,_],hv=>exact hv.2.2.2.elim
 | _::_::_::_::_::_,hv=>exact hv.2.2.2.2.elim
def WB{lo hi:Rat}(hst:∀n a b,EG lo hi n a b->PH E X Y k a b):∀n:Nat,n<=12->∀a b,EG lo hi n a b->vK E X Y k (12-(n:Int)) a b (zE E X Y k n a b):=by
 intro n
 induction n with
 | zero=>
   intro _ a b hd;exact OV (hst 0 a b hd) O O (fun z h=>ae4 h) (fun h _ er he=>bh9 h he) (fun _ h=>absurd O h)
 | succ n ih=>
   intro hn a b hd;refine OV (hst _ a b hd) O O (fun z h=>ae4 h) (fun h h2=>O) (fun h _=>?_);obtain⟨d1,d2⟩:=hd.half;have e:(12-((n+1:Nat):Int))+1=12-(n:Int):=O
   rw[e];refine⟨_,_,ih O _ _ d1,ih O _ _ d2,fun x y hx hy=>?_,bv5 h⟩;have h1:=(aK8 _ _ _ _ hx).2;have h2:=(aK8 _ _ _ _ hy).2;have h3:2^n<=2^12:=cB O O;omega
def aP4(c:Except Int VS):VS×Int:=match c with
 | .ok z=>(z,0)
 | .error e=>([],e)
end
theorem ar1{E:j0}{X:Rat}{Y:j1}{k d:Int}{a b:Rat}{c:Except Int VS}(h:vK E X Y k d a b c):aK prog 172 [fT E X Y,kP a b,.one (.int .i64 k),.one (.int .i64 d)] (match c with
  | .ok z=>.ret [.one (.slice 6 (vS z))]
  | .error e=>.pan (zI e)):=by
 refine⟨bM aT,fun M w vs hM hv=>(h M w vs hM hv).mono ?_⟩;rintro e w' ⟨hb,hz⟩;refine⟨hb,?_⟩;cases c with
 | ok z=>
   obtain⟨v,rfl,ho⟩:=hz;exact⟨[v],rfl,ho.slice (fun b h=>h) hM.1,trivial⟩
 | error er=>exact⟨LR er,hz,rfl,rfl⟩
def Si(E:j0)(X:Rat)(Y:j1)(a b:Rat)(k er:Int)(h:aK prog 172 [fT E X Y,kP a b,.one (.int .i64 k),.one (.int .i64 0)] (.pan (zI er))):aK prog 171 [(.one (.aW (fC E X Y)):aF),(.one (.aW (cM a b)):aF),(.one (.aW ([.int .i64 k])):aF),(.one (.aW ([.exact (.slice none 0 0)])):aF)] (.pan (zI er)):=by
 refine dvr (ins:=[.ref (fC E X Y),.ref (cM a b),.ref ([.int .i64 k]),.ref ([.exact (.slice none 0 0)])]) func171 WJ ?_;exact vcp h rfl
def Rj(E:j0)(X:Rat)(Y:j1)(a b:Rat)(k:Int)(z:VS)(h:aK prog 172 [fT E X Y,kP a b,.one (.int .i64 k),.one (.int .i64 0)] (.ret [.one (.slice 6 (vS z))])):rj prog 171 118 [(.one (.aW (fC E X Y)):aF),(.one (.aW (cM a b)):aF),(.one (.aW ([.int .i64 k])):aF)] ([.exact (.slice none 0 0)]) [] ([.slice 6 (vS z)]):=by
 refine JV (a1:=[.ref 5,.ref 6,.ref 1]) (i1:=[.ref (fC E X Y),.ref (cM a b),.ref ([.int .i64 k])]) (n:=1) (hints:=(fun _=>none)) fo func171 ⟨rfl,rfl,rfl,trivial⟩ rfl rfl ?_;rw[GN];dsimp only[List.map,In.env,aP,aQ];apply aA h;refine BE (ts:=[[.exact (.slice none 0 0)]]) (us:=[[.slice 6 (vS z)]]) rfl rfl O (cells:=[.exact (.slice none 0 0)]) rfl rfl ?_;dsimp only[aP,aQ];exact yC rfl rfl
def Yd(E:j0)(X:Rat)(Y:j1)(a b:Rat)(k:Int)(hck:aK prog 21 [fT E X Y] (.ret [.one (.int .i64 0)]))(ha:Fit 513 a)(hb:Fit 513 b)(hno:¬a<b):aK prog 85 [(fT E X Y:aF),(kP a b:aF),(.one (.int .i64 k):aF)] (.ret [.one (.slice 6 (vS [])),.one (.int .i64 2)]):=by
 refine dB func85 VQ ?_;apply aA hck;apply vn jA;refine lw ?_;apply aA (GZ a b 513 ha hb);apply vn jW;refine gn (!decide (a<=b)) rfl (fun _=>?_) (fun h6=>?_)
 .exact eD ⟨aE.Sub.nil,aF.Sub.same,trivial⟩
 have hab:a<=b:=by simpa using h6
 apply aA (me a b 513 513 ha hb);apply aA (gQ (b-a));apply vn bA;dsimp only[aP,aQ];rw[gJ (sy.2 (show b-a=0 by have:=pE.1 hno;grind))];refine ut ?_;exact eD ⟨aE.Sub.nil,aF.Sub.same,trivial⟩
def aq6(E:j0)(X:Rat)(Y:j1)(a b:Rat)(k er:Int)(he:er≠0)(hck:aK prog 21 [fT E X Y] (.ret [.one (.int .i64 0)]))(ha:Fit 513 a)(hb:Fit 513 b)(hab:a<b)(h:aK prog 172 [fT E X Y,kP a b,.one (.int .i64 k),.one (.int .i64 0)] (.pan (zI er))):aK prog 85 [(fT E X Y:aF),(kP a b:aF),(.one (.int .i64 k):aF)] (.ret [.one (.slice 6 (vS [])),.one (.int .i64 er)]):=by
 refine dB func85 VQ ?_;apply aA hck;apply vn jA;refine lw ?_;have hv:=GZ a b 513 ha hb;rw[gJ (pD hab)]at hv;apply aA hv;apply vn jW;refine lw ?_;apply aA (me a b 513 513 ha hb);apply aA (gQ (b-a));apply vn bA;dsimp only[aP,aQ];rw[ej (fun h=>(show ¬b-a=0 by grind) (sy.1 h))];refine lw ?_;apply aA (Ss 171 [.aW (fC E X Y),.aW (cM a b),.aW [.int .i64 k],.aW [.exact (.slice none 0 0)]] er (Si E X Y a b k er h));apply vn jA;dsimp only[aP,aQ];rw[gJ he];refine ut ?_;exact eD ⟨aE.Sub.nil,aF.Sub.same,trivial⟩
def bF8(v6 v7:Value)(E:j0)(X:Rat)(Y:j1)(a b:Rat)(k:Int)(hck:aK prog 21 [fT E X Y] (.ret [.one (.int .i64 0)]))(ha:Fit 513 a)(hb:Fit 513 b)(hab:a<b):vc prog (fun o=>ey o (.ret [.one (.aW (fC E X Y)),.one (.aW (cM a b)),.one (.aW [.int .i64 k]),.one (.exact v6),.one (.exact v7)])) (lG prog 30 (fun _=>none) (cJ [1] (dJ f85)) [(3,.ref 5),(4,.ref 6),(5,.ref 1),(6,.v none),(7,.v none)] ([3,4,5,6,7].map ResultVar.tmp) (some 0) false) ([.ref (fC E X Y),.ref (cM a b),.ref ([.int .i64 k]),.v (.one (.exact v6)),.v (.one (.exact v7))].map In.env) []:=by
 rw[UA];dsimp only[List.map,In.env,aP,aQ];apply aA hck;apply vn jA;refine lw ?_;have hv:=GZ a b 513 ha hb;rw[gJ (pD hab)]at hv;apply aA hv;apply vn jW;refine lw ?_;apply aA (me a b 513 513 ha hb);apply aA (gQ (b-a));apply vn bA;dsimp only[aP,aQ];rw[ej (fun h=>(show ¬b-a=0 by grind) (sy.1 h))];refine lw ?_;exact aN
end Go.Sy
namespace Go.Sy
open Go Go.Proofs Go.RowKit Tryz Ord
attribute [local go_sem] Oper.semAt_some
def aQ4(M:j2)(w:World)(hM:cX M w)(E:j0)(X:Rat)(Y:j1)(a b:Rat)(k:Int)(z:VS)(hck:aK prog 21 [fT E X Y] (.ret [.one (.int .i64 0)]))(ha:Fit 513 a)(hb:Fit 513 b)(hab:a<b)
  (hcl:rj prog 171 118 [.one (.aW (fC E X Y)),.one (.aW (cM a b)),.one (.aW [.int .i64 k])] [.exact (.slice none 0 0)] [] [.slice 6 (vS z)])
  (u0 u1 u2 u3 u4 s0 s1 s2 s3 s4 s5:Value) (hf:ai M w (fC E X Y) [u0,u1,u2,u3,u4]) (hs:ai M w (cM a b) [s0,s1,s2,s3,s4,s5]) :
  Calls prog 85 #[.agg #[u0,u1,u2,u3,u4],.agg #[s0,s1,s2,s3,s4,s5],.int .i64 k] w fun e w'=>Below w.heap.size w w'/\∃v,e=.returned (.tuple #[v,.int .i64 0])/\ai M w' [.slice 6 (vS z)] [v]:=by
 have hmf:=AC;obtain⟨n0,hn0⟩:∃n0,w.heap.size=n0:=⟨_,rfl⟩
 obtain⟨o0,o1,o2,o3,o4⟩:u0.oneCell'=true/\u1.oneCell'=true/\u2.oneCell'=true/\u3.oneCell'=true/\u4.oneCell'=true:=by have:=hf.one;exact⟨this _ bY,this _ bY,this _ bY,this _ bY,this _ bY⟩
 obtain⟨p0,p1,p2,p3,p4,p5⟩:=A7 hs.one
 refine jn func85 rfl ?_;simp only[ntmps85,ed,bm,ck,Nat.reduceAdd,Nat.reduceSub,fX,fW,fS,fU,List.nil_append,List.cons_append];refine fA ?_;generalize hK:Exit.then _ _=K
 go_wp2
 rw[<-hK];clear hK K;show Code.wp _ _ _ _ _;obtain⟨W1,hW1⟩:∃W1,(((w.alloc (.cells #[u0,u1,u2,u3,u4] 42)).alloc (.cells #[s0,s1,s2,s3,s4,s5] 123)).alloc (.cells #[.int .i64 k] 3))=W1:=⟨_,rfl⟩
 have hs1:W1.heap.size=n0+3:=by rw[<-hW1];simp[hn0]
 have hB1:Below w.heap.size w W1:=by rw[<-hW1];exact(((cz _ w).alloc (ah _) _).alloc bY _).alloc iF _
 have hF1:W1.heap[n0]?=some (.cells #[u0,u1,u2,u3,u4] 42 (0,0)):=by rw[<-hW1,bJ _ _ _ iF,bJ _ _ _ iF,<-hn0];exact bc w _
 have hS1:W1.heap[n0+1]?=some (.cells #[s0,s1,s2,s3,s4,s5] 123 (0,0)):=by
  rw[<-hW1,bJ _ _ _ iF];have:=bc (w.alloc (.cells #[u0,u1,u2,u3,u4] 42)) (.cells #[s0,s1,s2,s3,s4,s5] 123)
  rwa[br,hn0]at this
 have hK1:W1.heap[n0+1+1]?=some (.cells #[.int .i64 k] 3 (0,0)):=by
  rw[<-hW1];have:=bc ((w.alloc (.cells #[u0,u1,u2,u3,u4] 42)).alloc (.cells #[s0,s1,s2,s3,s4,s5] 123)) (.cells #[.int .i64 k] 3)
  rwa[br,br,hn0]at this
 rw[hW1];clear hW1;have hk01:bq M w M W1:=bq.below hB1;have hM1:cX M W1:=⟨fun b hb=>by have:=hM.1 b hb;omega,hM.2.below rfl hB1⟩
 have nM:∀j,n0<=j->¬M j:=fun j hj h=>by have:=hM.1 j h;omega
 refine wY (n:=0) (ins:=[(3,.ref 5),(4,.ref 6),(5,.ref 1),(6,.v none),(7,.v none)]) (xs:=[.ref (fC E X Y),.ref (cM a b),.ref [.int .i64 k],.v (.one (.exact (.slice none 0 0))),.v (.one (.exact (.int .i64 0)))]) fo ⟨rfl,rfl,rfl,rfl,rfl,trivial⟩
  (bF8 _ _ E X Y a b k hck ha hb hab) aT hM1 rfl rfl
  ⟨⟨n0,0,_,_,_,rfl,nM _ O,hF1,hf.mono hk01⟩,⟨n0+1,0,_,_,_,rfl,nM _ O,hS1,hs.mono hk01⟩,⟨n0+1+1,0,_,_,_,rfl,nM _ O,hK1,⟨⟨rfl,rfl⟩,trivial⟩⟩,⟨rfl,rfl⟩,⟨rfl,rfl⟩,trivial⟩ ?_ (by intro c v a' w' h;cases h)
 intro e a' W2 rs us hrs hex hB2 hsz hdf hrun hus;cases hrs;cases e with
 | exit id=>cases hex
 | ret=>cases hex
 | normal=>
 have huse:=ja hrun;subst huse;have h3:(aE.aW (fC E X Y)).rep M W2 (a'.tmps.getD 3 undef):=hus.1;have h4:(aE.aW (cM a b)).rep M W2 (a'.tmps.getD 4 undef):=hus.2.1;have h5:(aE.aW [.int .i64 k]).rep M W2 (a'.tmps.getD 5 undef):=hus.2.2.1;clear hus hrun hex;obtain⟨t,ds⟩:=a';have hds:ds=[]:=hdf;subst hds;have hsz:t.size=30:=hsz;show Code.wp _ (oe 0 _) _ _ _;simp only[oe];rw[kw (t:=t) hsz];simp only[]at h3 h4 h5;generalize t.getD 3 undef=v3 at *;generalize t.getD 4 undef=v4 at *;generalize t.getD 5 undef=v5 at *;have hM2:cX M W2:=⟨fun b hb=>bt (hM1.1 b hb) hB2.size,hM1.2.below rfl hB2⟩
 have hBw:Below w.heap.size w W2:=hB1.trans (hB2.mono hB1.size);obtain⟨A,hA⟩:∃A,W2.heap.size=A:=⟨_,rfl⟩
 obtain⟨W3,hW3⟩:∃W3,W2.alloc (.cells #[.slice none 0 0] 118)=W3:=⟨_,rfl⟩
 have hA3:W3.heap[A]?=some (.cells #[.slice none 0 0] 118 (0,0)):=by rw[<-hW3,<-hA];exact bc W2 _
 have hs3:W3.heap.size=A+1:=by rw[<-hW3,br,hA]
 have hBw3:Below w.heap.size w W3:=by rw[<-hW3];exact hBw.alloc (by have:=hBw.size;omega) _
 have hk23:bq M W2 (fun b=>M b\/b=A) W3:=fun b o hb ho _=>by
  have hl:=(cf.1 ho).1;exact⟨fun h=>h.elim hb O,by rw[<-hW3];exact(bJ _ _ _ hl).trans ho⟩
 have hM3:cX (fun b=>M b\/b=A) W3:=⟨fun b hb=>by
  rcases hb with h | h
  .have:=hM2.1 b h;omega
  .omega,hM2.2.jc hk23⟩
 have hMA:¬M A:=fun h=>by have:=hM2.1 _ h;omega
 have hca:=yR 171 (bM aT) M W3 A 118 _ [.exact (.slice none 0 0)] [.slice 6 (vS z)] [.one (.aW (fC E X Y)),.one (.aW (cM a b)),.one (.aW [.int .i64 k])] [v3,v4,v5] 0 hM3 hMA hA3
  ⟨aE.mono _ hk23 h3,aE.mono _ hk23 h4,aE.mono _ hk23 h5,trivial⟩ (fun _ _=>⟨⟨rfl,rfl⟩,trivial⟩) (.inr ⟨rfl,hcl⟩)
 simp only[aP,aQ]at hca;refine fA ?_;generalize hK:Exit.then _ _=K
 go_wp2
 rw[<-hK];clear hK K
 go_wp2_with (go_at_call 121;refine hca.mono ?_)
 rintro e w4 ⟨rfl,hg,us,hus,hrus⟩
 obtain⟨v,rfl⟩:∃v,us=#[v]:=by
  have:=hrus.length
  match us,this with
  | ⟨[v]⟩,_=>exact⟨v,rfl⟩
 have cv:w4.cell? ⟨A,0,none⟩=some v:=aH hus rfl;have hv1:v.oneCell'=true:=hrus.one v bY;have hr9:ai M w4 [.slice 6 (vS z)] [v]:=hrus.mono fun b o hb ho _=>⟨fun h=>hb (.inl h),ho⟩
 have hb9:Below w.heap.size w w4:=⟨by rw[hg.os,hBw3.os],by rw[hg.tape,hBw3.tape],by rw[hg.output,hBw3.output],an hBw3.size hg.size,fun j hj=>by
  rw[hg.block j (bt hj hBw3.size) (fun e=>by have:=hBw.size;simp only[aM]at e;omega),hBw3.block j hj]⟩
 go_wp2
 simp[bodyPost,results,show f85.results=#[.tmp 6,.tmp 7]from rfl,go_sem];exact⟨hb9,hr9⟩
def aT3(E:j0)(X:Rat)(Y:j1)(a b:Rat)(k:Int)(c:Except Int VS)(hck:aK prog 21 [fT E X Y] (.ret [.one (.int .i64 0)]))(ha:Fit 513 a)(hb:Fit 513 b)(hab:a<b)(hz:vK E X Y k 0 a b c)(hc:∀er,c=.error er->er≠0) :
  aK prog 85 [fT E X Y,kP a b,.one (.int .i64 k)] (.ret [.one (.slice 6 (vS (aP4 c).1)),.one (.int .i64 (aP4 c).2)]):=by
 have ho:=ar1 hz;cases c with
 | error er=>exact aq6 E X Y a b k er (hc er rfl) hck ha hb hab ho
 | ok z=>
   refine⟨bM aT,fun M w vs hM hv=>?_⟩
   match vs,hv with
   | [fv,sv,kv],hv=>
     obtain⟨us,rfl,hus⟩:=hv.1;obtain⟨u0,u1,u2,u3,u4,rfl⟩:=aM5 hus;obtain⟨ss,rfl,hss⟩:=hv.2.1;obtain⟨s0,s1,s2,s3,s4,s5,rfl⟩:=bJ8 hss;have hkv:kv=.int .i64 k:=hv.2.2.1.1;subst hkv;refine(aQ4 M w hM E X Y a b k z hck ha hb hab (Rj E X Y a b k z ho) u0 u1 u2 u3 u4 s0 s1 s2 s3 s4 s5 hus hss).mono ?_;rintro r w' ⟨hb1,v,rfl,hr⟩;exact⟨hb1,[v,.int .i64 0],rfl,hr.1,⟨rfl,rfl⟩,trivial⟩
   | [],hv=>exact hv.elim
   | [_],hv=>exact hv.2.elim
   | [_,_],hv=>exact hv.2.2.elim
   | _::_::_::_::_,hv=>exact hv.2.2.2.elim
end Go.Sy
namespace Go.Sy
open Go Go.Proofs Tryz Ord
def mj:Tr:=hx137Q 
def bF9:Tr:=OS 1 0 1 2 0 0 0 1 0 2 6 8 (ju 2 0 0 3 9 (aJ 3 0 (OS 0 3 4 5 1 3 1 4 1 5 13 15 (ju 4 0 0 3 16 (cC 5))) mj))
def aq5:aO prog f89 cT [.v (some 6),.v (some 6)]=bF9:=aT
def bg7:Tr:=mr 32 0 0 118 166 (dK 64 6 123 167 (eO 69 [G6 65,.agg [tN,tE (.bool false),tN]] [none] [168,169] [123,39] 4 true (kq 66 0 170 (aJ 67 0 mj (bX 26 1 3 93 (kA 0 25 68))))))
def aR4:Tr:=dK 66 6 123 176 (eO 67 [G6 65,G6 67] [some 6] [174,177] [123,123] 123 false (vD 35 68 0 1 2 179 39 3 (my 69 0 0 3 180 (aJ 70 0 mj (bX 26 1 3 93 (kA 0 25 71))))))
def bo8:Tr:=eO 80 [G6 60] [some 3] [162] [123] 39 false (vD 35 61 0 1 2 163 39 3 (gd 62 0 0 3 164 (aJ 63 0 bg7 (mr 32 0 0 118 172 (dK 64 6 123 173 (mr 37 0 0 118 175 aR4))))))
def br4:Tr:=De 54 123 152 0 (dK 55 3 39 153 (OS 53 0 1 2 56 0 56 1 56 2 149 154 (ia 57 0 0 3 155 (aJ 58 0 mj (jL 22 0 26 0 118 159 160 (dK 59 6 123 161 bo8))))))
def aC0:Tr:=mr 32 0 0 118 166 (dK 55 6 123 167 (eO 69 [G6 56,.agg [tN,tE (.bool false),tN]] [none] [168,169] [123,39] 4 true (kq 57 0 170 (aJ 58 0 mj (bX 26 1 3 93 (kA 0 25 59))))))
def ax0:Tr:=dK 57 6 123 176 (eO 67 [G6 56,G6 58] [some 6] [174,177] [123,123] 123 false (vD 35 59 0 1 2 179 39 3 (my 60 0 0 3 180 (aJ 61 0 mj (bX 26 1 3 93 (kA 0 25 62))))))
def aA3:Tr:=eO 80 [G6 51] [some 3] [162] [123] 39 false (vD 35 52 0 1 2 163 39 3 (gd 53 0 0 3 164 (aJ 54 0 aC0 (mr 32 0 0 118 172 (dK 55 6 123 173 (mr 37 0 0 118 175 ax0))))))
def bp9:Tr:=ia 26 0 0 3 141 (aJ 49 0 (iJ 26 1 145 (jL 22 0 50 0 118 144 146 (De 51 123 147 1 (dK 52 3 39 148 (jL 22 0 26 0 118 150 151 br4))))) (jL 22 0 26 0 118 159 160 (dK 50 6 123 161 aA3)))
def br5:Tr:=gd 43 0 0 3 128 (aJ 44 0 mj (jL 22 0 26 0 118 132 133 (dK 45 6 123 134 (eO 89 [G6 46,G6 10] [none] [135,136] [123,123] 4 false (kq 47 0 137 (aJ 48 0 mj bp9))))))
def aY2:Tr:=aJ 39 0 mj (oK 38 55 118 (aJ 40 0 mj (bD 32 0 122 118 (gd 41 0 0 3 123 (aJ 42 0 mj (bD 37 0 127 118 br5))))))
def bc1:Tr:=dK 30 3 39 100 (Zv 31 0 1 2 96 101 (jL 22 0 26 0 118 107 108 (De 34 123 109 1 (dK 35 3 39 110 (Zv 36 0 1 2 106 111 (oK 33 55 115 aY2))))))
def aU7:Tr:=dK 43 6 123 221 (eO 67 [G6 42,G6 44] [some 6] [219,222] [123,123] 123 false (tk 35 45 3 4 5 224 39 3 (kp 46 0 0 3 225 (aJ 47 0 mj (tO (cC 48))))))
def aD4:Tr:=aJ 38 0 mj (bD 31 0 212 118 (gd 39 0 0 3 213 (aJ 40 0 mj (mr 29 0 0 118 217 (dK 41 6 123 218 (mr 31 0 0 118 220 aU7))))))
def av0:Tr:=aJ 34 0 (gd 30 0 0 55 200 (aJ 35 0 (gd 32 0 0 55 204 (aJ 36 0 (bD 29 0 208 118 (gd 37 0 0 3 209 aD4)) (tO (cC 37)))) (tO (cC 36)))) (tO (cC 35))
def bj2:Tr:=bD 22 0 90 118 (dW 26 27 0 3 89 91 4 (aJ 28 0 (jL 22 0 26 0 118 97 98 (De 29 123 99 0 bc1)) (Zv 10 0 1 2 183 185 (Zv 10 3 4 5 190 192 (bD 22 0 196 118 (gd 33 0 0 3 197 av0))))))
def bl6:Tr:=kq 20 0 76 (aJ 21 0 (tO (cC 22)) (.need (.call 85 [G5 8,G6 10,WK 8] [none,none]) (D5 85 #[tT 81,tT 82,.const (I3 8)] #[42,123,3]) 130 false (oK 23 55 86 (aJ 24 0 (tO (cC 25)) (Rm bj2)))))
def bg0:Tr:=kq 16 0 62 (aJ 17 0 (tO (cC 18)) (eO 75 [G6 9,G4 11] [none] [66,68] [52,49] 4 false (kq 18 0 69 (aJ 19 0 (tO (cC 20)) (eO 75 [G6 9,.agg [U 11 4,U 11 5,U 11 6,U 11 7]] [none] [73,75] [52,49] 4 false bl6)))))
def bk7:Tr:=oK 12 55 47 (aJ 13 0 (tO (cC 14)) (eO 70 [G4 11,.agg [U 9 1,U 9 2,U 9 3,U 9 4]] [none] [51,53] [49,49] 4 false (kq 14 0 54 (aJ 15 0 (tO (cC 16)) (eO 70 [.agg [U 11 4,U 11 5,U 11 6,U 11 7],.agg [U 9 1,U 9 2,U 9 3,U 9 4]] [none] [59,61] [49,49] 4 false bg0)))))
def bP2:Tr:=aJ 5 0 (tO (cC 6)) (tk 39 1 3 4 5 31 26 4 (kq 6 0 32 (aJ 7 0 (tO (cC 8)) (eO 17 [G8 0] [some 5,some 6] [37] [29] 53 false (eO 82 [G6 1] [some 6,some 8] [42] [147] 148 false (eO 21 [G5 8] [none] [46] [42] 55 false bk7))))))
def bW0:Tr:=eO 15 [G8 0] [none] [20] [29] 4 false (kq 2 0 21 (aJ 3 0 (tO (cC 4)) (tk 39 1 0 1 2 25 26 4 (kq 4 0 26 bP2))))
def MR:aO prog f14 cT [.v (some 8),.v (some 6)]=bW0:=aT
def am2{stop:Rat->Rat->Option VS}{D:Nat->Rat->Rat->Prop}{Pm:Rat×Rat->Prop}(hD:∀n a b,D (n+1) a b->D n a (ao (a+b))/\D n (ao (a+b)) b)(hs:∀n a b z,D n a b->stop a b=some z->∀p∈z,Pm p) :
  ∀(n:Nat)(a b:Rat)(z:VS),D n a b->Af stop n a b=some z->∀p∈z,Pm p:=by
 intro n
 induction n with
 | zero=>exact hs 0
 | succ n ih=>
   intro a b z d h;unfold Af at h;split at h
   .rename_i z' hz;cases h;exact hs _ a b z d hz
   .split at h
    .rename_i x y hx hy;cases h;obtain⟨d1,d2⟩:=hD n a b d;intro p hp;rcases iM.1 hp with hp | hp
     .exact ih a _ x d1 hx p hp
     .exact ih _ b y d2 hy p hp
    .cases h
theorem PD{stop:Rat->Rat->Option VS}(hs:∀a b,stop a b=none):∀(n:Nat)(a b:Rat),Af stop n a b=none
 | 0,a,b=>hs a b
 | n+1,a,b=>by unfold Af;rw[hs,PD hs n a]
def yn{x y:Rat}(h:x*y<0):(0<x/\y<0)\/(x<0/\0<y):=by
 by_cases hx:0<x
 .by_cases hy:y<0
  .exact .inl ⟨hx,hy⟩
  .have:=af (pD hx) (pE.1 hy);grind
 .by_cases hy:0<y
  .by_cases h0:x<0
   .exact .inr ⟨h0,hy⟩
   .have:x=0:=e9
    rw[this]at h;grind
  .have:=af (a:=-x) (b:=-y) e9 e9;grind
def GY{x y:Rat}(hx:x<0)(hy:0<y):x*y<0:=by
 have:=FB (show 0 < -x by grind) hy
 grind
def am9{p q:k5}(h:(p.1<0/\0<q.2)\/(0<p.2/\q.1<0)):jq p.1 p.2 q.1 q.2<0:=by
 rcases h with⟨h1,h2⟩ | ⟨h1,h2⟩
 .have l1:jq p.1 p.2 q.1 q.2<=p.1*q.2:=qR (l:=hU p.1 p.2 q.1 q.2) 4 1 O;have:=GY h1 h2
  grind
 .have l2:jq p.1 p.2 q.1 q.2<=p.2*q.1:=qR (l:=hU p.1 p.2 q.1 q.2) 4 2 O;have:=GY h2 h1
  grind
def al0{p q:k5}(h:jz p.1 p.2 q.1 q.2<0):tl p q:=by
 have g0:p.1*q.1<=jz p.1 p.2 q.1 q.2:=lx (l:=hU p.1 p.2 q.1 q.2) 4 0 O;have g1:p.1*q.2<=jz p.1 p.2 q.1 q.2:=lx (l:=hU p.1 p.2 q.1 q.2) 4 1 O;have g2:p.2*q.1<=jz p.1 p.2 q.1 q.2:=lx (l:=hU p.1 p.2 q.1 q.2) 4 2 O;rcases yn (show p.1*q.1<0 by grind)with⟨a1,a2⟩ | ⟨a1,a2⟩
 .rcases yn (show p.1*q.2<0 by grind)with⟨b1,b2⟩ | ⟨b1,b2⟩
  .exact .inl ⟨a1,b2⟩
  .grind
 .rcases yn (show p.2*q.1<0 by grind)with⟨b1,b2⟩ | ⟨b1,b2⟩
  .grind
  .exact .inr ⟨b1,a2⟩
def aB0(c:bL)(x:Rat)(u:VS):Prop:=aK prog 72 [fT c.E c.X c.Y,qT x,.one (.int .i64 10)] (.ret [.one (.slice 6 (vS u)),.one (.int .i64 0)])/\0<u.length/\Fit 768021200 (u.getD 0 (0,0)).1/\Fit 768021200 (u.getD 0 (0,0)).2
structure bt5(c:bL)(lo hi:Rat)(z:VS):Prop where
 mem:∀i,i<z.length->∃u v,aB0 c (z.getD i (0,0)).1 u/\aB0 c (z.getD i (0,0)).2 v/\Fit 513 (z.getD i (0,0)).1/\Fit 513 (z.getD i (0,0)).2/\lo<=(z.getD i (0,0)).1/\(z.getD i (0,0)).2<=hi /\
  ((z.getD i (0,0)).1=(z.getD i (0,0)).2->(u.getD 0 (0,0)).1<=0/\0<=(u.getD 0 (0,0)).2)/\((z.getD i (0,0)).1≠(z.getD i (0,0)).2->jq (u.getD 0 (0,0)).1 (u.getD 0 (0,0)).2 (v.getD 0 (0,0)).1 (v.getD 0 (0,0)).2<0)
 ord:∀i,0<i->i<z.length->(z.getD (i-1) (0,0)).2<=(z.getD i (0,0)).1
 ends:∃u v,aB0 c lo u/\aB0 c hi v/\(z=[]->¬jz (u.getD 0 (0,0)).1 (u.getD 0 (0,0)).2 (v.getD 0 (0,0)).1 (v.getD 0 (0,0)).2<0)
 len:z.length<=4096
section
variable{c:bL}
def bt5.of(hC:um c)(hs0:c.small=true)(hok:okF c.E c.X c.Y=true){aB:Rat}{st:Nat}(R:Oy c.E c.X aB st)(h24:st<=24){lo hi:Rat}(hl:(lo-c.X).abs*2<=aB)(hh:(hi-c.X).abs*2<=aB){n:Nat}(hd:EG lo hi n lo hi){z:VS}(hz:vd c.E c.X c.Y 8 n lo hi=some z)(hlen:z.length<=4096):bt5 c lo hi z:=by
 obtain⟨l2,l5,hyl,_,_⟩:=pv hok;have F8:Field c.E c.X c.Y 8 lo hi:=Field.of R h24 hyl hl hh O;have F10:Field c.E c.X c.Y 10 lo hi:=Field.of R h24 hyl hl hh O;have hlh:=hd.2.1
 have ev:∀x,lo<=x->x<=hi->kD x->∃u,fe c.E x 10 64 c.X (MH c.Y)=some u/\aB0 c x u:=fun x h1 h2 hx=>by
  obtain⟨u,hu⟩:=F10.hval x h1 h2;obtain⟨eA,wA⟩:=Yq hC (k:=10) O (LI hs0 hok hx) hok fun a ha=>(hC.yf a ha).mono O;rw[hu]at eA;obtain⟨w1,w2⟩:=wA u hu;have hl:0<u.length:=O
  obtain⟨f1,f2⟩:=w2 _ (cj (cY (v:=u) (l:=0) hl));exact⟨u,hu,eA,hl,f1,f2⟩
 have Dv:∀p∈z,kD p.1/\kD p.2:=am2 (stop:=iP c.E c.X c.Y 8) (D:=EG lo hi) (Pm:=fun p=>kD p.1/\kD p.2) (fun n a b d=>d.half) (fun n a b z d h=>by
  obtain⟨D,h0,hD,ea,eb⟩:=d.two;have fa:=ea.Dv h0 O;have fb:=eb.Dv h0 O;rcases uM h with rfl | rfl | rfl
  .exact fun p hp=>absurd hp bY
  .exact fun p hp=>by cases eo.1 hp;exact⟨fa,fa⟩
  .exact fun p hp=>by cases eo.1 hp;exact⟨fa,fb⟩) n lo hi z hd hz
 have hin:=ZG (stop:=iP c.E c.X c.Y 8) (fun a b z h=>uM h) n lo hi z hlh hz;refine⟨fun i hi'=>?_,fun i h0 hi'=>?_,?_,hlen⟩
 .have hp:z.getD i (0,0)∈z:=cj (cY hi');obtain⟨f1,f2⟩:=Dv _ hp;obtain⟨g1,g2,g3⟩:=hin.1 _ hp;obtain⟨u,hu,eu⟩:=ev _ g1 (bH g2 g3) f1;obtain⟨v,hv,evv⟩:=ev _ (bH g1 g2) g3 f2;obtain⟨a1,a2⟩:=XI F8 hlh hz hp hu hv;exact⟨u,v,eu,evv,f1.fit.mono O,f2.fit.mono O,g1,g3,a1,fun h=>am9 (a2 h)⟩
 .have h:=List.pairwise_iff_getElem.1 hin.2 (i-1) i O hi' O;rw[dp,dp,bU hi',bU (show i-1<z.length by omega)];exact h
 .obtain⟨D,h0,hD,ea,eb⟩:=hd.two;obtain⟨u,hu,eu⟩:=ev lo ak hlh (ea.Dv h0 O);obtain⟨v,hv,evv⟩:=ev hi hlh ak (eb.Dv h0 O);exact⟨u,v,eu,evv,fun he h=>by subst he;exact xP F8 hlh hz hu hv (al0 h)⟩
def VG(hC:um c)(hs0:c.small=true)(hok:okF c.E c.X c.Y=true){lo hi:Rat}(hlt:lo<hi){D:Nat}(h0:D≠0)(hD:D<=2^20)(el:oY D lo)(eh:oY D hi)
  (hr:∀aB st,bp (aV c.E c.X) (c.E.length-1) (aG c.E c.X)=some (aB,st)->st<=24/\(lo-c.X).abs*2<=aB/\(hi-c.X).abs*2<=aB) :
  ∃o:Except Int VS,aK prog 85 [fT c.E c.X c.Y,kP lo hi,.one (.int .i64 8)] (.ret [.one (.slice 6 (vS (aP4 o).1)),.one (.int .i64 (aP4 o).2)])/\(∀e,o=.error e->e≠0)/\∀z,o=.ok z->bt5 c lo hi z:=by
 have hreg:=QB hok;obtain⟨l2,l5,hyl,_,_⟩:=pv hok;have hd:EG lo hi 12 lo hi:=⟨ak,pD hlt,ak,D,h0,an (cg _ hD) dO,el,eh⟩
 have hst:∀n a b,EG lo hi n a b->PH c.E c.X c.Y 8 a b:=fun n a b d=>by
  obtain⟨D',h0',hD',ea,eb⟩:=d.two;refine PH.of hC hs0 hok O h0' hD' ea eb d.2.1 fun F hF=>?_;obtain⟨o,ho⟩:∃o,bp (aV c.E c.X) (c.E.length-1) (aG c.E c.X)=o:=⟨_,rfl⟩
  cases o with
  | none=>rw[PB ho]at hF;cases hF
  | some rs=>
    obtain⟨aB,st⟩:=rs;obtain⟨h1,h2,h3⟩:=hr aB st ho;have F8:Field c.E c.X c.Y 8 lo hi:=Field.of ⟨hreg,ho⟩ h1 hyl h2 h3 O;exact⟨F8.hval a d.1 (bH d.2.1 d.2.2.1),F8.hval b (bH d.1 d.2.1) d.2.2.1⟩
 have hz:=WB hst 12 (ah _) lo hi hd;rw[show(12:Int)-((12:Nat):Int)=0 by omega]at hz;have ha:Fit 513 lo:=(el.Dv h0 O).fit.mono O;have hb:Fit 513 hi:=(eh.Dv h0 O).fit.mono O;have her:∀e,zE c.E c.X c.Y 8 12 lo hi=.error e->e≠0:=fun e h=>by rcases cm8 _ _ _ _ h with rfl | rfl<;>decide
 refine⟨_,aT3 c.E c.X c.Y lo hi 8 _ (GG hC hok) ha hb hlt hz her,her,fun z h=>?_⟩;obtain⟨h1,h2⟩:=aK8 _ _ _ _ h;obtain⟨o,ho⟩:∃o,bp (aV c.E c.X) (c.E.length-1) (aG c.E c.X)=o:=⟨_,rfl⟩
 cases o with
 | none=>
   unfold vd at h1;rw[PD (fun a b=>by unfold iP;rw[PB ho])]at h1;cases h1
 | some rs=>
   obtain⟨aB,st⟩:=rs;obtain⟨h3,h4,h5⟩:=hr aB st ho;exact bt5.of hC hs0 hok ⟨hreg,ho⟩ h3 h4 h5 hd h1 h2
end
def ai9(a b c d:Rat)(B:Nat)(ha:Fit B a)(hb:Fit B b)(hc:Fit B c)(hd:Fit B d)(h1:c<=a)(h2:b<=d)(hB:B<=2147483648:=by omega):aK prog 89 [(kP a b:aF),(kP c d:aF)] (.ret [.one (.bool true)]):=by
 refine dB func89 aq5 ?_;apply aA (ma c a B B hc ha);apply vn iQ;dsimp only[aP,aQ];rw[gJ (ic.2 h1)];refine ut ?_;apply aA (ma b d B B hb hd);apply vn iQ;dsimp only[aP,aQ];rw[gJ (ic.2 h2)];exact aN
def Mb(c:bL)(h:c.In)(l hi:bz)(hl:l.In)(hh:hi.In):aK prog 14 [(caT c:aF),(cD3 l hi:aF)] (.ret [.one (.bool true)]):=by
 refine dB func14 MR ?_;have hS:=ax9 c h;have hB:=fun hs=>bt4 c h hs;apply aA hS;apply vn jW;refine gn (!c.small) rfl (fun h2=>?_) (fun h2=>?_)
 .apply aA jV;exact aN
 have hs0:c.small=true:=by cases hh:c.small<;>simp_all
 have hC:=WD h hs0;apply aA (zj l hl);apply vn jW;refine gn (!l.short) rfl (fun h7=>?_) (fun h7=>?_)
 .apply aA jV;exact aN
 have hls:l.short=true:=by cases hh:l.short<;>simp_all
 apply aA (zj hi hh);apply vn jW;refine gn (!hi.short) rfl (fun h12=>?_) (fun h12=>?_)
 .apply aA jV;exact aN
 have hhs:hi.short=true:=by cases hh:hi.short<;>simp_all
 obtain⟨D,hD0,hD,el,eh⟩:=ay5 hls hhs;have hlf:Fit 513 l.v:=hl.bk0;have hhf:Fit 513 hi.v:=hh.bk0;apply aA (hB hs0);apply aA (SB l hi hl hh);dsimp only[aP,aQ];by_cases hok:okF c.E c.X c.Y=true
 rotate_left
 .apply aA (al2 hC (by simpa using hok));apply vn jA;refine ut ?_;apply aA jV;exact aN
 apply aA (GG hC hok);apply vn jA;refine lw ?_;apply aA (aa4 (.of l.v) c.XR (hlf.mono O) (by rw[hC.x];exact hC.xb.fit.mono O)) rfl;apply vn jW;refine gn (!SX (.of l.v) c.XR) rfl (fun h24=>?_) (fun h24=>?_)
 .apply aA jV;exact aN
 apply aA (aa4 (.of hi.v) c.XR (hhf.mono O) (by rw[hC.x];exact hC.xb.fit.mono O)) rfl;apply vn jW;refine gn (!SX (.of hi.v) c.XR) rfl (fun h29=>?_) (fun h29=>?_)
 .apply aA jV;exact aN
 obtain⟨b1,hb1,hbt1⟩:=xw hC hok (.of l.v) (hlf.mono O);apply aA hb1;apply vn jW;dsimp only[aP,aQ];refine gn (!b1) rfl (fun h34=>?_) (fun h34=>?_)
 .apply aA jV;exact aN
 have hb1t:b1=true:=by cases b1<;>simp_all
 obtain⟨b2,hb2,hbt2⟩:=xw hC hok (.of hi.v) (hhf.mono O);apply aA hb2;apply vn jW;refine gn (!b2) rfl (fun h39=>?_) (fun h39=>?_)
 .apply aA jV;exact aN
 have hb2t:b2=true:=by cases b2<;>simp_all
 by_cases hlt:l.v<hi.v
 rotate_left
 .apply aA (Yd c.E c.X c.Y l.v hi.v 8 (GG hC hok) hlf hhf hlt);apply vn jA;refine ut ?_;apply aA jV;exact aN
 obtain⟨o,hz,her,hans⟩:=VG hC hs0 hok hlt hD0 hD el eh fun aB st hv=>⟨(hbt1 hb1t aB st hv).1,(hbt1 hb1t aB st hv).2,(hbt2 hb2t aB st hv).2⟩
 cases o with
 | error e=>
   apply aA hz;apply vn jA;rw[gJ (show(aP4 (.error e)).2≠0 from her e rfl)];refine ut ?_;apply aA jV;exact aN
 | ok z=>
 have A:=hans z rfl;obtain⟨ue,ve,eul,evh,hnil⟩:=A.ends;have hzl:=A.len;replace hz:aK prog 85 [fT c.E c.X c.Y,kP l.v hi.v,.one (.int .i64 8)] (.ret [.one (.slice 6 (vS z)),.one (.int .i64 0)]):=hz;apply aA hz;apply vn jA;refine lw ?_;refine bC {i:Nat // i<=z.length} (fun g=>[.one (.bool false),.one (.int .i64 ((g.1:Nat):Int))]) (fun g=>z.length-g.1) ⟨0,cG _⟩ aR.rfl (fun _=>rfl) ?_;rintro⟨i,hi'⟩;apply vn (aZ gV (aX _));apply vn az;refine gn (decide (((i:Nat):Int)<((z.length:Nat):Int))) rfl (fun h50=>?_) (fun h50=>?_)
 .have hiz:i<z.length:=by have:=gi h50;omega
  obtain⟨u,v,eu,ev,fa,fb,g1,g2,c1,c2⟩:=A.mem i hiz;have hord:=fun h0=>A.ord i h0 hiz;apply vn (aY gV (cY (v:=z) (l:=i) hiz) (bV i));apply vn (jE Qv dO);dsimp only[aP,aQ];apply vn (t:=qT (z.getD i (0,0)).1) (ay mq dO bY (.inl rfl));apply aA eu.1;apply vn (aY gV (cY (v:=z) (l:=i) hiz) (bV i));apply vn (jE Qu dO);apply vn (t:=qT (z.getD i (0,0)).2) (ay mq dO bY (.inl rfl));apply aA ev.1;apply vn jA;refine lw ?_;apply vn jA;dsimp only[aP,aQ];refine lw ?_;apply vn (aZ gV (aX _));apply vn bA;dsimp only[aP,aQ];rw[ej (show ¬((u.length:Nat):Int)=0 by have:=eu.2.1;omega)];refine lw ?_;apply vn (aZ gV (aX _));apply vn bA;dsimp only[aP,aQ];rw[ej (show ¬((v.length:Nat):Int)=0 by have:=ev.2.1;omega)];refine lw ?_;apply vn (aY gV (cY (v:=z) (l:=i) hiz) (bV i));apply vn (t:=kP (z.getD i (0,0)).1 (z.getD i (0,0)).2) (ay kK dO bY (.inl rfl));apply aA (ai9 _ _ l.v hi.v 513 fa fb hlf hhf g1 g2);apply vn jW;refine lw ?_;apply vn fL;refine gn (decide ((0:Int)<((i:Nat):Int))) rfl (fun h80=>?_) (fun h80=>?_)
  .have hi0:0<i:=by have:=gi h80;omega
   obtain⟨_,_,_,_,_,fb',_⟩:=A.mem (i-1) O;apply vn aL;dsimp only[aP,aQ];apply vn (aY gV (cY (v:=z) (l:=i-1)) (show(((i:Nat):Int)-1).toNat=i-1 by omega));apply vn (jE Qu dO);apply vn (t:=qT (z.getD (i-1) (0,0)).2) (ay mq dO bY (.inl rfl));apply vn (aY gV (cY (v:=z) (l:=i) hiz) (bV i));apply vn (jE Qv dO);apply vn (t:=qT (z.getD i (0,0)).1) (ay mq dO bY (.inl rfl));apply aA (ma _ _ 513 513 fb' fa);apply vn fL;dsimp only[aP,aQ];rw[ej (show ¬0<mF (z.getD (i-1) (0,0)).2 (z.getD i (0,0)).1 by have:=ic.2 (hord hi0);omega)];refine lw ?_;apply vn (aY gV (cY (v:=z) (l:=i) hiz) (bV i));apply vn (t:=kP (z.getD i (0,0)).1 (z.getD i (0,0)).2) (ay kK dO bY (.inl rfl));apply aA (me _ _ 513 513 fa fb);apply aA (gQ _);apply vn bA;refine gn (decide (((z.getD i (0,0)).2-(z.getD i (0,0)).1).num.sign=0)) rfl (fun h97=>?_) (fun h97=>?_)
   .apply vn (aY gV (cY (v:=u) (l:=0) eu.2.1) (bV 0));apply vn (t:=kP (u.getD 0 (0,0)).1 (u.getD 0 (0,0)).2) (ay kK dO bY (.inl rfl));dsimp only[aP,aQ];have he:=sy.1 (gi h97);have hhz:=c1 (show(z.getD i (0,0)).1=(z.getD i (0,0)).2 by grind);have hhp:=ye (u.getD 0 (0,0)).1 (u.getD 0 (0,0)).2 0 768021200 eu.2.2.1 eu.2.2.2 (Fit.zero O);rw[gJ hhz]at hhp;refine pg (show aR _ [kP (u.getD 0 (0,0)).1 (u.getD 0 (0,0)).2,qT 0]from⟨aF.Sub.same,yY,trivial⟩) hhp rfl ?_;apply vn jW;refine lw ?_;apply vn aC;dsimp only[aP,aQ];exact aa rfl ⟨⟨i+1,O⟩,aR.rfl,by show z.length-(i+1)<z.length-i;omega⟩
   apply vn (aY gV (cY (v:=u) (l:=0) eu.2.1) (bV 0));apply vn (t:=kP (u.getD 0 (0,0)).1 (u.getD 0 (0,0)).2) (ay kK dO bY (.inl rfl));apply vn (aY gV (cY (v:=v) (l:=0) ev.2.1) (bV 0));apply vn (t:=kP (v.getD 0 (0,0)).1 (v.getD 0 (0,0)).2) (ay kK dO bY (.inl rfl));dsimp only[aP,aQ];have hne:(z.getD i (0,0)).1≠(z.getD i (0,0)).2:=fun e=>(kh h97) (sy.2 (by rw[e];grind))
   have hml:=c2 hne;apply aA (Cz _ _ _ _ 768021200 768021200 eu.2.2.1 eu.2.2.2 ev.2.2.1 ev.2.2.2);apply aA (gQ _);apply vn gW;dsimp only[aP,aQ];rw[ej (show ¬(0:Int)<=(jq (u.getD 0 (0,0)).1 (u.getD 0 (0,0)).2 (v.getD 0 (0,0)).1 (v.getD 0 (0,0)).2).num.sign by have:=HW.2 hml;omega)];refine lw ?_;apply vn aC;dsimp only[aP,aQ];exact aa rfl ⟨⟨i+1,O⟩,aR.rfl,by show z.length-(i+1)<z.length-i;omega⟩
  apply vn (aY gV (cY (v:=z) (l:=i) hiz) (bV i));apply vn (t:=kP (z.getD i (0,0)).1 (z.getD i (0,0)).2) (ay kK dO bY (.inl rfl));apply aA (me _ _ 513 513 fa fb);apply aA (gQ _);apply vn bA;refine gn (decide (((z.getD i (0,0)).2-(z.getD i (0,0)).1).num.sign=0)) rfl (fun h97=>?_) (fun h97=>?_)
  .apply vn (aY gV (cY (v:=u) (l:=0) eu.2.1) (bV 0));apply vn (t:=kP (u.getD 0 (0,0)).1 (u.getD 0 (0,0)).2) (ay kK dO bY (.inl rfl));dsimp only[aP,aQ];have he:=sy.1 (gi h97);have hhz:=c1 (show(z.getD i (0,0)).1=(z.getD i (0,0)).2 by grind);have hhp:=ye (u.getD 0 (0,0)).1 (u.getD 0 (0,0)).2 0 768021200 eu.2.2.1 eu.2.2.2 (Fit.zero O);rw[gJ hhz]at hhp;refine pg (show aR _ [kP (u.getD 0 (0,0)).1 (u.getD 0 (0,0)).2,qT 0]from⟨aF.Sub.same,yY,trivial⟩) hhp rfl ?_;apply vn jW;refine lw ?_;apply vn aC;dsimp only[aP,aQ];exact aa rfl ⟨⟨i+1,O⟩,aR.rfl,by show z.length-(i+1)<z.length-i;omega⟩
  apply vn (aY gV (cY (v:=u) (l:=0) eu.2.1) (bV 0));apply vn (t:=kP (u.getD 0 (0,0)).1 (u.getD 0 (0,0)).2) (ay kK dO bY (.inl rfl));apply vn (aY gV (cY (v:=v) (l:=0) ev.2.1) (bV 0));apply vn (t:=kP (v.getD 0 (0,0)).1 (v.getD 0 (0,0)).2) (ay kK dO bY (.inl rfl));dsimp only[aP,aQ];have hne:(z.getD i (0,0)).1≠(z.getD i (0,0)).2:=fun e=>(kh h97) (sy.2 (by rw[e];grind))
  have hml:=c2 hne;apply aA (Cz _ _ _ _ 768021200 768021200 eu.2.2.1 eu.2.2.2 ev.2.2.1 ev.2.2.2);apply aA (gQ _);apply vn gW;dsimp only[aP,aQ];rw[ej (show ¬(0:Int)<=(jq (u.getD 0 (0,0)).1 (u.getD 0 (0,0)).2 (v.getD 0 (0,0)).1 (v.getD 0 (0,0)).2).num.sign by have:=HW.2 hml;omega)];refine lw ?_;apply vn aC;dsimp only[aP,aQ];exact aa rfl ⟨⟨i+1,O⟩,aR.rfl,by show z.length-(i+1)<z.length-i;omega⟩
 apply aA eul.1;apply aA evh.1;apply vn (aZ gV (aX _));apply vn bA;refine gn (decide (((z.length:Nat):Int)=0)) rfl (fun h146=>?_) (fun h146=>?_)
 .apply vn bA;refine ut ?_;apply vn bA;refine ut ?_;apply vn (aZ gV (aX _));apply vn bA;dsimp only[aP,aQ];rw[ej (show ¬((ue.length:Nat):Int)=0 by have:=eul.2.1;omega)];refine lw ?_;apply vn (aZ gV (aX _));apply vn bA;dsimp only[aP,aQ];rw[ej (show ¬((ve.length:Nat):Int)=0 by have:=evh.2.1;omega)];refine lw ?_;apply vn (aY gV (cY (v:=ue) (l:=0) eul.2.1) (bV 0));apply vn (t:=kP (ue.getD 0 (0,0)).1 (ue.getD 0 (0,0)).2) (ay kK dO bY (.inl rfl));apply vn (aY gV (cY (v:=ve) (l:=0) evh.2.1) (bV 0));apply vn (t:=kP (ve.getD 0 (0,0)).1 (ve.getD 0 (0,0)).2) (ay kK dO bY (.inl rfl));apply aA (Cz _ _ _ _ 768021200 768021200 eul.2.2.1 eul.2.2.2 evh.2.2.1 evh.2.2.2);apply aA (gQ _);apply vn az;dsimp only[aP,aQ];have hz0:z=[]:=ij (by have:=gi h146;omega);rw[ej (fun h=>hnil hz0 (HW.1 h))];refine lw ?_;apply aA jV;exact aN
 apply aA jV;exact aN
end Go.Sy
