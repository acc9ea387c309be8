/- Part. -/
import Derived.Test.YtdmcadckdnnglaaGreatDoorKa
set_option linter.all false
set_option maxHeartbeats 4000000
set_option maxRecDepth 100000
namespace Go.Sy
open Go Go.Proofs Go.RowKit Tryz Ord
attribute [local go_sem] Oper.semAt_some
def ba7(v6:Value)(E:j0)(X:Rat)(Y:j1)(a b:Rat)(k:Int)(q:j0)(m:Nat)(lead aB:Rat)(st:Nat)(V:VS)(ha:Fit 513 a)(hb:Fit 513 b)(hval:aK prog 234 [fT E X Y,qT (ao (a+b)),.one (.int .i64 k)] (.pan (zI 5))):vc prog (fun o=>ey o (.pan (zI 5))) (lG prog 146 (fun _=>none) (cJ [1] (dJ f170)) [(2,.v none),(3,.ref 5),(4,.ref 6),(6,.v none)] ([2,6,8,9,10].map ResultVar.tmp) (some 3) false) ([.v (.one (.int .i64 k)),.ref (fC E X Y),.ref (cM a b),.v (.one (.exact v6))].map In.env) []:=by
 rw[sL];dsimp only[List.map,In.env,aP,aQ];apply aA (tI a b 513 ha hb);apply aA (me a b 513 513 ha hb);apply aA (CG 1);dsimp only[aP,aQ];have hw:Fit 1027 (b-a):=(hb.sub ha).mono O;apply aA (cr (b-a) (mkRat 1 (2^1)) 1027 257 hw (gu O));exact vcp hval rfl
def bp1(v6:Value)(E:j0)(X:Rat)(Y:j1)(a b:Rat)(k:Int)(q:j0)(m:Nat)(lead aB:Rat)(st:Nat)(V:VS)(ha:Fit 513 a)(hb:Fit 513 b)(hval:aK prog 234 [fT E X Y,qT (ao (a+b)),.one (.int .i64 k)] (.ret [.one (.slice 6 (vS V))]))(hat:aK prog 100 [.one (eQ E),qT (ao (a+b))] (.ret [Cl q m lead]))(hre:aK prog 123 [Cl q m lead] (.pan (zI 5))):vc prog (fun o=>ey o (.pan (zI 5))) (lG prog 146 (fun _=>none) (cJ [1] (dJ f170)) [(2,.v none),(3,.ref 5),(4,.ref 6),(6,.v none)] ([2,6,8,9,10].map ResultVar.tmp) (some 3) false) ([.v (.one (.int .i64 k)),.ref (fC E X Y),.ref (cM a b),.v (.one (.exact v6))].map In.env) []:=by
 rw[sL];dsimp only[List.map,In.env,aP,aQ];apply aA (tI a b 513 ha hb);apply aA (me a b 513 513 ha hb);apply aA (CG 1);dsimp only[aP,aQ];have hw:Fit 1027 (b-a):=(hb.sub ha).mono O;apply aA (cr (b-a) (mkRat 1 (2^1)) 1027 257 hw (gu O));apply aA hval;apply aA hat;exact vcp hre rfl
def bb7(v6:Value)(E:j0)(X:Rat)(Y:j1)(a b:Rat)(k:Int)(q:j0)(m:Nat)(lead aB:Rat)(st:Nat)(V:VS)(ha:Fit 513 a)(hb:Fit 513 b)(hval:aK prog 234 [fT E X Y,qT (ao (a+b)),.one (.int .i64 k)] (.ret [.one (.slice 6 (vS V))]))(hat:aK prog 100 [.one (eQ E),qT (ao (a+b))] (.ret [Cl q m lead]))(hre:aK prog 123 [Cl q m lead] (.ret [.agg (zJ q m lead aB (st:Nat))]))(hrho:Fit 2097152 aB)(hno:¬ao (b-a)+ao (b-a)<=aB):vc prog (fun o=>ey o (.pan (zI 14))) (lG prog 146 (fun _=>none) (cJ [1] (dJ f170)) [(2,.v none),(3,.ref 5),(4,.ref 6),(6,.v none)] ([2,6,8,9,10].map ResultVar.tmp) (some 3) false) ([.v (.one (.int .i64 k)),.ref (fC E X Y),.ref (cM a b),.v (.one (.exact v6))].map In.env) []:=by
 rw[sL];dsimp only[List.map,In.env,aP,aQ];apply aA (tI a b 513 ha hb);apply aA (me a b 513 513 ha hb);apply aA (CG 1);dsimp only[aP,aQ];have hw:Fit 1027 (b-a):=(hb.sub ha).mono O;apply aA (cr (b-a) (mkRat 1 (2^1)) 1027 257 hw (gu O));apply aA hval;apply aA hat;apply aA hre;dsimp only[aP,aQ];have hh:Fit 1284 (ao (b-a)):=BU hw;apply aA (lU (ao (b-a)) (ao (b-a)) 1284 1284 hh hh);apply aA (ma _ aB 2569 2097152 ((hh.add hh).mono O) hrho);apply vn iQ;dsimp only[aP,aQ];rw[show decide (mF (ao (b-a)+ao (b-a)) aB<=0)=false from ej (fun h=>hno (ic.1 h))];exact vcp (ll 14) rfl
def ay7(v6:Value)(E:j0)(X:Rat)(Y:j1)(a b:Rat)(k:Int)(q:j0)(m:Nat)(lead aB:Rat)(st:Nat)(V:VS)(ha:Fit 513 a)(hb:Fit 513 b)(hval:aK prog 234 [fT E X Y,qT (ao (a+b)),.one (.int .i64 k)] (.ret [.one (.slice 6 (vS V))]))(hat:aK prog 100 [.one (eQ E),qT (ao (a+b))] (.ret [Cl q m lead]))(hre:aK prog 123 [Cl q m lead] (.ret [.agg (zJ q m lead aB (st:Nat))]))(hrho:Fit 2097152 aB)(hle:ao (b-a)+ao (b-a)<=aB):vc prog (fun o=>ey o (.ret [.one (.int .i64 k),.one (.exact v6),.one (.aW (qC (ao (b-a)))),.one (.slice 6 (vS V)),.one (.aW (zJ q m lead aB (st:Nat)))])) (lG prog 146 (fun _=>none) (cJ [1] (dJ f170)) [(2,.v none),(3,.ref 5),(4,.ref 6),(6,.v none)] ([2,6,8,9,10].map ResultVar.tmp) (some 3) false) ([.v (.one (.int .i64 k)),.ref (fC E X Y),.ref (cM a b),.v (.one (.exact v6))].map In.env) []:=by
 rw[sL];dsimp only[List.map,In.env,aP,aQ];apply aA (tI a b 513 ha hb);apply aA (me a b 513 513 ha hb);apply aA (CG 1);dsimp only[aP,aQ];have hw:Fit 1027 (b-a):=(hb.sub ha).mono O;apply aA (cr (b-a) (mkRat 1 (2^1)) 1027 257 hw (gu O));apply aA hval;apply aA hat;apply aA hre;dsimp only[aP,aQ];have hh:Fit 1284 (ao (b-a)):=BU hw;apply aA (lU (ao (b-a)) (ao (b-a)) 1284 1284 hh hh);apply aA (ma _ aB 2569 2097152 ((hh.add hh).mono O) hrho);apply vn iQ;dsimp only[aP,aQ];rw[show decide (mF (ao (b-a)+ao (b-a)) aB<=0)=true from gJ (ic.2 hle)];apply aA (nP 14);exact aN
end Go.Sy
namespace Go.Sy
open Go Go.Proofs Go.RowKit Tryz Ord
attribute [local go_sem] Oper.semAt_some
def JJ{cells:List aE}{M:j2}{w:World}{v:Value}(h:(aE.aW cells).rep M w v):∃b off us,v=.pointer (some ⟨b,off,none⟩)/\¬M b/\b<w.heap.size/\ai M w cells us/\∀j u,us[j]?=some u->w.cell? ⟨b,off+j,none⟩=some u:=by
 obtain⟨b,off,cs,T,fz,rfl,hb,hh,hr⟩:=h;refine⟨b,off,_,rfl,hb,(cf.1 hh).1,hr,fun j u hj=>?_⟩;rw[fi]at hj;split at hj
 .rw[kH]at hj;exact aH hh (by simpa using hj)
 .cases hj
structure cr4(q:j0)(m:Nat)(lead aB:Rat)(st:Nat)(r:Rat)(k:Int)(Ns Bs B G BS:Nat)(goal:Rat)(out:Option Nat):Prop where
 hm1:1<=m
 hm4:m<=4
 hk:k<=256
 hgq:mkRat 1 (2^k.toNat)*mkRat 1 (2^2)=goal
 T:Dd q m lead aB st r goal 1 B G
 L:yM (QC q m lead aB st r goal 1) m st out
 EC:∀N,out=some N->aQ9 q m lead aB st r N B BS G
 r0:0<=r
 hst15:st<=Ns
 SC:∀l,l<m->jy Bs q m lead (ab m l) Ns
 hNs:Ns<=1073741824
 hN15:1500<=Ns
 hBs:Bs<=4294967296
 h64:64<=Bs
 hql:q.length=m+1
 hp:∀p∈q,p.length<1048576
 hl0:lead≠0
 hw:m+aj q<=st
 hrho:∀j,j<=2*st+1->Fit Bs (aB^j)
def bJ8{M:j2}{w:World}{c0 c1 c2 c3 c4 c5:aE}{vs:n5}(h:ai M w [c0,c1,c2,c3,c4,c5] vs):∃u0 u1 u2 u3 u4 u5,vs=[u0,u1,u2,u3,u4,u5]:=by
 have hl:=h.length
 match vs,hl with
 | [u0,u1,u2,u3,u4,u5],_=>exact⟨u0,u1,u2,u3,u4,u5,rfl⟩
def XA{α:Type}{l:List α}(h:l.length=12):∃a0 a1 a2 a3 a4 a5 a6 a7 a8 a9 a10 a11,l=[a0,a1,a2,a3,a4,a5,a6,a7,a8,a9,a10,a11]:=by
 match l,h with
 | [a0,a1,a2,a3,a4,a5,a6,a7,a8,a9,a10,a11],_=>exact⟨a0,a1,a2,a3,a4,a5,a6,a7,a8,a9,a10,a11,rfl⟩
def NR:Tr:=.retr [.one (.ref 0 [.u 0 0,.u 0 1,.u 0 2,.u 0 3,.u 0 4,.u 0 5,.u 0 6,.u 0 7,.u 0 8,.u 0 9,.u 0 10,.u 0 11])] 2
def Od:Tr:=.need (.strow 1 12 (.k (.int .i64 (0))) 0 [.u 0 0,.u 0 1,.u 0 2,.u 0 3,.u 0 4,.u 0 5,.u 0 6,.u 0 7,.u 0 8,.u 0 9,.u 0 10,.u 0 11]) (.store 233 (.tmp 6) (.tmp 145)) 0 false NR
def Ty:zO prog 146 (fun _=>none) (cJ [1,1,1,1,1,1,1,1,1,1,1,0] (dJ f170)) [(16,.ref 12)] 6 233 12 ([16].map ResultVar.tmp)=Od:=aT
def bJ9(c d:List aE)(hc:c.length=12)(hd:d.length=12):vc prog (fun o=>o=.retr [.one (.aW c)] ([c])) (zO prog 146 (fun _=>none) (cJ [1,1,1,1,1,1,1,1,1,1,1,0] (dJ f170)) [(16,.ref 12)] 6 233 12 ([16].map ResultVar.tmp)) ([.ref (c)].map In.env++[.rows ([d])]) []:=by
 rw[Ty];dsimp only[List.map,In.env,aP,aQ];obtain⟨a0,a1,a2,a3,a4,a5,a6,a7,a8,a9,a10,a11,rfl⟩:=XA hc;obtain⟨b0,b1,b2,b3,b4,b5,b6,b7,b8,b9,b10,b11,rfl⟩:=XA hd;refine BE (ts:=[[b0,b1,b2,b3,b4,b5,b6,b7,b8,b9,b10,b11]]) (us:=[[a0,a1,a2,a3,a4,a5,a6,a7,a8,a9,a10,a11]]) rfl rfl O (cells:=[b0,b1,b2,b3,b4,b5,b6,b7,b8,b9,b10,b11]) rfl rfl ?_;dsimp only[aP,aQ];exact yC rfl rfl
def Qq(M:j2)(w:World)(V2:Nat->Nat->Rat×Rat)(out:Option Nat)(e:Ending)(w':World):Prop:=Below w.heap.size w w'/\match out with
 | some n=>∃vs:List Value,e=.returned (.agg vs.toArray)/\ai M w' (cM (V2 n 0).1 (V2 n 0).2++cM (V2 n 1).1 (V2 n 1).2) vs
 | none=>e=.panicked [{ v:=LR 5,recovered:=false }]
def bf5(V:k6)(i:Nat):List aE:=(if 1<=i then cM (V 0).1 (V 0).2 else cM 0 0)++(if 2<=i then cM (V 1).1 (V 1).2 else cM 0 0)
def aR1{M:j2}{W:World}{F:k6}:ai M W (bf5 F 0) (#[Value.slice none 0 0,.bool false,.slice none 0 0,.slice none 0 0,.bool false,.slice none 0 0,.slice none 0 0,.bool false,.slice none 0 0,.slice none 0 0,.bool false,.slice none 0 0]:Array Value).toList:=by
 have z:=fg;have z1:∀v:Value,v=.slice none 0 0->(aE.exact (.slice none 0 0)).rep M W v:=fun v h=>by subst h;exact⟨rfl,rfl⟩
 have e1:=z.1.rep (z1 _ rfl);have e2:=z.2.1.rep (show(aE.bool false).rep M W (.bool false)from⟨rfl,rfl⟩);have e3:=z.2.2.1.rep (z1 _ rfl);exact⟨e1,e2,e3,e1,e2,e3,e1,e2,e3,e1,e2,e3,trivial⟩
def xz{w w' w2:World}{g:Nat}(h:w.grownBy w' (some g))(k:w'.grownBy w2 (some g)):w.grownBy w2 (some g):=
 ⟨k.os.trans h.os,k.tape.trans h.tape,k.output.trans h.output,an h.size k.size,fun j hj hp=>(k.block j (bt hj h.size) hp).trans (h.block j hj hp)⟩
structure cJ9(M:j2)(w6:World)(g:Nat)(k:Int)(p6:Value)(r:Rat)(V:VS)(C:Nat->List aE)(m N:Nat)(F:k6)(i:Nat)(a:Act)(W:World):Prop where
 sz:a.tmps.size=146
 df:a.defers=[]
 tu:w6.grownBy W (some g)
 t2:a.tmps.getD 2 undef=.int .i64 k
 t6:a.tmps.getD 6 undef=p6
 t8:(aE.aW (qC r)).rep (fun b=>M b\/b=g) W (a.tmps.getD 8 undef)
 t9:(aE.slice 6 (vS V)).rep (fun b=>M b\/b=g) W (a.tmps.getD 9 undef)
 t11:(aE.slice 1 ((List.range m).map fun l=>[aE.aW (C l)])).rep (fun b=>M b\/b=g) W (a.tmps.getD 11 undef)
 t12:a.tmps.getD 12 undef=.int .i64 N
 t13:(aE.slice 6 (zK r N)).rep (fun b=>M b\/b=g) W (a.tmps.getD 13 undef)
 t16:a.tmps.getD 16 undef=.pointer (some ⟨g,0,none⟩)
 t81:a.tmps.getD 81 undef=.int .i64 i
 hg:∃cur:Array Value,W.heap[g]?=some (.cells cur 233 (0,0))/\ai (fun b=>M b\/b=g) W (bf5 F i) cur.toList
def A7{s0 s1 s2 s3 s4 s5:Value}(h:∀v∈[s0,s1,s2,s3,s4,s5],v.oneCell'=true):s0.oneCell'=true/\s1.oneCell'=true/\s2.oneCell'=true/\s3.oneCell'=true/\s4.oneCell'=true/\s5.oneCell'=true:=⟨h _ bY,h _ bY,h _ bY,h _ bY,h _ bY,h _ bY⟩
def MO(M:j2)(w:World)(hM:cX M w)(E:j0)(X:Rat)(Y:j1)(a b:Rat)(k:Int)(V:VS)(q:j0)(m:Nat)(lead aB:Rat)(st:Nat){Ns Bs B G BS:Nat}{goal:Rat}{out:Option Nat}(C:cr4 q m lead aB st (ao (b-a)) k Ns Bs B G BS goal out)
  (W:Nat) (hVl:V.length=m) (hV:∀p∈V,Fit W p.1/\Fit W p.2) (ha:Fit 513 a) (hb:Fit 513 b)
  (hval:aK prog 234 [fT E X Y,qT (ao (a+b)),.one (.int .i64 k)] (.ret [.one (.slice 6 (vS V))])) (hat:aK prog 100 [.one (eQ E),qT (ao (a+b))] (.ret [Cl q m lead])) (hre:aK prog 123 [Cl q m lead] (.ret [.agg (zJ q m lead aB (st:Nat))])) (hrho:Fit 2097152 aB) (hle:ao (b-a)+ao (b-a)<=aB)
  (f0 f1 f2 f3 f4 s0 s1 s2 s3 s4 s5:Value) (hf:ai M w (fC E X Y) [f0,f1,f2,f3,f4]) (hs:ai M w (cM a b) [s0,s1,s2,s3,s4,s5]) (hW1:1<=W:=by omega) (hW:W<=805306368:=by omega) :
  Calls prog 170 #[.agg #[f0,f1,f2,f3,f4],.agg #[s0,s1,s2,s3,s4,s5],.int .i64 k] w (Qq M w (oV q m lead aB st (ao (b-a)) k V) out):=by
 obtain⟨o0,o1,o2,o3,o4⟩:f0.oneCell'=true/\f1.oneCell'=true/\f2.oneCell'=true/\f3.oneCell'=true/\f4.oneCell'=true:=by have:=hf.one;exact⟨this _ bY,this _ bY,this _ bY,this _ bY,this _ bY⟩
 obtain⟨p0,p1,p2,p3,p4,p5⟩:=A7 hs.one
 obtain⟨r,hr⟩:∃r,ao (b-a)=r:=⟨_,rfl⟩
 rw[hr]at C hle;refine jn func170 rfl ?_;simp only[ntmps170,ed,bm,ck,Nat.reduceAdd,Nat.reduceSub,fX,fW,fS,fU,List.nil_append,List.cons_append];obtain⟨n0,hn0⟩:∃n0,w.heap.size=n0:=⟨_,rfl⟩
 refine fA ?_;generalize hK:Exit.then _ _=K
 go_wp2
 rw[<-hK];clear hK K;obtain⟨W1,hW1'⟩:∃W1,(((w.alloc (.cells #[f0,f1,f2,f3,f4] 42)).alloc (.cells #[s0,s1,s2,s3,s4,s5] 123)).alloc (.cells #[.slice none 0 0,.bool false,.slice none 0 0,.slice none 0 0,.bool false,.slice none 0 0,.slice none 0 0,.bool false,.slice none 0 0,.slice none 0 0,.bool false,.slice none 0 0] 233))=W1:=⟨_,rfl⟩
 have hs1:W1.heap.size=n0+3:=by rw[<-hW1'];simp[hn0]
 have hB1:Below w.heap.size w W1:=by rw[<-hW1'];exact(((cz _ w).alloc (ah _) _).alloc bY _).alloc iF _
 have hF1:W1.heap[n0]?=some (.cells #[f0,f1,f2,f3,f4] 42 (0,0)):=by rw[<-hW1',bJ _ _ _ iF,bJ _ _ _ iF,<-hn0];exact bc w _
 have hS1:W1.heap[n0+1]?=some (.cells #[s0,s1,s2,s3,s4,s5] 123 (0,0)):=by
  rw[<-hW1',bJ _ _ _ iF];have:=bc (w.alloc (.cells #[f0,f1,f2,f3,f4] 42)) (.cells #[s0,s1,s2,s3,s4,s5] 123)
  rwa[br,hn0]at this
 have hR1:W1.heap[n0+1+1]?=some (.cells #[.slice none 0 0,.bool false,.slice none 0 0,.slice none 0 0,.bool false,.slice none 0 0,.slice none 0 0,.bool false,.slice none 0 0,.slice none 0 0,.bool false,.slice none 0 0] 233 (0,0)):=by
  rw[<-hW1'];have:=bc ((w.alloc (.cells #[f0,f1,f2,f3,f4] 42)).alloc (.cells #[s0,s1,s2,s3,s4,s5] 123)) (.cells #[.slice none 0 0,.bool false,.slice none 0 0,.slice none 0 0,.bool false,.slice none 0 0,.slice none 0 0,.bool false,.slice none 0 0,.slice none 0 0,.bool false,.slice none 0 0] 233)
  rwa[br,br,hn0]at this
 obtain⟨M0,hM0⟩:∃M0:Nat->Prop,∀b,M0 b↔(M b\/b=n0+1+1):=⟨fun b=>M b\/b=n0+1+1,fun _=>Iff.rfl⟩
 have hk01:bq M w M0 W1:=fun b o hb ho _=>by
  have hl:=(cf.1 ho).1;exact⟨fun h=>by rw[hM0]at h;exact h.elim hb (fun e=>O),(hB1.block b hl).trans ho⟩
 have hM1:cX M0 W1:=⟨fun b h=>by
  rw[hM0]at h;rcases h with h | h
  .have:=hM.1 b h;omega
  .omega,hM.2.jc hk01⟩
 rw[hW1']
 have nM:∀j,n0<=j->j<n0+2->¬M0 j:=fun j hj hj2 h=>by
  rw[hM0]at h;rcases h with h | h
  .have:=hM.1 j h;omega
  .omega
 show Code.wp _ _ _ _ _
 refine wY (n:=3) (ins:=[(2,.v none),(3,.ref 5),(4,.ref 6),(6,.v none)]) (xs:=[.v (.one (.int .i64 k)),.ref (fC E X Y),.ref (cM a b),.v (.one (.exact (.pointer (some ⟨n0+1+1,0,none⟩))))]) fo ⟨rfl,rfl,rfl,rfl,trivial⟩
  (ay7 _ E X Y a b k q m lead aB st V ha hb hval hat hre hrho (by rw[hr];exact hle)) aT hM1 rfl rfl
  ⟨⟨rfl,rfl⟩,⟨n0,0,_,_,_,rfl,nM _ O O,hF1,hf.mono hk01⟩,⟨n0+1,0,_,_,_,rfl,nM _ O O,hS1,hs.mono hk01⟩,⟨rfl,rfl⟩,trivial⟩ ?_ (by intro c v a' w' h;cases h)
 intro e a' W2 rs us hrs hex hB2 hsz hdf hrun hus;cases hrs;cases e with
 | exit id=>cases hex
 | ret=>cases hex
 | normal=>
 have huse:=ja hrun;subst huse;have h2:=hus.1;have h6:=hus.2.1;have h8:=hus.2.2.1;have h9:=hus.2.2.2.1;have h10:=hus.2.2.2.2.1;clear hus hrun hex;rw[hr]at h8;have h2:a'.tmps.getD 2 undef=.int .i64 k:=h2.1;have h6:a'.tmps.getD 6 undef=.pointer (some ⟨n0+1+1,0,none⟩):=h6.1;have h8:(aE.aW (qC r)).rep M0 W2 (a'.tmps.getD 8 undef):=h8;have h9:(aE.slice 6 (vS V)).rep M0 W2 (a'.tmps.getD 9 undef):=h9;have h10:(aE.aW (zJ q m lead aB (st:Nat))).rep M0 W2 (a'.tmps.getD 10 undef):=h10;obtain⟨t,ds⟩:=a';have hds:ds=[]:=hdf;subst hds;have hsz:t.size=146:=hsz;show Code.wp _ (oe 3 _) _ _ _;simp only[oe];rw[kw (t:=t) hsz];simp only[]at h2 h6 h8 h9 h10;rw[h2,h6];generalize hv9:t.getD 9 undef=v9 at *;obtain⟨b8,off8,us8,e8,nb8,lt8,hr8,c8⟩:=JJ h8;obtain⟨b10,off10,us10,e10,nb10,lt10,hr10,c10⟩:=JJ h10;rw[e8,e10];obtain⟨u0,u1,u2,u3,u4,u5,u6,u7,u8,rfl⟩:=bx3 hr10;obtain⟨x0,x1,x2,rfl⟩:=aI9 hr8;have hM2:cX M0 W2:=⟨fun b hb=>bt (hM1.1 b hb) hB2.size,hM1.2.below rfl hB2⟩
 have hbas:=TH M0 W2 hM2 q m lead aB st Ns Bs C.SC C.hNs (by have:=C.hm4;omega) C.hBs C.h64 C.hql C.hp C.hl0 C.hw C.hrho u0 u1 u2 u3 u4 u5 u6 u7 u8 hr10 (by have:=C.hst15;omega) (by have:=C.hm4;have:=C.hN15;omega);have z0:W2.cell? ⟨b10,off10,none⟩=some u0:=c10 0 u0 rfl;have z1:=c10 1 u1 rfl;have z2:=c10 2 u2 rfl;have z3:=c10 3 u3 rfl;have z4:=c10 4 u4 rfl;have z5:=c10 5 u5 rfl;have z6:=c10 6 u6 rfl;have z7:=c10 7 u7 rfl;have z8:=c10 8 u8 rfl
 go_wp2_with (go_at_call 225;refine hbas.mono ?_)
 rintro e w3 bv rfl ps hpl hb3 I;have hw3:=hb3.size;have hB23:=hB1.trans (hB2.mono hB1.size);have y0:w3.cell? ⟨b8,off8,none⟩=some x0:=(FC (hb3.block b8 lt8)).trans (c8 0 x0 rfl);have y1:w3.cell? ⟨b8,off8+1,none⟩=some x1:=(FC (hb3.block b8 lt8)).trans (c8 1 x1 rfl);have y2:w3.cell? ⟨b8,off8+2,none⟩=some x2:=(FC (hb3.block b8 lt8)).trans (c8 2 x2 rfl);have hps:∀b∈ps,W2.heap.size<=b:=fun b hb=>(I.lo b hb).1
 have hlt:∀b,vI M0 ps bv b->M0 b\/W2.heap.size<=b:=by
  rintro b ((h | h) | h)
  .exact .inl h
  .exact .inr (hps b h)
  .exact .inr (I.sl.lt b h).1
 have hk23:bq M0 W2 (vI M0 ps bv) w3:=fun b o hb ho _=>by
  have hl:=(cf.1 ho).1;exact⟨fun h=>(hlt b h).elim hb O,(hb3.block b hl).trans ho⟩
 have hter:=Ux Ns Bs M0 W2 w3 hM2 hb3 q m lead aB st r 1 k B G bv ps C.hm1 C.hk goal C.hgq C.T out C.L I hpl C.hst15 C.SC C.hNs C.hN15 (by have:=C.hm4;omega) C.hBs C.h64 C.hql C.hp C.hl0 x0 x1 x2 (hr8.mono hk23)
 go_wp2_with (go_at_call 226;refine hter.mono ?_)
 .rename_i K1 KK o1 L1 N L2 hK1 hKK;rintro e w5 rfl tu I5;have hB13:=hB23.trans (hb3.mono (by have:=hB23.size;omega));have hB5:Below w.heap.size w w5:=tu.low hB13 hB13.size (fun b hb=>by have:=hps b hb;have:=hB23.size;omega);have hB15:Below W1.heap.size W1 w5:=tu.low (hB2.trans (hb3.mono hB2.size)) (by have:=hB2.size;omega) (fun b hb=>by have:=hps b hb;have:=hB2.size;omega);have hM5:cX M0 w5:=⟨fun b hb=>bt (hM1.1 b hb) hB15.size,hM1.2.below rfl hB15⟩
  have hk25:bq M0 W2 M0 w5:=fun b o hb ho _=>by
   have hl:=(cf.1 ho).1;exact⟨hb,(tu.block b O (fun h=>by have:=hps b h;omega)).trans ((hb3.block b hl).trans ho)⟩
  have hbs:=OG I5 hpl (fun k h=>hM2.1 k h);have EC:=C.EC N rfl;have hKH:Halt _:=hK1;clear hK1
  go_wp2
  refine hKH _ _ ?_
  refine wY (n:=1) (ins:=[(2,.v none),(6,.v none),(8,.ref 3),(9,.v none),(11,.v none),(12,.v none)]) (xs:=[.v (.one (.int .i64 k)),.v (.one (.exact (.pointer (some ⟨n0+1+1,0,none⟩)))),.ref (qC r),.v (.one (.exact v9)),.v (.one (.exact bv)),.v (.one (.int .i64 N))]) fo ⟨rfl,rfl,rfl,rfl,rfl,rfl,trivial⟩
   (bQ8 _ v9 bv r k N B aB (EC.BT 0 O) EC.hB EC.n15) aT hM5 rfl rfl
   ⟨⟨rfl,rfl⟩,⟨rfl,rfl⟩,by rw[<-e8];exact aE.mono _ hk25 h8,⟨rfl,aE.one _ h9⟩,⟨rfl,aE.one _ hbs⟩,⟨rfl,rfl⟩,trivial⟩ ?_ (by intro c v a' w' h;cases h)
  intro e a' W6 rs us hrs hex hB6 hsz6 hdf6 hrun6 hus6;cases hrs;cases e with
  | exit id=>cases hex
  | ret=>cases hex
  | normal=>
  have huse:=ja hrun6;subst huse;have q2:a'.tmps.getD 2 undef=.int .i64 k:=hus6.1.1;have q6:a'.tmps.getD 6 undef=.pointer (some ⟨n0+1+1,0,none⟩):=hus6.2.1.1;have q8:(aE.aW (qC r)).rep M0 W6 (a'.tmps.getD 8 undef):=hus6.2.2.1;have q9:a'.tmps.getD 9 undef=v9:=hus6.2.2.2.1.1;have q11:a'.tmps.getD 11 undef=bv:=hus6.2.2.2.2.1.1;have q12:a'.tmps.getD 12 undef=.int .i64 N:=hus6.2.2.2.2.2.1.1;have q13:(aE.slice 6 (zK r N)).rep M0 W6 (a'.tmps.getD 13 undef):=hus6.2.2.2.2.2.2.1;clear hus6 hrun6 hex;obtain⟨t2,ds⟩:=a';have hds:ds=[]:=hdf6;subst hds;have hsz2:t2.size=146:=hsz6;show Code.wp _ (oe 1 _) _ _ _;simp only[oe];simp only[]at q2 q6 q8 q9 q11 q12 q13;rw[kw (t:=t2) hsz2,q2,q6,q9,q11,q12];generalize t2.getD 8 undef=x8 at *;generalize t2.getD 13 undef=x13 at *;refine fA ?_;generalize hK:Exit.then _ _=K
  go_wp2
  rw[<-hK];clear hK K;obtain⟨g,hg⟩:∃g,W6.heap.size=g:=⟨_,rfl⟩
  obtain⟨W7,hW7⟩:∃W7,W6.alloc (.cells #[.slice none 0 0,.bool false,.slice none 0 0,.slice none 0 0,.bool false,.slice none 0 0,.slice none 0 0,.bool false,.slice none 0 0,.slice none 0 0,.bool false,.slice none 0 0] 233)=W7:=⟨_,rfl⟩
  rw[hW7,hg];show Code.wp _ _ _ _ _;refine fA ?_;generalize hK:Exit.then _ _=K;refine fA ?_;generalize hK2:Exit.then _ _=K2
  go_wp2
  rw[<-hK2];clear hK2 K2;show Code.wp _ _ _ _ _;refine wp_block ?_;have hB6':Below w.heap.size w W6:=hB5.trans (hB6.mono hB5.size);have hgw:W6.grownBy W7 (some g):=by rw[<-hW7];exact World.grownBy_alloc W6 _ _
  have hG7:W7.heap[g]?=some (.cells #[.slice none 0 0,.bool false,.slice none 0 0,.slice none 0 0,.bool false,.slice none 0 0,.slice none 0 0,.bool false,.slice none 0 0,.slice none 0 0,.bool false,.slice none 0 0] 233 (0,0)):=by rw[<-hW7,<-hg];exact bc W6 _
  have h56:=hB6.size;have h35:=tu.size;have hwn:=hB23.size;have hB16:Below W1.heap.size W1 W6:=hB15.trans (hB6.mono hB15.size)
  have hkw:∀WW:World,W6.grownBy WW (some g)->bq M0 W1 (fun b=>M0 b\/b=g) WW:=fun WW hgr b o hb ho _=>by
   have hl:=(cf.1 ho).1;have h1:=hB16.size;exact⟨fun h=>h.elim hb (fun e=>O),(hgr.block b O (fun e=>by simp only[aM]at e;omega)).trans ((hB16.block b hl).trans ho)⟩
  have hk5:∀WW:World,W6.grownBy WW (some g)->bq M0 w5 (fun b=>M0 b\/b=g) WW:=fun WW hgr b o hb ho _=>by
   have hl:=(cf.1 ho).1;exact⟨fun h=>h.elim hb (fun e=>O),(hgr.block b O (fun e=>by simp only[aM]at e;omega)).trans ((hB6.block b hl).trans ho)⟩
  have hk6:∀WW:World,W6.grownBy WW (some g)->bq M0 W6 (fun b=>M0 b\/b=g) WW:=fun WW hgr b o hb ho _=>by
   have hl:=(cf.1 ho).1;exact⟨fun h=>h.elim hb (fun e=>O),(hgr.block b O (fun e=>by simp only[aM]at e;omega)).trans ho⟩
  have hgsz:g<W7.heap.size:=(cf.1 hG7).1
  have hfine:∀WW:World,W6.grownBy WW (some g)->W7.heap.size<=WW.heap.size->cX (fun b=>M0 b\/b=g) WW:=fun WW hgr hs7=>⟨fun b h=>by
   have h1:=hB16.size;have h2:=hgr.size;rcases h with h | h
   .have:=hM1.1 b h;omega
   .omega,hM1.2.jc (hkw WW hgr)⟩
  have h9':=aE.mono _ (hk5 W7 hgw) (aE.mono _ hk25 h9);have h11':=aE.mono _ (hk5 W7 hgw) hbs;have h8':=aE.mono _ (hk6 W7 hgw) q8;have h13':=aE.mono _ (hk6 W7 hgw) q13;obtain⟨W',hW'⟩:∃W',W=W':=⟨_,rfl⟩
  subst hW'
  refine xJ (fun n' a' WW=>∃i,n'=2-i/\i<=2/\W7.heap.size<=WW.heap.size/\cJ9 M0 W6 g k (.pointer (some ⟨n0+1+1,0,none⟩)) r V (jv q m lead aB st N) m N (oV q m lead aB st r k V N) i a' WW) (2-0)
   ⟨0,rfl,O,ah _,⟨rfl,rfl,hgw,rfl,rfl,h8',h9',h11',rfl,h13',rfl,rfl,_,hG7,aR1⟩⟩ ?_
  rintro n' a' WW ⟨i,rfl,hi,hs7,J⟩;obtain⟨t3,ds⟩:=a';have hds:ds=[]:=J.df;subst hds;rcases(show i=0\/i=1\/i=2 by omega)with rfl | rfl | rfl
  .obtain⟨cur,hcg,hcr⟩:=J.hg;have hfin:cX (fun b=>M0 b\/b=g) WW:=hfine WW J.tu hs7;rw[kw (t:=t3) J.sz,show t3.getD 2 undef=_ from J.t2,show t3.getD 6 undef=_ from J.t6,show t3.getD 12 undef=_ from J.t12,show t3.getD 16 undef=_ from J.t16,show t3.getD 81 undef=_ from J.t81];have j8:(aE.aW (qC r)).rep (fun b=>M0 b\/b=g) WW (t3.getD 8 undef):=J.t8;have j9:(aE.slice 6 (vS V)).rep (fun b=>M0 b\/b=g) WW (t3.getD 9 undef):=J.t9;have j11:(aE.slice 1 ((List.range m).map fun l=>[aE.aW (jv q m lead aB st N l)])).rep (fun b=>M0 b\/b=g) WW (t3.getD 11 undef):=J.t11;have j13:(aE.slice 6 (zK r N)).rep (fun b=>M0 b\/b=g) WW (t3.getD 13 undef):=J.t13;generalize t3.getD 8 undef=y8 at j8|-;generalize t3.getD 9 undef=y9 at j9|-;generalize t3.getD 11 undef=y11 at j11|-;generalize t3.getD 13 undef=y13 at j13|-;refine fA ?_;generalize hK3:Exit.then _ _=K3
   go_wp2
   rw[<-hK3];clear hK3 K3;show Code.wp _ _ _ _ _;refine fA ?_;generalize hK3:Exit.then _ _=K3
   go_wp2
   rw[<-hK3];clear hK3 K3;show Code.wp _ _ _ _ _;refine fA ?_
   refine xA (N:=146) (t0:=16) (T:=233) (n:=12) (M:=fun b=>M0 b\/b=g) (g:=g) (cur:=cur) (cs:=cM 0 0++cM 0 0) (ins:=[(2,.v none),(6,.v none),(8,.ref 3),(9,.v none),(11,.v none),(12,.v none),(13,.v none),(81,.k (.int .i64 0))])
    (xs:=[.v (.one (.int .i64 k)),.v (.one (.exact (.pointer (some ⟨n0+1+1,0,none⟩)))),.ref (qC r),.v (.one (.slice 6 (vS V))),.v (.one (.slice 1 ((List.range m).map fun l=>[.aW (jv q m lead aB st N l)]))),.v (.one (.int .i64 N)),.v (.one (.slice 6 (zK r N))),.v (.one (.int .i64 0))]) fo ⟨rfl,rfl,rfl,rfl,rfl,rfl,rfl,rfl,trivial⟩
    (bt8 _ q m lead aB st r k V N B BS G W EC C.hm4 C.hk hVl hV hW1 hW C.r0 (0,0)) aT
    hfin (.inr rfl) rfl rfl rfl ⟨⟨rfl,rfl⟩,⟨rfl,rfl⟩,j8,j9,j11,⟨rfl,rfl⟩,j13,⟨rfl,rfl⟩,trivial⟩ rfl hcg hcr ?_
   intro a' w' us cur' hg' hsz' hdf' hrun' hh' hres hrep' ht16;have huse:=ja hrun';subst huse;obtain⟨t4,ds⟩:=a';have hds:ds=[]:=hdf';subst hds;have l2:t4.getD 2 undef=.int .i64 k:=hres.1.1;have l6:t4.getD 6 undef=.pointer (some ⟨n0+1+1,0,none⟩):=hres.2.1.1;have l8:(aE.aW (qC r)).rep (fun b=>M0 b\/b=g) w' (t4.getD 8 undef):=hres.2.2.1;have l9:(aE.slice 6 (vS V)).rep (fun b=>M0 b\/b=g) w' (t4.getD 9 undef):=hres.2.2.2.1;have l11:(aE.slice 1 ((List.range m).map fun l=>[aE.aW (jv q m lead aB st N l)])).rep (fun b=>M0 b\/b=g) w' (t4.getD 11 undef):=hres.2.2.2.2.1;have l12:t4.getD 12 undef=.int .i64 N:=hres.2.2.2.2.2.1.1;have l13:(aE.slice 6 (zK r N)).rep (fun b=>M0 b\/b=g) w' (t4.getD 13 undef):=hres.2.2.2.2.2.2.1;have l81:t4.getD 81 undef=.int .i64 0:=hres.2.2.2.2.2.2.2.1.1;have l16:t4.getD 16 undef=.pointer (some ⟨g,0,none⟩):=ht16;have hsz4:t4.size=146:=hsz';show Code.wp _ _ _ _ _;rw[kw (t:=t4) hsz4,l2,l6,l12,l16,l81];generalize t4.getD 8 undef=z8 at l8|-;generalize t4.getD 9 undef=z9 at l9|-;generalize t4.getD 11 undef=z11 at l11|-;generalize t4.getD 13 undef=z13 at l13|-;clear hres hrun' j8 j9 j11 j13
   go_wp2
   exact⟨2-(0+1),O,0+1,rfl,O,an hs7 hg'.size,⟨rfl,rfl,xz J.tu hg',rfl,rfl,l8,l9,l11,rfl,l13,rfl,rfl,cur',hh',hrep'⟩⟩
  .obtain⟨cur,hcg,hcr⟩:=J.hg;have hfin:cX (fun b=>M0 b\/b=g) WW:=hfine WW J.tu hs7;rw[kw (t:=t3) J.sz,show t3.getD 2 undef=_ from J.t2,show t3.getD 6 undef=_ from J.t6,show t3.getD 12 undef=_ from J.t12,show t3.getD 16 undef=_ from J.t16,show t3.getD 81 undef=_ from J.t81];have j8:(aE.aW (qC r)).rep (fun b=>M0 b\/b=g) WW (t3.getD 8 undef):=J.t8;have j9:(aE.slice 6 (vS V)).rep (fun b=>M0 b\/b=g) WW (t3.getD 9 undef):=J.t9;have j11:(aE.slice 1 ((List.range m).map fun l=>[aE.aW (jv q m lead aB st N l)])).rep (fun b=>M0 b\/b=g) WW (t3.getD 11 undef):=J.t11;have j13:(aE.slice 6 (zK r N)).rep (fun b=>M0 b\/b=g) WW (t3.getD 13 undef):=J.t13;generalize t3.getD 8 undef=y8 at j8|-;generalize t3.getD 9 undef=y9 at j9|-;generalize t3.getD 11 undef=y11 at j11|-;generalize t3.getD 13 undef=y13 at j13|-;refine fA ?_;generalize hK3:Exit.then _ _=K3
   go_wp2
   rw[<-hK3];clear hK3 K3;show Code.wp _ _ _ _ _;refine fA ?_;generalize hK3:Exit.then _ _=K3
   go_wp2
   rw[<-hK3];clear hK3 K3;show Code.wp _ _ _ _ _;refine fA ?_
   refine xA (N:=146) (t0:=16) (T:=233) (n:=12) (M:=fun b=>M0 b\/b=g) (g:=g) (cur:=cur) (cs:=cM (oV q m lead aB st r k V N 0).1 (oV q m lead aB st r k V N 0).2++cM 0 0) (ins:=[(2,.v none),(6,.v none),(8,.ref 3),(9,.v none),(11,.v none),(12,.v none),(13,.v none),(81,.k (.int .i64 1))])
    (xs:=[.v (.one (.int .i64 k)),.v (.one (.exact (.pointer (some ⟨n0+1+1,0,none⟩)))),.ref (qC r),.v (.one (.slice 6 (vS V))),.v (.one (.slice 1 ((List.range m).map fun l=>[.aW (jv q m lead aB st N l)]))),.v (.one (.int .i64 N)),.v (.one (.slice 6 (zK r N))),.v (.one (.int .i64 1))]) fo ⟨rfl,rfl,rfl,rfl,rfl,rfl,rfl,rfl,trivial⟩
    (bp0 _ q m lead aB st r k V N B BS G W EC C.hm4 C.hk hVl hV hW1 hW C.r0 (oV q m lead aB st r k V N 0)) aT
    hfin (.inr rfl) rfl rfl rfl ⟨⟨rfl,rfl⟩,⟨rfl,rfl⟩,j8,j9,j11,⟨rfl,rfl⟩,j13,⟨rfl,rfl⟩,trivial⟩ rfl hcg hcr ?_
   intro a' w' us cur' hg' hsz' hdf' hrun' hh' hres hrep' ht16;have huse:=ja hrun';subst huse;obtain⟨t4,ds⟩:=a';have hds:ds=[]:=hdf';subst hds;have l2:t4.getD 2 undef=.int .i64 k:=hres.1.1;have l6:t4.getD 6 undef=.pointer (some ⟨n0+1+1,0,none⟩):=hres.2.1.1;have l8:(aE.aW (qC r)).rep (fun b=>M0 b\/b=g) w' (t4.getD 8 undef):=hres.2.2.1;have l9:(aE.slice 6 (vS V)).rep (fun b=>M0 b\/b=g) w' (t4.getD 9 undef):=hres.2.2.2.1;have l11:(aE.slice 1 ((List.range m).map fun l=>[aE.aW (jv q m lead aB st N l)])).rep (fun b=>M0 b\/b=g) w' (t4.getD 11 undef):=hres.2.2.2.2.1;have l12:t4.getD 12 undef=.int .i64 N:=hres.2.2.2.2.2.1.1;have l13:(aE.slice 6 (zK r N)).rep (fun b=>M0 b\/b=g) w' (t4.getD 13 undef):=hres.2.2.2.2.2.2.1;have l81:t4.getD 81 undef=.int .i64 1:=hres.2.2.2.2.2.2.2.1.1;have l16:t4.getD 16 undef=.pointer (some ⟨g,0,none⟩):=ht16;have hsz4:t4.size=146:=hsz';show Code.wp _ _ _ _ _;rw[kw (t:=t4) hsz4,l2,l6,l12,l16,l81];generalize t4.getD 8 undef=z8 at l8|-;generalize t4.getD 9 undef=z9 at l9|-;generalize t4.getD 11 undef=z11 at l11|-;generalize t4.getD 13 undef=z13 at l13|-;clear hres hrun' j8 j9 j11 j13
   go_wp2
   exact⟨2,rfl,O,an hs7 hg'.size,⟨rfl,rfl,xz J.tu hg',rfl,rfl,l8,l9,l11,rfl,l13,rfl,rfl,cur',hh',hrep'⟩⟩
  .skip
   obtain⟨cur,hcg,hcr⟩:=J.hg;have hcl:cur.toList.length=12:=hcr.length.symm;rw[kw (t:=t3) J.sz,show t3.getD 6 undef=_ from J.t6,show t3.getD 16 undef=_ from J.t16,show t3.getD 81 undef=_ from J.t81]
   go_wp2
   rw[<-hK];show Code.wp _ _ _ _ _;refine fA ?_;have hgM:¬M0 g:=fun h=>by have:=hM1.1 g h;have:=hB16.size;omega
   have hfW:cX M0 WW:=(hfine WW J.tu hs7).sub fun b h=>.inl h
   have hblk:WW.heap[n0+1+1]?=some (.cells #[.slice none 0 0,.bool false,.slice none 0 0,.slice none 0 0,.bool false,.slice none 0 0,.slice none 0 0,.bool false,.slice none 0 0,.slice none 0 0,.bool false,.slice none 0 0] 233 (0,0)):=by
    have h1:=hB16.size;exact(J.tu.block _ O (fun e=>by simp only[aM]at e;omega)).trans ((hB16.block _ O).trans hR1)
   refine xA (N:=146) (t0:=6) (T:=233) (n:=12) (M:=M0) (g:=n0+1+1) (cs:=cM 0 0++cM 0 0) (ins:=[(16,.ref 12)]) (xs:=[.ref (bf5 (oV q m lead aB st r k V N) 2)]) fo ⟨rfl,trivial⟩
    (bJ9 (bf5 (oV q m lead aB st r k V N) 2) (cM 0 0++cM 0 0) rfl rfl) aT
    hfW (by rw[hM0];exact .inr rfl) rfl rfl rfl ⟨⟨g,0,cur,233,(0,0),rfl,hgM,hcg,by
     rw[gF,cU (by rw[hcl];exact ah _)];exact hcr.mono fun b o hb ho _=>⟨fun h=>hb (.inl h),ho⟩⟩,trivial⟩ rfl hblk (aR1 (F:=fun _=>(0,0))) ?_
   intro a' w' us cur' hg' hsz' hdf' hrun' hh' hres hrep' ht6;obtain⟨t4,ds⟩:=a';have hds:ds=[]:=hdf';subst hds;have l6:t4.getD 6 undef=.pointer (some ⟨n0+1+1,0,none⟩):=ht6;have hsz4:t4.size=146:=hsz';have hc12:=hrep'.length;obtain⟨c0,c1,c2,c3,c4,c5,c6,c7,c8,c9,c10,c11,hcc⟩:=XA hc12.symm;have hcur:cur'=#[c0,c1,c2,c3,c4,c5,c6,c7,c8,c9,c10,c11]:=by rw[<-Array.toArray_toList (xs:=cur'),hcc]
   rw[hcc]at hrep';rw[hcur]at hh'
   have hB9:Below w.heap.size w w':=⟨by rw[hg'.os,J.tu.os,hB6'.os],by rw[hg'.tape,J.tu.tape,hB6'.tape],by rw[hg'.output,J.tu.output,hB6'.output],by have h1:=hg'.size;have h2:=J.tu.size;have h3:=hB6'.size;omega,fun j hj=>by
    have h2:=J.tu.size;have h3:=hB6'.size;rw[hg'.block j O (fun e=>by simp only[aM]at e;omega),J.tu.block j O (fun e=>by simp only[aM]at e;omega),hB6'.block j hj]⟩
   have hrepM:=hrep'.mono (M':=M) (w':=w') fun b o hb ho _=>⟨fun h=>hb ((hM0 b).2 (.inl h)),ho⟩
   have d0:w'.cell? ⟨n0+1+1,0,none⟩=some c0:=aH hh' rfl;have d1:w'.cell? ⟨n0+1+1,1,none⟩=some c1:=aH hh' rfl;have d2:w'.cell? ⟨n0+1+1,2,none⟩=some c2:=aH hh' rfl;have d3:w'.cell? ⟨n0+1+1,3,none⟩=some c3:=aH hh' rfl;have d4:w'.cell? ⟨n0+1+1,4,none⟩=some c4:=aH hh' rfl;have d5:w'.cell? ⟨n0+1+1,5,none⟩=some c5:=aH hh' rfl;have d6:w'.cell? ⟨n0+1+1,6,none⟩=some c6:=aH hh' rfl;have d7:w'.cell? ⟨n0+1+1,7,none⟩=some c7:=aH hh' rfl;have d8:w'.cell? ⟨n0+1+1,8,none⟩=some c8:=aH hh' rfl;have d9:w'.cell? ⟨n0+1+1,9,none⟩=some c9:=aH hh' rfl;have d10:w'.cell? ⟨n0+1+1,10,none⟩=some c10:=aH hh' rfl;have d11:w'.cell? ⟨n0+1+1,11,none⟩=some c11:=aH hh' rfl;show Code.wp _ _ _ _ _;rw[kw (t:=t4) hsz4,l6];clear hrep' hres hrun' hcc hcr hcg J hK;rw[hr];have hpost:Qq M w (oV q m lead aB st r k V) (some N) (.returned (.agg #[c0,c1,c2,c3,c4,c5,c6,c7,c8,c9,c10,c11])) w':=⟨hB9,_,rfl,hrepM⟩
   generalize Qq M w (oV q m lead aB st r k V) (some N)=post at *
   go_wp2
   simp[bodyPost,results,show f170.results=#[.cell 6 233]from rfl,go_sem,d0,d1,d2,d3,d4,d5,d6,d7,d8,d9,d10,d11];exact hpost
 .rintro e w5 rfl hb5;exact⟨rfl,hB23.trans (hb5.mono (by have:=hB23.size;omega)),rfl⟩
end Go.Sy
namespace Go.Sy
open Go Go.Proofs Go.RowKit Tryz Ord
attribute [local go_sem] Oper.semAt_some
def HD(M:j2)(w:World)(hM:cX M w)(E:j0)(X:Rat)(Y:j1)(a b:Rat)(k er:Int)
  (hvc:∀v6:Value,vc prog (fun o=>ey o (.pan (zI er))) (lG prog 146 (fun _=>none) (cJ [1] (dJ f170)) [(2,.v none),(3,.ref 5),(4,.ref 6),(6,.v none)] ([2,6,8,9,10].map ResultVar.tmp) (some 3) false) ([.v (.one (.int .i64 k)),.ref (fC E X Y),.ref (cM a b),.v (.one (.exact v6))].map In.env) [])
  (f0 f1 f2 f3 f4 s0 s1 s2 s3 s4 s5:Value) (hf:ai M w (fC E X Y) [f0,f1,f2,f3,f4]) (hs:ai M w (cM a b) [s0,s1,s2,s3,s4,s5]) :
  Calls prog 170 #[.agg #[f0,f1,f2,f3,f4],.agg #[s0,s1,s2,s3,s4,s5],.int .i64 k] w fun e w'=>Below w.heap.size w w'/\e=.panicked [{ v:=LR er,recovered:=false }]:=by
 obtain⟨o0,o1,o2,o3,o4⟩:f0.oneCell'=true/\f1.oneCell'=true/\f2.oneCell'=true/\f3.oneCell'=true/\f4.oneCell'=true:=by have:=hf.one;exact⟨this _ bY,this _ bY,this _ bY,this _ bY,this _ bY⟩
 obtain⟨p0,p1,p2,p3,p4,p5⟩:=A7 hs.one
 refine jn func170 rfl ?_;simp only[ntmps170,ed,bm,ck,Nat.reduceAdd,Nat.reduceSub,fX,fW,fS,fU,List.nil_append,List.cons_append];obtain⟨n0,hn0⟩:∃n0,w.heap.size=n0:=⟨_,rfl⟩
 refine fA ?_;generalize hK:Exit.then _ _=K
 go_wp2
 rw[<-hK];clear hK K;obtain⟨W1,hW1'⟩:∃W1,(((w.alloc (.cells #[f0,f1,f2,f3,f4] 42)).alloc (.cells #[s0,s1,s2,s3,s4,s5] 123)).alloc (.cells #[.slice none 0 0,.bool false,.slice none 0 0,.slice none 0 0,.bool false,.slice none 0 0,.slice none 0 0,.bool false,.slice none 0 0,.slice none 0 0,.bool false,.slice none 0 0] 233))=W1:=⟨_,rfl⟩
 have hs1:W1.heap.size=n0+3:=by rw[<-hW1'];simp[hn0]
 have hB1:Below w.heap.size w W1:=by rw[<-hW1'];exact(((cz _ w).alloc (ah _) _).alloc bY _).alloc iF _
 have hF1:W1.heap[n0]?=some (.cells #[f0,f1,f2,f3,f4] 42 (0,0)):=by rw[<-hW1',bJ _ _ _ iF,bJ _ _ _ iF,<-hn0];exact bc w _
 have hS1:W1.heap[n0+1]?=some (.cells #[s0,s1,s2,s3,s4,s5] 123 (0,0)):=by
  rw[<-hW1',bJ _ _ _ iF];have:=bc (w.alloc (.cells #[f0,f1,f2,f3,f4] 42)) (.cells #[s0,s1,s2,s3,s4,s5] 123)
  rwa[br,hn0]at this
 have hR1:W1.heap[n0+1+1]?=some (.cells #[.slice none 0 0,.bool false,.slice none 0 0,.slice none 0 0,.bool false,.slice none 0 0,.slice none 0 0,.bool false,.slice none 0 0,.slice none 0 0,.bool false,.slice none 0 0] 233 (0,0)):=by
  rw[<-hW1'];have:=bc ((w.alloc (.cells #[f0,f1,f2,f3,f4] 42)).alloc (.cells #[s0,s1,s2,s3,s4,s5] 123)) (.cells #[.slice none 0 0,.bool false,.slice none 0 0,.slice none 0 0,.bool false,.slice none 0 0,.slice none 0 0,.bool false,.slice none 0 0,.slice none 0 0,.bool false,.slice none 0 0] 233)
  rwa[br,br,hn0]at this
 obtain⟨M0,hM0⟩:∃M0:Nat->Prop,∀b,M0 b↔(M b\/b=n0+1+1):=⟨fun b=>M b\/b=n0+1+1,fun _=>Iff.rfl⟩
 have hk01:bq M w M0 W1:=fun b o hb ho _=>by
  have hl:=(cf.1 ho).1;exact⟨fun h=>by rw[hM0]at h;exact h.elim hb (fun e=>O),(hB1.block b hl).trans ho⟩
 have hM1:cX M0 W1:=⟨fun b h=>by
  rw[hM0]at h;rcases h with h | h
  .have:=hM.1 b h;omega
  .omega,hM.2.jc hk01⟩
 rw[hW1']
 have nM:∀j,n0<=j->j<n0+2->¬M0 j:=fun j hj hj2 h=>by
  rw[hM0]at h;rcases h with h | h
  .have:=hM.1 j h;omega
  .omega
 show Code.wp _ _ _ _ _
 refine wY (n:=3) (ins:=[(2,.v none),(3,.ref 5),(4,.ref 6),(6,.v none)]) (xs:=[.v (.one (.int .i64 k)),.ref (fC E X Y),.ref (cM a b),.v (.one (.exact (.pointer (some ⟨n0+1+1,0,none⟩))))]) fo ⟨rfl,rfl,rfl,rfl,trivial⟩
  (hvc _) aT hM1 rfl rfl
  ⟨⟨rfl,rfl⟩,⟨n0,0,_,_,_,rfl,nM _ O O,hF1,hf.mono hk01⟩,⟨n0+1,0,_,_,_,rfl,nM _ O O,hS1,hs.mono hk01⟩,⟨rfl,rfl⟩,trivial⟩ (fun e a' w' rs us h=>by cases h) ?_
 intro c v a' w' h hdf hB2 hv;cases h;have hv:v=LR er:=hv.1;subst hv;exact⟨hdf,hB1.trans (hB2.mono hB1.size),rfl⟩
def yI(E:j0)(c r:Rat)(k:Int)(v:Option VS):Except Int (Nat->Rat×Rat):=match v with
 | none=>.error 5
 | some V=>match bp (aV E c) (E.length-1) (aG E c)with
   | none=>.error 5
   | some (aB,st)=>if r+r<=aB then(match ew E c aB st r 1 k with
     | none=>.error 5
     | some n=>.ok (oV (aV E c) (E.length-1) (aG E c) aB st r k V n))
     else .error 14
def NN{E:j0}{c:Rat}(h:bp (aV E c) (E.length-1) (aG E c)=none):oM E c=.pan (zI 5):=by unfold oM;rw[h]
def Ma{E:j0}{c aB:Rat}{st:Nat}(h:bp (aV E c) (E.length-1) (aG E c)=some (aB,st)):oM E c=.ret [.agg (zJ (aV E c) (E.length-1) (aG E c) aB (st:Nat))]:=by unfold oM;rw[h]
def uN{E:j0}{c r:Rat}{k:Int}{V:VS}(h:bp (aV E c) (E.length-1) (aG E c)=none):yI E c r k (some V)=.error 5:=by unfold yI;rw[h]
def BK{E:j0}{c r aB:Rat}{st:Nat}{k:Int}{V:VS}(h:bp (aV E c) (E.length-1) (aG E c)=some (aB,st))(hle:¬r+r<=aB):yI E c r k (some V)=.error 14:=by unfold yI;rw[h];exact aD hle
theorem yT{E:j0}{c r aB:Rat}{st:Nat}{k:Int}{V:VS}(h:bp (aV E c) (E.length-1) (aG E c)=some (aB,st))(hle:r+r<=aB):yI E c r k (some V)=(match ew E c aB st r 1 k with
        | none=>.error 5
        | some n=>.ok (oV (aV E c) (E.length-1) (aG E c) aB st r k V n)):=by unfold yI;rw[h];exact aI hle
def Yk:Except Int (Nat->Rat×Rat)->Out
 | .ok F=>.ret [.agg (cM (F 0).1 (F 0).2++cM (F 1).1 (F 1).2)]
 | .error e=>.pan (zI e)
section
variable{E:j0}{ER:List (List RQ)}{X:Rat}{XR:RQ}
def SmallX.cK6(h:SmallX E ER X XR)(hr:jO E X){aB r:Rat}{st:Nat}{k:Int}(S:oQ E X aB st r k)(hr0:0<=r) :
  cr4 (aV E X) (E.length-1) (aG E X) aB st r k 4096 (UP) 200000000 211000000 40000000 (nG k) (ew E X aB st r 1 k):=by
 have C:=h.at0 hr S;obtain⟨hl2,h5,hld,_⟩:=hr.facts;have T:=h.aS9 hr S;have L:=h.ab8 hr S (d:=1) (ah 1);have ha:r.abs=r:=by unfold Rat.abs;rw[aI hr0]
 rw[ha]at T L;exact⟨C.hm1,O,C.hk,C.hgq,T,L,fun N hN=>h.cz4 hr S hr0 (L.some N hN).1 (L.some N hN).2,hr0,C.hst15,C.SC,C.hNs,C.hN15,C.hBs,C.h64,C.hql,C.hp,C.hl0,C.hw,C.hrho⟩
def ac2{E:j0}{x:Rat}{k:Int}{H W:Nat}{Inv:Nat->Rat->VS->Prop}(P:SI E x k H W Inv){w:VS}:∀f c v,Inv f c v->fe E x k f c v=some w->∃g,Inv g x w:=by
 intro f
 induction f with
 | zero=>
   intro c v hI h;by_cases hc:c=x
   .subst hc;rw[mi]at h;obtain rfl:=ke h;exact⟨_,hI⟩
   .rw[uI hc]at h;cases h
 | succ f ih=>
   intro c v hI h;by_cases hc:c=x
   .subst hc;rw[mi]at h;obtain rfl:=ke h;exact⟨_,hI⟩
   .cases hm:xm E x k c with
    | none=>rw[qD _ hc hm]at h;cases h
    | some z=>
      obtain⟨t,M⟩:=z;rw[qL f hc hm]at h;exact ih _ _ (P.next f c v t M hI hc hm) h
def SmallX.cG6(h:SmallX E ER X XR){Y:j1}{a b:Rat}{k:Int}(hk:k<=256)(F:ar4 E X (ao (a+b)))(hrt:vJ (ao (b-a)))(hr0:0<=ao (b-a))(ha:Fit 513 a)(hb:Fit 513 b)(hyl:Y.length=E.length-1)(hyf:∀y∈Y,Fit 2000 y) :
  aK prog 170 [fT E X Y,kP a b,.one (.int .i64 k)] (Yk (yI E (ao (a+b)) (ao (b-a)) k (fe E (ao (a+b)) k 64 X (MH Y)))):=by
 obtain⟨l2,l5,_,_⟩:=F.hr.facts;have P:=h.bv8 F hk;have I0:=YC.first F (v0:=MH Y) (by rw[aX];exact hyl) (fun p hp=>by obtain⟨y,hy,rfl⟩:=jf.1 hp;exact⟨hyf y hy,hyf y hy⟩);have hval:=Cy E X Y (ao (a+b)) k 12000000 768021200 _ P hk l2 l5 (F.xb.fit.mono O) I0;refine⟨bM aT,fun M w vs hM hv=>?_⟩
 match vs,hv with
 | [fv,sv,kv],hv=>
   obtain⟨us,rfl,hus⟩:=hv.1;obtain⟨u0,u1,u2,u3,u4,rfl⟩:=aM5 hus;obtain⟨ss,rfl,hss⟩:=hv.2.1;obtain⟨s0,s1,s2,s3,s4,s5,rfl⟩:=bJ8 hss;have hkv:kv=.int .i64 k:=hv.2.2.1.1;subst hkv
   have pan:∀er:Int,(∀v6:Value,vc prog (fun o=>ey o (.pan (zI er))) (lG prog 146 (fun _=>none) (cJ [1] (dJ f170)) [(2,.v none),(3,.ref 5),(4,.ref 6),(6,.v none)] ([2,6,8,9,10].map ResultVar.tmp) (some 3) false) ([.v (.one (.int .i64 k)),.ref (fC E X Y),.ref (cM a b),.v (.one (.exact v6))].map In.env) []) ->
     Calls prog 170 #[.agg #[u0,u1,u2,u3,u4],.agg #[s0,s1,s2,s3,s4,s5],.int .i64 k] w fun e w'=>Below w.heap.size w w'/\uF M w' (Yk (.error er)) e:=fun er hvc=>
    (HD M w hM E X Y a b k er hvc u0 u1 u2 u3 u4 s0 s1 s2 s3 s4 s5 hus hss).mono fun e w' hp=>⟨hp.1,LR er,hp.2,rfl,rfl⟩
   cases hv:fe E (ao (a+b)) k 64 X (MH Y)with
   | none=>
     rw[hv]at hval;exact pan 5 fun v6=>ba7 v6 E X Y a b k [] 0 0 0 0 [] ha hb hval
   | some V=>
     rw[hv]at hval;obtain⟨g,hI⟩:=ac2 P 64 _ _ I0 hv;have hc:=h.at (hI.on.Dv F.xd h.xb F.xb);have hat:=BP hc hI.reg;have hre:=uT hc hI.reg;have hVW:∀p∈V,Fit 768021200 p.1/\Fit 768021200 p.2:=fun p hp=>⟨(hI.vf p hp).1.mono sC.2,(hI.vf p hp).2.mono sC.2⟩
     have hVl:=hI.vl;obtain⟨o,hrv⟩:∃o,bp (aV E (ao (a+b))) (E.length-1) (aG E (ao (a+b)))=o:=⟨_,rfl⟩
     cases o with
     | none=>
       rw[NN hrv]at hre;rw[uN hrv];exact pan 5 fun v6=>bp1 v6 E X Y a b k _ _ _ 0 0 V ha hb hval hat hre
     | some z=>
       obtain⟨aB,st⟩:=z;rw[Ma hrv]at hre;obtain⟨hh,hh62,hrho,_,_⟩:=ef hrv;have hrf:Fit 2097152 aB:=by rw[hrho];exact(fI hrt hh62 (n:=1) (d:=0) O O (ah _)).o1
       by_cases hle:ao (b-a)+ao (b-a)<=aB
       .have S:oQ E (ao (a+b)) aB st (ao (b-a)) k:=YX hI.reg hrv hrt (by
         unfold Rat.abs;rw[aI hr0];grind) hk
        have K:=hc.cK6 hI.reg S hr0;have hin:=MO M w hM E X Y a b k V _ _ _ aB st K 768021200 hVl hVW ha hb hval hat hre hrf hle u0 u1 u2 u3 u4 s0 s1 s2 s3 s4 s5 hus hss;refine hin.mono ?_;rintro e w' ⟨hb1,h2⟩;refine⟨hb1,?_⟩;rw[yT hrv hle];cases ht:ew E (ao (a+b)) aB st (ao (b-a)) 1 k with
        | none=>
          rw[ht]at h2;exact⟨LR 5,h2,rfl,rfl⟩
        | some n=>
          rw[ht]at h2;obtain⟨vs,rfl,hr⟩:=h2;exact⟨[.agg vs.toArray],rfl,⟨vs,rfl,hr⟩,trivial⟩
       .rw[BK hrv hle];exact pan 14 fun v6=>bb7 v6 E X Y a b k _ _ _ aB st V ha hb hval hat hre hrf hle
 | [],hv=>exact hv.elim
 | [_],hv=>exact hv.2.elim
 | [_,_],hv=>exact hv.2.2.elim
 | _::_::_::_::_,hv=>exact hv.2.2.2.elim
end
end Go.Sy
