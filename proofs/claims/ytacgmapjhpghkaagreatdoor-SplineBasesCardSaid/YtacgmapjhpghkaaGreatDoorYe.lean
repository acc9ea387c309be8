/- Part. -/
import Derived.Test.YtacgmapjhpghkaaGreatDoorYd
set_option linter.all false
namespace Go.Sy
open Go Go.Proofs Go.RowKit Tryz Ord
noncomputable abbrev cB(p:List Nat):Code:=aM p (aO f4)
abbrev Q0(M:Nat->Prop)(w:World):Exit->Act->World->Prop:=bodyPost prog f4 (fun e w'=>Below w.heap.size w w'/\oZ M w' (.ret [.one (.bool true)]) e)
abbrev fsD(z i:Int)(t c:List RQ)(x:Rat)(a1 b1:aC)(e1:Int)(a2 b2:aC)(e2:Int)(l1 l2:aC)(e3:Int):List (Nat×aN):=
 [(1,.one (.int .i64 z)),(2,.one (.int .i64 i)),(11,.one (sQ (t.map RQ.q))),(12,.one (sR t)),(13,.one (sQ (c.map RQ.q))),(14,.one (sR c)),(16,.one (.aw (rC (.of x)))),(17,.one (.aw [a1,b1])),(18,.one (.int .i64 e1)),(19,.one (.aw [a2,b2])),(20,.one (.int .i64 e2)),(21,.one l1),(22,.one l2),(23,.one (.int .i64 e3))]
set_option maxRecDepth 100000
section
variable{M:Nat->Prop}{w W:World}{a:Act}{z i:Int}{d k:Nat}{t c:List RQ}{x:Rat}{a1 b1 a2 b2 l1 l2:aC}{e1 e2 e3:Int}
theorem as1(J:LS M w (fsD z i t c x (sQ []) (eQ []) 2 (sQ []) (eQ []) 2 (sQ []) (sQ []) 2) a W)(hk:∀a∈t,Fit 40 a.q)(hz:-9223372036854775808<=z/\z<9223372036854775808)(hno:¬im (t.map RQ.q) z)(hs:t.length<1099511627776:=by omega):(cB [1,1,1,1,1,1,1,1]).wp prog (Q0 M w) a W:=by
 show(Code.seq (Code.seq (cB [1,1,1,1,1,1,1,1,0,0]) (.cond (.tmp 105) (.seq (cB [1,1,1,1,1,1,1,1,0,1,0,0]) .ret) .skip)) (cB [1,1,1,1,1,1,1,1,1])).wp prog _ _ _;refine bB (bB (J.pc 14 [0,3] (bj8 t z hk hs hz) ⟨rfl,rfl,trivial⟩ rfl (by kernel_rfl) rfl ?_));intro a2 W2 J2;have q:=J2.bool 14 rfl;rw[cE hno]at q;refine qK (t:=true) q ?_;show(Code.seq (cB [1,1,1,1,1,1,1,1,0,1,0,0]) .ret).wp prog _ _ _;refine bB (J2.pc 14 [7,8,9,10,11,12,13] (cg1) ⟨rfl,rfl,rfl,rfl,rfl,rfl,rfl,trivial⟩ rfl (by kernel_rfl) rfl ?_);intro a3 W3 J3;exact lJ (J3.ret 14 rfl)
theorem aY3(hk:∀a∈t,Fit 62 a.q)(hc:∀a∈c,Fit 62 a.q)(hx:Fit 62 x)(hd3:d<=3)(F:EZ (t.map RQ.q) d)(hcl:c.length=t.length-d-1)(A:Add (t.map RQ.q) x k d)(hx1:(t.map RQ.q).getD d 0<x)(hm:mulN (t.map RQ.q) x (t.map RQ.q).length<=d){n:Int}{m:Int}
  (J:LS M w (fsD (d:Int) i t c x a1 b1 e1 a2 b2 e2 (sQ (fx (t.map RQ.q) x k)) (sQ (nU (t.map RQ.q) (c.map RQ.q) x d k (mulN (t.map RQ.q) x (t.map RQ.q).length) (t.length-d))) 0++[(24,.one (.int .i64 n)),(26,.one (.aw [sR (kR t d),eR (pR t c d)])),(27,.one (.int .i64 m)),(29,.one (.int .i64 0))]) a W):(cB [1,1,1,1,1,1,1,1,1,1,1,1,1,1,1,1,1,1,1]).wp prog (Q0 M w) a W:=by
 have hs:=F.hs;rw[aI]at hs;show(Code.seq (cB [1,1,1,1,1,1,1,1,1,1,1,1,1,1,1,1,1,1,1,0]) (.seq (cB [1,1,1,1,1,1,1,1,1,1,1,1,1,1,1,1,1,1,1,1,0]) .ret)).wp prog _ _ _;refine bB (J.pc 18 [3,6] (ck0 t x k d hk hx hs A) ⟨rfl,rfl,trivial⟩ rfl (by kernel_rfl) rfl ?_);intro a2 W2 J2;refine bB (J2.pc 18 [0,2,3,4,5,11,12,13,15,18] (ck5 t c x k d hk hc hx hd3 F hcl A hx1 hm) ⟨rfl,rfl,rfl,rfl,rfl,rfl,rfl,rfl,rfl,rfl,trivial⟩ rfl (by kernel_rfl) rfl ?_);intro a3 W3 J3;exact lJ (J3.ret 18 rfl)
theorem aW8(hk:∀a∈t,Fit 40 a.q)(hc:∀a∈c,Fit 40 a.q)(hx:Fit 40 x)(hd3:d<=3)(F:EZ (t.map RQ.q) d)(hcl:c.length=t.length-d-1){n e:Int}
  (he:e=wk ((t.map RQ.q).getD d 0) ((t.map RQ.q).getD ((t.map RQ.q).length-1-d) 0) x (mulN (t.map RQ.q) x (t.map RQ.q).length) d t.length)
  (hl:e≠0->l1=sQ []/\l2=sQ [])
  (hg:e=0->∃k,Add (t.map RQ.q) x k d/\l1=sQ (fx (t.map RQ.q) x k)/\l2=sQ (nU (t.map RQ.q) (c.map RQ.q) x d k (mulN (t.map RQ.q) x (t.map RQ.q).length) (t.length-d)))
  (J:LS M w (fsD (d:Int) i t c x a1 b1 e1 (sQ ((oJ (t.map RQ.q) d ((t.map RQ.q).length-1-d)).map (fun s=>(t.map RQ.q).getD s 0)++[(t.map RQ.q).getD ((t.map RQ.q).length-1-d) 0])) (eQ ((oJ (t.map RQ.q) d ((t.map RQ.q).length-1-d)).map (nW (t.map RQ.q) d (c.map RQ.q)))) 0 l1 l2 e++[(24,.one (.int .i64 n))]) a W):(cB [1,1,1,1,1,1,1,1,1,1,1,1]).wp prog (Q0 M w) a W:=by
 have hs:=F.hs;have h2:=F.h2;rw[aI]at hs h2;have hk6:∀a∈t,Fit 62 a.q:=fun a ha=>(hk a ha).mono (by omega);have hc6:∀a∈c,Fit 62 a.q:=fun a ha=>(hc a ha).mono (by omega);have hx6:Fit 62 x:=hx.mono (by omega);have hnl:(yr t d (t.length-1-d)).length<=t.length-1-d:=vG _ _ _;have hKl:(kR t d).length=(yr t d (t.length-1-d)).length+1:=by rw[kR,cJ,aI];rfl
 have hKf:∀a∈kR t d,Fit 40 a.q:=fun a ha=>by
  rcases fI.1 ha with h | h
  ·obtain⟨k,_,rfl⟩:=dH.1 h;exact af hk k
  ·rw[ed.1 h];exact af hk _
 have hle:d<=(t.map RQ.q).length-1-d:=by rw[aI];omega
 have k0:((kR t d).getD 0 .nil).q=(t.map RQ.q).getD d 0:=by rw[<-fN,OV,Lo _ hle]
 have k1:((kR t d).getD ((kR t d).length-1) .nil).q=(t.map RQ.q).getD ((t.map RQ.q).length-1-d) 0:=by
  have:=am6 (t.map RQ.q) d ((t.map RQ.q).length-1-d)
  rwa[<-OV,aI,fN]at this
 show(Code.seq (cB [1,1,1,1,1,1,1,1,1,1,1,1,0]) (.seq (cB [1,1,1,1,1,1,1,1,1,1,1,1,1,0]) (.seq (cB [1,1,1,1,1,1,1,1,1,1,1,1,1,1,0]) (.seq (cB [1,1,1,1,1,1,1,1,1,1,1,1,1,1,1,0]) (.seq (cB [1,1,1,1,1,1,1,1,1,1,1,1,1,1,1,1,0]) (.seq (cB [1,1,1,1,1,1,1,1,1,1,1,1,1,1,1,1,1,0]) (.seq (.seq (cB [1,1,1,1,1,1,1,1,1,1,1,1,1,1,1,1,1,1,0,0]) (.cond (.tmp 250) (.seq (cB [1,1,1,1,1,1,1,1,1,1,1,1,1,1,1,1,1,1,0,1,0,0]) .ret) .skip)) (cB [1,1,1,1,1,1,1,1,1,1,1,1,1,1,1,1,1,1,1])))))))).wp prog _ _ _;refine bB (J.pc 15 [0,3,5] (bX2 t c d hk6 hc6 hd3 F hcl) ⟨rfl,rfl,rfl,trivial⟩ rfl (by kernel_rfl) rfl ?_);intro a2 W2 J2;refine bB (J2.pc 16 [9,10,15] (cd0 t c d hk6 hc6 hd3 F) ⟨rfl,rfl,rfl,trivial⟩ rfl (by kernel_rfl) rfl ?_);intro a3 W3 J3;refine bB (J3.pc 16 [] (bT7) trivial rfl (by kernel_rfl) rfl ?_);intro a4 W4 J4;refine bB (J4.pc 16 [3,6,16] (bZ9 t (.of x) hk hx) ⟨rfl,rfl,rfl,trivial⟩ rfl (by kernel_rfl) rfl ?_);intro a5 W5 J5;refine bB (J5.pc 17 [] (cb7) trivial rfl (by kernel_rfl) rfl ?_);intro a6 W6 J6;refine bB (J6.pc 17 [0,3,6,15,16,17] (bQ6 t (kR t d) (.of x) d (mulN (t.map RQ.q) (RQ.of x).q t.length) 40 hKf hx (eR (pR t c d))) ⟨rfl,rfl,rfl,rfl,rfl,rfl,trivial⟩ rfl (by kernel_rfl) rfl ?_);intro a7 W7 J7
 have he':wk ((kR t d).getD 0 .nil).q ((kR t d).getD ((kR t d).length-1) .nil).q (RQ.of x).q (mulN (t.map RQ.q) (RQ.of x).q t.length) d t.length=e:=by
  rw[he,k0,k1,aI];rfl
 rw[he']at J7;refine bB (bB (J7.pc 18 [17] (cl1 e) ⟨rfl,trivial⟩ rfl (by kernel_rfl) rfl ?_));intro a8 W8 J8;refine qK (t:=decide (e≠0)) (J8.bool 18 rfl) ?_;by_cases h0:e=0
 ·rw[cE (fun h=>h h0)];refine wh ?_;obtain⟨k,A,rfl,rfl⟩:=hg h0;subst h0
  obtain⟨hx1,hm⟩:(t.map RQ.q).getD d 0<x/\mulN (t.map RQ.q) x (t.map RQ.q).length<=d:=by
   unfold wk at he;split at he
   ·cases he
   rename_i h1;split at he
   ·cases he
   rename_i h2;exact⟨Rat.not_le.1 fun h=>h1 (.inl h),kD.1 fun h=>h2 (.inl h)⟩
  exact aY3 hk6 hc6 hx6 hd3 F hcl A hx1 hm ⟨J8.sz,J8.df,J8.bel,J8.nS,fun p hp=>J8.rep p (fV _ hp)⟩
 ·rw[bV h0];obtain⟨rfl,rfl⟩:=hl h0;show(Code.seq (cB [1,1,1,1,1,1,1,1,1,1,1,1,1,1,1,1,1,1,0,1,0,0]) .ret).wp prog _ _ _;refine bB (J8.pc 18 [11,12,13,17] (bR2 e) ⟨rfl,rfl,rfl,rfl,trivial⟩ rfl (by kernel_rfl) rfl ?_);intro a9 W9 J9;exact lJ (J9.ret 18 rfl)
theorem bG0(hcs:c.length<1099511627776)(ht:t.length<=60)(h2:2*d+2<=t.length)
  (J:LS M w (fsD (d:Int) i t c x a1 b1 e1 a2 b2 e2 l1 l2 e3++[(24,.one (.int .i64 ((t.length:Int)-(d:Int)-1)))]) a W)
  (hbad:c.length≠t.length-d-1->a2=sQ []/\b2=eQ []/\e2=2/\l1=sQ []/\l2=sQ []/\e3=2)
  (hgood:c.length=t.length-d-1->∀{a':Act}{W':World},LS M w (fsD (d:Int) i t c x a1 b1 e1 a2 b2 e2 l1 l2 e3++[(24,.one (.int .i64 ((t.length:Int)-(d:Int)-1)))]) a' W'->(cB [1,1,1,1,1,1,1,1,1,1,1,1]).wp prog (Q0 M w) a' W'):(cB [1,1,1,1,1,1,1,1,1,1,1]).wp prog (Q0 M w) a W:=by
 show(Code.seq (Code.seq (cB [1,1,1,1,1,1,1,1,1,1,1,0,0]) (.cond (.tmp 172) (.seq (cB [1,1,1,1,1,1,1,1,1,1,1,0,1,0,0]) .ret) .skip)) (cB [1,1,1,1,1,1,1,1,1,1,1,1])).wp prog _ _ _;refine bB (bB (J.pc 15 [5,14] (bR5 c _ hcs) ⟨rfl,rfl,trivial⟩ rfl (by kernel_rfl) rfl ?_));intro a3 W3 J3;refine qK (t:=decide ((c.length:Int)≠(t.length:Int)-(d:Int)-1)) (J3.bool 15 rfl) ?_;by_cases h0:c.length=t.length-d-1
 ·rw[cE (by omega)];refine wh ?_;exact hgood h0 ⟨J3.sz,J3.df,J3.bel,J3.nS,fun p hp=>J3.rep p (fV _ hp)⟩
 ·rw[bV (by omega)];obtain⟨rfl,rfl,rfl,rfl,rfl,rfl⟩:=hbad h0;show(Code.seq (cB [1,1,1,1,1,1,1,1,1,1,1,0,1,0,0]) .ret).wp prog _ _ _;refine bB (J3.pc 15 [9,10,11,12,13] (bR1) ⟨rfl,rfl,rfl,rfl,rfl,trivial⟩ rfl (by kernel_rfl) rfl ?_);intro a9 W9 J9;exact lJ (J9.ret 15 rfl)
theorem bN7(hk:∀a∈t,Fit 40 a.q)(hd3:d<=3)(F:EZ (t.map RQ.q) d)
  (hbad:i<0\/(t.length:Int)-(d:Int)-1<=i->a1=sQ []/\b1=eQ []/\e1=3)
  (hgood:¬(i<0\/(t.length:Int)-(d:Int)-1<=i)->∃j:Nat,i=(j:Int)/\[a1,b1]=aw6 (t.map RQ.q) (Gy (t.map RQ.q) d j) d/\e1=0)
  (J:LS M w (fsD (d:Int) i t c x a1 b1 e1 a2 b2 e2 l1 l2 e3) a W)
  (hQ:∀{a':Act}{W':World},LS M w (fsD (d:Int) i t c x a1 b1 e1 a2 b2 e2 l1 l2 e3++[(24,.one (.int .i64 ((t.length:Int)-(d:Int)-1)))]) a' W'->(cB [1,1,1,1,1,1,1,1,1,1,1]).wp prog (Q0 M w) a' W'):(cB [1,1,1,1,1,1,1,1]).wp prog (Q0 M w) a W:=by
 have hs:=F.hs;have h2:=F.h2;rw[aI]at hs h2;show(Code.seq (Code.seq (cB [1,1,1,1,1,1,1,1,0,0]) (.cond (.tmp 105) (.seq (cB [1,1,1,1,1,1,1,1,0,1,0,0]) .ret) .skip)) (.seq (cB [1,1,1,1,1,1,1,1,1,0]) (.seq (.seq (cB [1,1,1,1,1,1,1,1,1,1,0,0]) (.cond (.tmp 144) (cB [1,1,1,1,1,1,1,1,1,1,0,1,0]) (cB [1,1,1,1,1,1,1,1,1,1,0,1,1]))) (cB [1,1,1,1,1,1,1,1,1,1,1])))).wp prog _ _ _;refine bB (bB (J.pc 14 [0,3] (bj8 t d hk) ⟨rfl,rfl,trivial⟩ rfl (by kernel_rfl) rfl ?_));intro a2 W2 J2;have q:=J2.bool 14 rfl;rw[bV (show im (t.map RQ.q) (d:Int)from⟨by omega,F⟩)]at q;refine qK (t:=false) q ?_;refine wh ?_;refine bB (J2.pc 14 [0,3] (bV8 t d) ⟨rfl,rfl,trivial⟩ rfl (by kernel_rfl) rfl ?_);intro a3 W3 J3;refine bB (bB (J3.pc 15 [1,14] (bX9 _ _) ⟨rfl,rfl,trivial⟩ rfl (by kernel_rfl) rfl ?_));intro a4 W4 J4;refine qK (t:=decide (i<0\/(t.length:Int)-(d:Int)-1<=i)) (J4.bool 15 rfl) ?_;by_cases h0:i<0\/(t.length:Int)-(d:Int)-1<=i
 ·rw[bV h0];obtain⟨rfl,rfl,rfl⟩:=hbad h0;refine J4.pc 15 [7,8] (cc7) ⟨rfl,rfl,trivial⟩ rfl (by kernel_rfl) rfl ?_;intro a5 W5 J5;exact hQ ⟨J5.sz,J5.df,J5.bel,J5.nS,fun p hp=>J5.rep p (fV _ hp)⟩
 ·rw[cE h0];obtain⟨j,rfl,hab,rfl⟩:=hgood h0;obtain⟨rfl,hab2⟩:=List.cons.inj hab;obtain⟨rfl,_⟩:=List.cons.inj hab2;refine J4.pc 15 [0,1,3,7,8,14] (bX5 t d j (fun a ha=>(hk a ha).mono (by omega)) hd3 F) ⟨rfl,rfl,rfl,rfl,rfl,rfl,trivial⟩ rfl (by kernel_rfl) rfl ?_;intro a5 W5 J5;exact hQ ⟨J5.sz,J5.df,J5.bel,J5.nS,fun p hp=>J5.rep p (fV _ hp)⟩
end
theorem xE{l:List de}{m:Int}(h:jl l m=true):∀a∈cP l,Fit 40 a:=fun a ha=>by
 rw[jl,bR,er]at h;obtain⟨x,hx,rfl⟩:=dH.1 ha;exact aH4 (h.1 x hx)
theorem au6{t:List RQ}{d:Nat}{i:Int}(hk:∀a∈t,Fit 40 a.q)(hd3:d<=3)(F:EZ (t.map RQ.q) d)(hi:-9223372036854775808<=i/\i<9223372036854775808):∃(a1 b1:aC)(e1:Int),aU prog 34 [.one (sQ (t.map RQ.q)),.one (.int .i64 (d:Int)),.one (.int .i64 i)] (.ret [.agg [a1,b1],.one (.int .i64 e1)]) /\
  (i<0\/(t.length:Int)-(d:Int)-1<=i->a1=sQ []/\b1=eQ []/\e1=3) /\
  (¬(i<0\/(t.length:Int)-(d:Int)-1<=i)->∃j:Nat,i=(j:Int)/\[a1,b1]=aw6 (t.map RQ.q) (Gy (t.map RQ.q) d j) d/\e1=0):=by
 have hs:=F.hs
 have hK:∀a∈t.map RQ.q,Fit 40 a:=fun a ha=>by
  obtain⟨b,hb,rfl⟩:=dH.1 ha;exact hk b hb
 have hl:(t.map RQ.q).length=t.length:=aI _;by_cases h:i<0\/(t.length:Int)-(d:Int)-1<=i
 ·have hF:im (t.map RQ.q) (d:Int):=⟨by omega,F⟩
  have:=AP (t.map RQ.q) (d:Int) i 40 (by omega) (by omega) hK (by omega) (by omega) (fun⟨_,h1,h2⟩=>by rw[hl]at h2;omega);rw[aK hF]at this;exact⟨_,_,_,this,fun _=>⟨rfl,rfl,rfl⟩,fun h'=>absurd h h'⟩
 ·obtain⟨j,rfl⟩:∃j:Nat,i=(j:Int):=⟨i.toNat,by omega⟩
  have hb:=ao0 d hd3;exact⟨_,_,_,TC (t.map RQ.q) d j 62 (by omega) (fun a ha=>(hK a ha).mono (by omega)) F (by omega) (by omega),fun h'=>absurd h' h,fun _=>⟨j,rfl,rfl,rfl⟩⟩
theorem am1{t c:List RQ}{d:Nat}{x:Rat}(hk:∀a∈t,Fit 40 a.q)(hc:∀a∈c,Fit 40 a.q)(hx:Fit 40 x)(hcs:c.length<1099511627776)(hd3:d<=3)(F:EZ (t.map RQ.q) d):∃(a2 b2:aC)(e2:Int)(l1 l2:aC)(e3:Int),
  aU prog 35 [.one (sQ (t.map RQ.q)),.one (.int .i64 (d:Int)),.one (sQ (c.map RQ.q))] (.ret [.agg [a2,b2],.one (.int .i64 e2)]) /\
  aU prog 36 [.one (sQ (t.map RQ.q)),.one (.int .i64 (d:Int)),.one (sQ (c.map RQ.q)),qT x] (.ret [.one l1,.one l2,.one (.int .i64 e3)]) /\
  (c.length≠t.length-d-1->a2=sQ []/\b2=eQ []/\e2=2/\l1=sQ []/\l2=sQ []/\e3=2) /\
  (c.length=t.length-d-1->[a2,b2]=aw6 (t.map RQ.q) (c.map RQ.q) d/\e2=0/\e3=wk ((t.map RQ.q).getD d 0) ((t.map RQ.q).getD ((t.map RQ.q).length-1-d) 0) x (mulN (t.map RQ.q) x (t.map RQ.q).length) d t.length /\
   (e3≠0->l1=sQ []/\l2=sQ [])/\(e3=0->∃k,Add (t.map RQ.q) x k d/\l1=sQ (fx (t.map RQ.q) x k)/\l2=sQ (nU (t.map RQ.q) (c.map RQ.q) x d k (mulN (t.map RQ.q) x (t.map RQ.q).length) (t.length-d)))):=by
 have hs:=F.hs;have h2:=F.h2
 have hK:∀a∈t.map RQ.q,Fit 40 a:=fun a ha=>by
  obtain⟨b,hb,rfl⟩:=dH.1 ha;exact hk b hb
 have hC:∀a∈c.map RQ.q,Fit 40 a:=fun a ha=>by
  obtain⟨b,hb,rfl⟩:=dH.1 ha;exact hc b hb
 have hK6:∀a∈t.map RQ.q,Fit 62 a:=fun a ha=>(hK a ha).mono (by omega);have hC6:∀a∈c.map RQ.q,Fit 62 a:=fun a ha=>(hC a ha).mono (by omega);have hl:(t.map RQ.q).length=t.length:=aI _;have hl2:(c.map RQ.q).length=c.length:=aI _;by_cases hcl:c.length=t.length-d-1
 rotate_left
 ·have hno:¬(im (t.map RQ.q) (d:Int)/\((c.map RQ.q).length:Int)=((t.map RQ.q).length:Int)-(d:Int)-1):=fun h=>hcl (by have:=h.2;rw[hl,hl2]at this;omega);exact⟨_,_,_,_,_,_,wQ _ _ (d:Int) 40 (by omega) (by omega) hK (by omega) (by omega) (by omega) hno,Ck _ _ x (d:Int) 40 (by omega) (by omega) hK (by omega) (by omega) (by omega) hno,fun _=>⟨rfl,rfl,rfl,rfl,rfl,rfl⟩,fun h=>absurd h hcl⟩
 have hb:=ao0 d hd3;have hcl2:(c.map RQ.q).length=(t.map RQ.q).length-d-1:=by rw[hl,hl2];exact hcl
 have dC:=Wz (t.map RQ.q) (c.map RQ.q) d 62 hK6 hC6 F hcl2;by_cases hin:(t.map RQ.q).getD d 0<x/\x<(t.map RQ.q).getD ((t.map RQ.q).length-1-d) 0
 rotate_left
 ·refine⟨_,_,_,_,_,_,dC,Xe _ _ x d 40 hK hx F hcl2 hin,fun h=>absurd hcl h,fun _=>⟨rfl,rfl,?_,fun _=>⟨rfl,rfl⟩,fun h=>by cases h⟩⟩;rw[wk,aK ((Decidable.not_and_iff_or_not.1 hin).imp fu.1 fu.1)]
 obtain⟨hx1,hx2⟩:=hin;have hin:¬(x<=(t.map RQ.q).getD d 0\/(t.map RQ.q).getD ((t.map RQ.q).length-1-d) 0<=x):=fun h=>h.elim (fun h=>absurd hx1 (fu.2 h)) (fun h=>absurd hx2 (fu.2 h));obtain⟨k,hat,A⟩:=bz4 F hx1 hx2;have hAk:=A.hk;by_cases hm:d<mulN (t.map RQ.q) x (t.map RQ.q).length\/(t.map RQ.q).length=60
 ·refine⟨_,_,_,_,_,_,dC,Yb _ _ x d k 40 hK hx F hcl2 hx1 hx2 hat hm,fun h=>absurd hcl h,fun _=>⟨rfl,rfl,?_,fun _=>⟨rfl,rfl⟩,fun h=>by cases h⟩⟩;rw[wk,aG hin,aK (by rwa[hl]at hm|-)]
 ·have dI:=LH (t.map RQ.q) (c.map RQ.q) x d k 62 (by omega) (by omega) hK6 hC6 (hx.mono (by omega)) F (fun h=>hm (.inr h)) hcl2 (zd.2 hx1) (iD.2 hx2) hat hAk A.hd (kD.1 fun h=>hm (.inl h));refine⟨_,_,_,_,_,_,dC,dI,fun h=>absurd hcl h,fun _=>⟨rfl,rfl,?_,fun h=>absurd rfl h,fun _=>⟨k,A,rfl,?_⟩⟩⟩
  ·rw[wk,aG hin,aG (by rwa[hl]at hm|-)]
  ·rw[show(c.map RQ.q).length+1=t.length-d by omega]
set_option maxRecDepth 100000 in
set_option maxHeartbeats 1000000 in
theorem Eg(K:List de)(z i:Int)(C:List de)(X:de)(hK:∀a∈K,a.In)(hC:∀a∈C,a.In)(hX:X.In)(hs:K.length<140737488355328)(qj:C.length<140737488355328)(hz:-9223372036854775808<=z/\z<9223372036854775808)(hi:-9223372036854775808<=i/\i<9223372036854775808) :
  aU prog 4 [.one (sN K),.one (.int .i64 z),.one (.int .i64 i),.one (sN C),nT X] (.ret [.one (.bool true)]):=by
 refine⟨bC (by kernel_rfl),fun M w vs hM hv=>?_⟩
 match vs,hv with
 | [v0,v1,v2,v3,v4],hv=>
 refine lU func4 rfl ?_;simp only[ntmps4,cw,an,bo,Nat.reduceAdd,Nat.reduceSub,dx,dk,du,di,List.nil_append,List.cons_append];refine Yw (n:=0) (N:=296) (ins:=[(0,.v none),(1,.v none),(2,.v none),(3,.v none),(4,.v (some 3))]) (xs:=[.v (.one (sN K)),.v (.one (.int .i64 z)),.v (.one (.int .i64 i)),.v (.one (sN C)),.v (nT X)]) fo ⟨rfl,rfl,rfl,rfl,rfl,trivial⟩ (bW7 K C z i X) (by kernel_rfl) hM rfl rfl hv ?_ (by intro c v a' w' h;cases h);intro e a1 w1 rs us hrs hex hb1 hsz1 hdf1 hr1 hrep1;cases hrs;cases e with
 | exit id=>cases hex
 | ret=>cases hex
 | normal=>
 have huse:=bG hr1;subst huse;have J1:LS M w [(0,.one (sN K)),(1,.one (.int .i64 z)),(2,.one (.int .i64 i)),(3,.one (sN C)),(9,.one (.aw (nC X)))] a1 w1:=⟨hsz1,hdf1,hb1,bH hM hb1,zY [0,1,2,3,9] _ hrep1⟩
 clear hr1 hex hv hrep1 hsz1 hdf1;show(Code.seq (Code.seq (cB [1,0,0]) (.cond (.tmp 62) (.seq (cB [1,0,1,0,0]) .ret) .skip)) (cB [1,1])).wp prog (Q0 M w) _ _;refine bB (bB (J1.pc 5 [0,1,3,4] (ch3 K C z X hs qj) ⟨rfl,rfl,rfl,rfl,trivial⟩ rfl (by kernel_rfl) rfl ?_));intro a2 w2 J2;refine qK (t:=!kV K z C X) (J2.bool 5 rfl) ?_;by_cases hok:kV K z C X=true
 rotate_left
 ·rw[Bool.not_eq_true]at hok;rw[hok];show(Code.seq (cB [1,0,1,0,0]) .ret).wp prog _ _ _;refine bB (J2.pc 5 [] cf0 trivial rfl (by kernel_rfl) rfl ?_);intro a3 w3 J3;exact lJ (J3.ret 5 rfl)
 rw[hok];refine wh ?_;simp only[kV,bR,wR,Bool.and_eq_false_iff,zW]at hok;obtain⟨g1,g2,g3,g4,g5⟩:=hok;have lK:=TE g1;have lC:=TE g4;have ht:∀a∈kX K,Fit 40 a.q:=AI (by rw[oq];exact xE g1);have hc:∀a∈kX C,Fit 40 a.q:=AI (by rw[oq];exact xE g4);have hx:Fit 40 X.v:=xE g5 _ dV;have htl:(kX K).length=K.length:=aI _;have hcl:(kX C).length=C.length:=aI _
 have key:∀(b1 b2 c1 c2 l1 l2:aC)(e1 e2 e3:Int),
   aU prog 34 [.one (sQ ((kX K).map RQ.q)),.one (.int .i64 z),.one (.int .i64 i)] (.ret [.agg [b1,b2],.one (.int .i64 e1)]) ->
   aU prog 35 [.one (sQ ((kX K).map RQ.q)),.one (.int .i64 z),.one (sQ ((kX C).map RQ.q))] (.ret [.agg [c1,c2],.one (.int .i64 e2)]) ->
   aU prog 36 [.one (sQ ((kX K).map RQ.q)),.one (.int .i64 z),.one (sQ ((kX C).map RQ.q)),qT X.v] (.ret [.one l1,.one l2,.one (.int .i64 e3)]) ->
   (∀a' W',LS M w (fsD z i (kX K) (kX C) X.v b1 b2 e1 c1 c2 e2 l1 l2 e3) a' W'->(cB [1,1,1,1,1,1,1,1]).wp prog (Q0 M w) a' W')->(cB [1,1]).wp prog (Q0 M w) a2 w2:=by
  intro b1 b2 c1 c2 l1 l2 e1 e2 e3 dB dC dI hQ;rw[oq]at dB dC dI;rw[oq]at dC dI;refine Yw (n:=5) (N:=296) (ins:=[(0,.v none),(1,.v none),(2,.v none),(3,.v none),(9,.ref 3)]) (xs:=[.v (.one (sN K)),.v (.one (.int .i64 z)),.v (.one (.int .i64 i)),.v (.one (sN C)),.ref (nC X)]) fo ⟨rfl,rfl,rfl,rfl,rfl,trivial⟩ (bS7 K C z i X hK hC hX b1 b2 c1 c2 l1 l2 e1 e2 e3 dB dC dI) rfl J2.nS J2.sz J2.df ⟨J2.get 0 rfl,J2.get 1 rfl,J2.get 2 rfl,J2.get 3 rfl,J2.get 4 rfl,trivial⟩ ?_ (by intro c v a' w' h;cases h);intro e a3 w3 rs us hrs hex hb3 hsz3 hdf3 hr3 hrep3;cases hrs;cases e with
  | exit id=>cases hex
  | ret=>cases hex
  | normal=>
  have huse:=bG hr3;subst huse;refine hQ a3 w3 ⟨hsz3,hdf3,J2.bel.trans (hb3.mono J2.bel.size),bH J2.nS hb3,?_⟩;have:=zY [1,2,11,12,13,14,16,17,18,19,20,21,22,23] _ hrep3;rw[fsD,oq,oq];exact this
 clear J2 J1;generalize kX K=t at ht htl key;generalize kX C=c at hc hcl key
 have hT:∀a∈t.map RQ.q,Fit 40 a:=fun a ha=>by
  obtain⟨b,hb,rfl⟩:=dH.1 ha;exact ht b hb
 have hl:(t.map RQ.q).length=t.length:=aI _;have hl2:(c.map RQ.q).length=c.length:=aI _;by_cases hF:im (t.map RQ.q) z
 rotate_left
 ·have dB:=AP (t.map RQ.q) z i 40 (by omega) (by omega) hT (by omega) hz fun h=>hF h.1;rw[aG hF]at dB;exact key _ _ _ _ _ _ _ _ _ dB (wQ (t.map RQ.q) (c.map RQ.q) z 40 (by omega) (by omega) hT (by omega) (by omega) hz fun h=>hF h.1) (Ck (t.map RQ.q) (c.map RQ.q) X.v z 40 (by omega) (by omega) hT (by omega) (by omega) hz fun h=>hF h.1) fun a' W' J=>as1 J ht hz hF
 obtain⟨d,rfl⟩:∃d:Nat,z=(d:Int):=⟨z.toNat,by have:=hF.1;omega⟩
 have F:EZ (t.map RQ.q) d:=hF.of;have hFs:=F.hs;have hFd:=F.hd;have hF2:=F.h2;have hd3:d<=3:=by omega
 obtain⟨b1,b2,e1,dB,hb1,hb2⟩:=au6 (i:=i) ht hd3 F hi;obtain⟨c1,c2,e2,l1,l2,e3,dC,dI,hc1,hc2⟩:=am1 (c:=c) (x:=X.v) ht hc hx (by omega) hd3 F;refine key _ _ _ _ _ _ _ _ _ dB dC dI fun a' W' J=>bN7 ht hd3 F hb1 hb2 J fun J'=>bG0 (by omega) (by omega) (by omega) J' hc1 fun hcl {_ _} J''=>?_;obtain⟨hab,rfl,he,hl3,hg⟩:=hc2 hcl;obtain⟨rfl,hab2⟩:=List.cons.inj hab;obtain⟨rfl,_⟩:=List.cons.inj hab2;exact aW8 ht hc hx hd3 F hcl he hl3 hg J''
end Go.Sy
