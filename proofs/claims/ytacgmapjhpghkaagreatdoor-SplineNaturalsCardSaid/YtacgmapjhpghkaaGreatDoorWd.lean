/- Part. -/
import Derived.Test.YtacgmapjhpghkaaGreatDoorWc
set_option linter.all false
set_option maxHeartbeats 2000000
set_option maxRecDepth 100000
namespace Go.Sy
open Go Go.Proofs Go.RowKit Tryz Ord
attribute [local go_sem] Oper.semAt_some
def dY{P:j5}{ops:j7}{Q:iN}{i:Nat}{o:Oper}{K:j4}{a:Act}{w:World}(ho:ops[i]?=some o)(hg:o.guard=none)(h:o.wp P a w K Q):wpOp P ops Q i K a w:=by
 unfold wpOp;rw[ho];simp only[Region.wanted,hg,bg];exact .inl h
abbrev Lx(L:c9)(i:Nat):Nat->Bool:=fun j=>L j || j==i
def oQ{a:Act}{d d':Nat}{v:Value}(h:d<a.tmps.size):(a.put (some d) v).tmps.getD d' undef=if d'=d then v else a.tmps.getD d' undef:=by
 show(a.tmps.setIfInBounds d v).getD d' undef=_;split
 .rename_i e;rw[e,jq,Array.getElem?_setIfInBounds_self_of_lt h];rfl
 .rename_i e;rw[jq,ap9 (fun h=>e h.symm),<-jq]
def nP{L:c9}{i j:Nat}(h:Lx L i j=true)(hne:j≠i:=by omega):L j=true:=by
 have e:(j==i)=false:=by simpa using hne
 simpa[Lx,e]using h
def qt{o:Oper}{c:Call}{x:j6}{f:FuncId}{cvs:j0}{a:Act}{w:World}{K:j4}{Q:iN}{R:Ending->World->Prop}(ho:o.op=.call c)(hc:c.callee=.value x)(hx:a.eval x=.func (.func f) #[] cvs.toArray)(he:∀ps w,(callFunc f ps).run prog w=.ok (.enter f ps) w)
  (h:Calls prog f (c.args.toList.map a.eval++cvs).toArray w R) (hR:∀e w',R e w'->∃v,e=.returned v/\K (a.put o.dst v) w'):o.wp prog a w K Q:=by
 unfold Oper.wp;rw[tl ho hc hx he,wN];refine h.mono ?_;intro e w' hr;obtain⟨v,rfl,hk⟩:=hR e w' hr;exact hk
def co4{u v:Value}(hu:u.oneCell'=true)(hv:v.oneCell'=true)(w:World):(Instr.buildSlice 197 2 #[(0,u),(1,v)]).run prog w=.ok (.slice (some ⟨w.heap.size,0,none⟩) 2 2) (w.alloc (.cells #[u,v] 28)):=by
 obtain⟨ie,hu',hie,hies,hieb⟩:=br tw;obtain⟨i,zv,hi,hz,hzc,_,hzs⟩:=ed (show jm prog 28=some [.slice none 0 0] by kernel_rfl);rw[hie]at hi;simp only[aZ]at hi;subst hi;have c1:∀{v:Value},v.oneCell'=true->v.cells=#[v]:=fun {v} h=>by cases v<;>simp_all[Value.oneCell',Value.cells]
 exact RT (P:=prog) w 197 28 2 #[(0,u),(1,v)] #[u,v] ie zv hu' hie hz (by rw[hies];decide) (by rw[hies];decide) (by
  rw[hies,hzc];simp[Instr.fill,c1 hu,c1 hv,Array.range];rfl)
noncomputable def eP:Array Oper:=match f130.body with
 | some (.seq _ (.seq _ (.seq _ (.seq (.region _ ops _) _))))=>ops
 | _=>#[]
def pz:eP.size=17:=rfl
def jY{i:Nat}{o o':Oper}(h:eP[i]?=some o)(h':eP[i]?=some o'):o=o':=cI (h.symm.trans h')
def cc2:∀i o,eP[i]?=some o->∀j∈bQ o,j<i:=by
 intro i o ho;have hi:i<17:=by rw[<-pz];exact(cJ.1 ho).1
 have h:(List.range 17).all (fun i=>match eP[i]? with | some o=>(bQ o).all (fun j=>decide (j<i)) | none=>true)=true:=aS
 have h1:=fS.1 h i (fO.2 hi);rw[ho]at h1;intro j hj;exact wU (fS.1 h1 j hj)
def nA(x y:c4):List (List Rat):=(List.range ((dX x).length-1)).map (fun j=>kW (dX x) (cD x y) x.length (j+1))++[rL x.length 0,rL x.length (x.length-1)]
def az5(x y:c4):(nA x y).map rQ=lI (dX x) (cD x y) x.length++[rQ (rL x.length 0),rQ (rL x.length (x.length-1))]:=by
 rw[nA,cG,ey];rfl
structure NB(M:c6)(W1:World)(x y:c4)(A B:Nat)(sol:c4)(v0 v1:Value)(c5:Nat):Prop where
 fin:bf M W1
 x0:(aC.slice 3 (rQ x)).rep M W1 v0
 y0:(aC.slice 3 (rQ y)).rep M W1 v1
 lt:c5<W1.heap.size
 off:¬M c5
 box:W1.heap[c5]?=some (.cells #[.int .i64 (x.length:Int)] 3 (0,0))
 hA1:1<=A
 hA:A<=10000000
 hx:∀a∈x,Fit A a
 hy:∀a∈y,Fit A a
 hs:x.length<549755813000
 h2:2<=x.length
 hxy:y.length=x.length
 Zy:vL x.length (x.length+1) B (nA x y)
 hB:1<=B
 hg:∀k,k<=x.length->gA B k<=1000000000
 sol:fQ (nA x y)=some sol
abbrev clI(x y:c4):aC:=.gv 203 [.aw [sQ (dX x)],.aw [sQ x],.aw [sQ (cD x y)]]
abbrev Mp(M:c6)(b0 b1:Nat)(k:Nat):Prop:=M k\/k∈[b0,b1]
abbrev vN(c5:Nat):Value:=.func (.func 195) #[] #[.pointer (some ⟨c5,0,none⟩)]
def aY4(v0 v1:Value)(n c5:Nat):Nat->Option (Nat×Value)
 | 0=>some (13,v0) | 1=>some (14,v1) | 3=>some (16,vN c5) | 5=>some (18,vN c5) | 6=>some (19,.int .i64 (n:Int)) | 7=>some (20,.int .i64 ((n:Int)-1)) | _=>none
structure NC(M:c6)(n0:Nat)(x y sol:c4)(L:c9)(W:World)(s:Nat->Value):Prop where
 p2:L 2=true->L 4=false->(clI x y).rep M W (s 15)
 p4:L 4=true->L 8=false->∃b0,n0<=b0/\sq 46 3 (rQ (rL x.length 0)) M W (s 17) b0/\(clI x y).rep (Mb M b0) W (s 15)/\bf (Mb M b0) W
 p8:L 8=true->L 9=false->∃b0 b1,n0<=b0/\n0<=b1/\b0≠b1/\¬M b0/\¬M b1/\dH 46 3 (rQ (rL x.length 0)) (Mp M b0 b1) W (s 17) b0/\dH 46 3 (rQ (rL x.length (x.length-1))) (Mp M b0 b1) W (s 21) b1/\(clI x y).rep (Mp M b0 b1) W (s 15)/\bf (Mp M b0 b1) W
 p9:L 9=true->L 10=false->∃b0 b1,n0<=b0/\n0<=b1/\b0≠b1/\¬M b0/\¬M b1/\dH 46 3 (rQ (rL x.length 0)) (Mp M b0 b1) W (s 17) b0/\dH 46 3 (rQ (rL x.length (x.length-1))) (Mp M b0 b1) W (s 21) b1/\(clI x y).rep (Mp M b0 b1) W (s 15)/\bf (Mp M b0 b1) W/\(aC.slice 1 ([s 17,s 21].map xV)).rep (Mp M b0 b1) W (s 22)
 p10:L 10=true->L 11=false->∃b0 b1,n0<=b0/\n0<=b1/\¬M b0/\¬M b1/\b0<W.heap.size/\b1<W.heap.size/\bf (Mp M b0 b1) W/\∃lb:List Value,s 23=.func (.func 202) #[] lb.toArray/\Gen prog 46 3 202 lb.toArray ((nA x y).map rQ) (fun k=>k∈[b0,b1]) (fun k=>k∈[b0,b1]) M W
 p11:L 11=true->∃u,s 24=pack [u,.bool true]/\(aC.slice 3 (rQ sol)).rep M W u/\(L 12=true->s 12=s 24)/\(L 13=true->s 25=u)/\(L 15=true->s 7=u)
structure NI(M:c6)(W1:World)(x y sol:c4)(v0 v1 v4:Value)(c5:Nat)(L:c9)(a:Act)(W:World):Prop where
 sz:a.tmps.size=31
 df:a.defers=[]
 bel:Below W1.heap.size W1 W
 t0:a.tmps.getD 0 undef=v0
 t1:a.tmps.getD 1 undef=v1
 t4:a.tmps.getD 4 undef=v4
 t5:a.tmps.getD 5 undef=.pointer (some ⟨c5,0,none⟩)
 t6:a.tmps.getD 6 undef=vN c5
 pu:∀i d v,aY4 v0 v1 x.length c5 i=some (d,v)->L i=true->a.tmps.getD d undef=v
 nc:NC M W1.heap.size x y sol L W fun t=>a.tmps.getD t undef
structure ND(L:c9):Prop where
 d4:L 4=true->L 2=true
 d8:L 8=true->L 4=true
 d9:L 9=true->L 8=true
 d10:L 10=true->L 9=true
 d11:L 11=true->L 10=true
 d12:L 12=true->L 11=true
 d13:L 13=true->L 12=true
 d15:L 15=true->L 13=true
def cy1{L:c9}(hcl:∀j o',eP[j]?=some o'->L j=true->∀x∈bQ o',L x=true):ND L:=
 ⟨fun h=>hcl 4 _ rfl h 2 bY,fun h=>hcl 8 _ rfl h 4 bY,fun h=>hcl 9 _ rfl h 8 bY,fun h=>hcl 10 _ rfl h 9 bY,fun h=>hcl 11 _ rfl h 10 bY,fun h=>hcl 12 _ rfl h 11 bY,fun h=>hcl 13 _ rfl h 12 bY,fun h=>hcl 15 _ rfl h 13 bY⟩
section
variable{M:c6}{W1 W W':World}{x y sol:c4}{v0 v1 v4:Value}{c5:Nat}{L:c9}{a:Act}{i d:Nat}{v:Value}
def aQ6{n:Nat}(h:aY4 v0 v1 n c5 i=some (d,v)):i<8/\i≠2/\i≠4/\13<=d/\d<=20/\d≠15/\d≠17:=by
 match i,h with
 | 0,h=>cases h;decide
 | 1,h=>cases h;decide
 | 3,h=>cases h;decide
 | 5,h=>cases h;decide
 | 6,h=>cases h;decide
 | 7,h=>cases h;decide
def aW4{n i':Nat}{v':Value}(h:aY4 v0 v1 n c5 i=some (d,v))(h':aY4 v0 v1 n c5 i'=some (d,v')):i=i':=by
 match i,i',h,h' with
 | 0,0,h,h'=>rfl
 | 1,1,h,h'=>rfl
 | 3,3,h,h'=>rfl
 | 5,5,h,h'=>rfl
 | 6,6,h,h'=>rfl
 | 7,7,h,h'=>rfl
 | 0,1,h,h'=>cases h;cases h'
 | 0,3,h,h'=>cases h;cases h'
 | 0,5,h,h'=>cases h;cases h'
 | 0,6,h,h'=>cases h;cases h'
 | 0,7,h,h'=>cases h;cases h'
 | 1,0,h,h'=>cases h;cases h'
 | 1,3,h,h'=>cases h;cases h'
 | 1,5,h,h'=>cases h;cases h'
 | 1,6,h,h'=>cases h;cases h'
 | 1,7,h,h'=>cases h;cases h'
 | 3,0,h,h'=>cases h;cases h'
 | 3,1,h,h'=>cases h;cases h'
 | 3,5,h,h'=>cases h;cases h'
 | 3,6,h,h'=>cases h;cases h'
 | 3,7,h,h'=>cases h;cases h'
 | 5,0,h,h'=>cases h;cases h'
 | 5,1,h,h'=>cases h;cases h'
 | 5,3,h,h'=>cases h;cases h'
 | 5,6,h,h'=>cases h;cases h'
 | 5,7,h,h'=>cases h;cases h'
 | 6,0,h,h'=>cases h;cases h'
 | 6,1,h,h'=>cases h;cases h'
 | 6,3,h,h'=>cases h;cases h'
 | 6,5,h,h'=>cases h;cases h'
 | 6,7,h,h'=>cases h;cases h'
 | 7,0,h,h'=>cases h;cases h'
 | 7,1,h,h'=>cases h;cases h'
 | 7,3,h,h'=>cases h;cases h'
 | 7,5,h,h'=>cases h;cases h'
 | 7,6,h,h'=>cases h;cases h'
def NI.pure(I:NI M W1 x y sol v0 v1 v4 c5 L a W)(h:aY4 v0 v1 x.length c5 i=some (d,v)):NI M W1 x y sol v0 v1 v4 c5 (Lx L i) (a.put (some d) v) W:=by
 obtain⟨h1,h2,h3,h4,h5,h6,h7⟩:=aQ6 h;have hg:∀d',(a.put (some d) v).tmps.getD d' undef=if d'=d then v else a.tmps.getD d' undef:=fun d'=>oQ (by rw[I.sz];omega)
 have hs:∀d',d'≠d->(a.put (some d) v).tmps.getD d' undef=a.tmps.getD d' undef:=fun d' hne=>by rw[hg,aG hne]
 have hL:∀j,j≠i->Lx L i j=L j:=fun j hj=>by
  have e:(j==i)=false:=by simpa using hj
  simp[Lx,e]
 refine⟨by show(a.tmps.setIfInBounds d v).size=31;rw[ue];exact I.sz,I.df,I.bel,(hs 0 O).trans I.t0,(hs 1 O).trans I.t1,(hs 4 O).trans I.t4,(hs 5 O).trans I.t5,(hs 6 O).trans I.t6,fun j d' v' hj hLj=>?_,?_⟩
 .by_cases hji:j=i
  .subst hji;rw[h]at hj;cases hj;rw[hg,aF rfl]
  .rw[hs d' fun e=>hji (by subst e;exact aW4 hj h)];exact I.pu j d' v' hj (nP hLj hji)
 .have nc:=I.nc;refine⟨?_,?_,?_,?_,?_,?_⟩
  .rw[hL 2 O,hL 4 O,hs 15 O];exact nc.p2
  .rw[hL 8 O,hL 4 O,hs 15 O,hs 17 O];exact nc.p4
  .rw[hL 8 O,hL 9 O,hs 15 O,hs 17 O,hs 21 O];exact nc.p8
  .rw[hL 9 O,hL 10 O,hs 15 O,hs 17 O,hs 21 O,hs 22 O];exact nc.p9
  .rw[hL 10 O,hL 11 O,hs 23 O];exact nc.p10
  .rw[hL 11 O,hL 12 O,hL 13 O,hL 15 O,hs 24 O,hs 12 O,hs 25 O,hs 7 O];exact nc.p11
def NI.chain(I:NI M W1 x y sol v0 v1 v4 c5 L a W)(hd:d<31)(hn:d=12\/d=15\/d=17\/d=21\/d=22\/d=23\/d=24\/d=25\/d=26\/d=7\/d=8)(hi:i=2\/i=4\/8<=i)(hb:Below W1.heap.size W1 W')
  (hc:NC M W1.heap.size x y sol (Lx L i) W' fun t=>if t=d then v else a.tmps.getD t undef):NI M W1 x y sol v0 v1 v4 c5 (Lx L i) (a.put (some d) v) W':=by
 have hg:∀d',(a.put (some d) v).tmps.getD d' undef=if d'=d then v else a.tmps.getD d' undef:=fun d'=>oQ (by rw[I.sz];omega)
 have hs:∀d',d'≠d->(a.put (some d) v).tmps.getD d' undef=a.tmps.getD d' undef:=fun d' hne=>by rw[hg,aG hne]
 refine⟨by show(a.tmps.setIfInBounds d v).size=31;rw[ue];exact I.sz,I.df,hb,(hs 0 O).trans I.t0,(hs 1 O).trans I.t1,(hs 4 O).trans I.t4,(hs 5 O).trans I.t5,(hs 6 O).trans I.t6,fun j d' v' hj hLj=>?_,?_⟩
 .obtain⟨h1,h2,h3,h4,h5,h6,h7⟩:=aQ6 hj;rw[hs d' O];exact I.pu j d' v' hj (nP hLj)
 .rw[show(fun t=>(a.put (some d) v).tmps.getD t undef)=fun t=>if t=d then v else a.tmps.getD t undef from funext hg];exact hc
end
end Go.Sy
namespace Go.Sy
open Go Go.Proofs Go.RowKit Tryz Ord
attribute [local go_sem] Oper.semAt_some
section
variable{M:c6}{W1 W W':World}{x y sol:c4}{v0 v1 v4:Value}{c5 A B:Nat}{L:c9}{a:Act}{i d:Nat}{v:Value}{n0:Nat}{s:Nat->Value}
def NC.late(nd:ND L)(h11:L 11=true)(hp:∃u,s 24=pack [u,.bool true]/\(aC.slice 3 (rQ sol)).rep M W u/\(Lx L i 12=true->s 12=s 24)/\(Lx L i 13=true->s 25=u)/\(Lx L i 15=true->s 7=u)):NC M n0 x y sol (Lx L i) W s:=by
 have h10:=nd.d11 h11;have h9:=nd.d10 h10;have h8:=nd.d9 h9;have h4:=nd.d8 h8;have hl:∀j,L j=true->Lx L i j=false->False:=fun j h e=>by simp[Lx,h]at e
 exact⟨fun _ e=>(hl _ h4 e).elim,fun _ e=>(hl _ h8 e).elim,fun _ e=>(hl _ h9 e).elim,fun _ e=>(hl _ h10 e).elim,fun _ e=>(hl _ h11 e).elim,fun _=>hp⟩
def qF{M:c6}{W W':World}{b:Nat}(hb:Below W.heap.size W W')(hn:W.heap.size<=b):av M W (Mb M b) W':=fun k o hk ho _=>by
 have hlt:=(cJ.1 ho).1;exact⟨fun h=>h.elim hk O,(hb.block k hlt).trans ho⟩
def sW{M:c6}{W W':World}{b:Nat}(hF:bf M W)(hb:Below W.heap.size W W')(hn:W.heap.size<=b)(hlt:b<W'.heap.size):bf (Mb M b) W':=⟨fun k hk=>hk.elim (fun h=>cM (hF.1 k h) hb.size) (fun e=>by rw[e];exact hlt),hF.2.dJ (qF hb hn)⟩
def ay2{K:j4}{Q:iN}{o:Oper}{x:j6}{c:aC}(ho:o.op=.load 3 x)(hr:(aC.aw [c]).rep M W (a.eval x))(hK:∀v,c.rep M W v->K (a.put o.dst v) W):o.wp prog a W K Q:=by
 obtain⟨v,h,hv⟩:=bq (x:=x) (ty:=o.type) (c:=c) (show mF prog 3=some (false,1) by kernel_rfl) M W a.eval o ho rfl ⟨hr,trivial⟩;exact bF h (hK v hv)
def aZ1{K:j4}{Q:iN}{o:Oper}{x y:j6}{p q:Int}(ho:o.op=.binOp .sub 3 x y 3)(hx:a.eval x=.int .i64 p)(hy:a.eval y=.int .i64 q)(h1:-9223372036854775808<=p-q)(h2:p-q<9223372036854775808)(hK:K (a.put o.dst (.int .i64 (p-q))) W):o.wp prog a W K Q:=by
 obtain⟨v,h,hv⟩:=aI (T:=3) (U:=3) (x:=x) (y:=y) (ty:=o.type) h1 h2 (fun _=>False) W a.eval o ho rfl ⟨⟨hx,rfl⟩,⟨hy,rfl⟩,trivial⟩;obtain rfl:v=.int .i64 (p-q):=hv.1;exact bF h hK
def aT8(N:NB M W1 x y A B sol v0 v1 c5)(L:c9)(i:Nat)(o:Oper)(a:Act)(W:World)(ho:eP[i]?=some o)(hL:L i=false)(hdep:∀j∈bQ o,L j=true)(hcl:∀j o',eP[j]?=some o'->L j=true->∀x∈bQ o',L x=true)
  (I:NI M W1 x y sol v0 v1 v4 c5 L a W) (Q:iN):wpOp prog eP Q i (NI M W1 x y sol v0 v1 v4 c5 (Lx L i)) a W:=by
 have hi:i<17:=by rw[<-pz];exact(cJ.1 ho).1
 have FM:bf M W:=⟨fun b hb=>cM (N.fin.1 b hb) I.bel.size,N.fin.2.dJ (av.below I.bel)⟩
 have nd:=cy1 hcl;have hbox:W.heap[c5]?=some (.cells #[.int .i64 (x.length:Int)] 3 (0,0)):=(I.bel.block c5 N.lt).trans N.box;have hsW:=I.bel.size;have hx0:=aC.mono _ (av.below (M:=M) I.bel) N.x0;have hy0:=aC.mono _ (av.below (M:=M) I.bel) N.y0;have hlt5:=N.lt;have hA1:=N.hA1;have hA9:=N.hA;have hs9:=N.hs;have h29:=N.h2;have hxy9:=N.hxy
 have vac:∀{p:Prop}(j:Nat),(L j=true->L i=true)->j≠i->Lx L i j=true->p:=fun j h1 h2 h3=>by
  have:=h1 (nP h3 h2);rw[hL]at this;cases this
 match i,hi with
 | 0,_=>
   obtain rfl:=jY ho (rfl:eP[0]?=some _);refine dY ho rfl (bF rfl ?_);show NI M W1 x y sol v0 v1 v4 c5 (Lx L 0) (a.put (some 13) (a.tmps.getD 0 undef)) W;rw[I.t0];exact I.pure (i:=0) rfl
 | 1,_=>
   obtain rfl:=jY ho (rfl:eP[1]?=some _);refine dY ho rfl (bF rfl ?_);show NI M W1 x y sol v0 v1 v4 c5 (Lx L 1) (a.put (some 14) (a.tmps.getD 1 undef)) W;rw[I.t1];exact I.pure (i:=1) rfl
 | 3,_=>
   obtain rfl:=jY ho (rfl:eP[3]?=some _);refine dY ho rfl (bF rfl ?_);show NI M W1 x y sol v0 v1 v4 c5 (Lx L 3) (a.put (some 16) (a.tmps.getD 6 undef)) W;rw[I.t6];exact I.pure (i:=3) rfl
 | 5,_=>
   obtain rfl:=jY ho (rfl:eP[5]?=some _);refine dY ho rfl (bF rfl ?_);show NI M W1 x y sol v0 v1 v4 c5 (Lx L 5) (a.put (some 18) (a.tmps.getD 6 undef)) W;rw[I.t6];exact I.pure (i:=5) rfl
 | 6,_=>
   obtain rfl:=jY ho (rfl:eP[6]?=some _);refine dY ho rfl (ay2 (M:=M) (c:=.int .i64 (x.length:Int)) rfl (show(aC.aw [.int .i64 (x.length:Int)]).rep M W (a.tmps.getD 5 undef) by rw[I.t5];exact⟨c5,0,_,_,_,rfl,N.off,hbox,⟨rfl,rfl⟩,trivial⟩) fun v hv=>?_);obtain rfl:v=.int .i64 (x.length:Int):=hv.1;exact I.pure (i:=6) rfl
 | 7,_=>
   obtain rfl:=jY ho (rfl:eP[7]?=some _);have h19:=I.pu 6 19 _ rfl (hdep 6 bY);exact dY ho rfl (aZ1 (p:=(x.length:Int)) (q:=1) rfl h19 rfl O O (I.pure (i:=7) rfl))
 | 2,_=>
   obtain rfl:=jY ho (rfl:eP[2]?=some _);have h13:=I.pu 0 13 _ rfl (hdep 0 bY);have h14:=I.pu 1 14 _ rfl (hdep 1 bY);have dd:=CE x y A hA1 N.hx N.hy h29 hxy9;refine dY ho rfl (qt (cvs:=[]) rfl rfl rfl dd.1 (dd.2 M W [a.tmps.getD 13 undef,a.tmps.getD 14 undef] FM ⟨by rw[h13];exact hx0,by rw[h14];exact hy0,trivial⟩) ?_);rintro e w' ⟨hb,vs,rfl,hr⟩
   match vs,hr with
   | [v],hr=>
     refine⟨v,rfl,I.chain (i:=2) (d:=15) O O O (I.bel.trans (hb.mono hsW)) ⟨fun _ _=>?_,vac 4 nd.d4 O,vac 8 (fun h=>nd.d4 (nd.d8 h)) O,vac 9 (fun h=>nd.d4 (nd.d8 (nd.d9 h))) O,vac 10 (fun h=>nd.d4 (nd.d8 (nd.d9 (nd.d10 h)))) O,vac 11 (fun h=>nd.d4 (nd.d8 (nd.d9 (nd.d10 (nd.d11 h))))) O⟩⟩
     try dsimp only
     rw[aF rfl];exact hr.1
   | [],hr=>exact hr.elim
   | _::_::_,hr=>exact hr.2.elim
 | 4,_=>
   obtain rfl:=jY ho (rfl:eP[4]?=some _);have h16:=I.pu 3 16 _ rfl (hdep 3 bY);have p2:=I.nc.p2 (hdep 2 bY) hL;have dd:=xA x.length 0;refine dY ho rfl (qt (cvs:=[.pointer (some ⟨c5,0,none⟩)]) (f:=195) rfl rfl h16 dd.1 (dd.2 M W [.int .i64 ((0:Nat):Int),.pointer (some ⟨c5,0,none⟩)] FM ⟨⟨rfl,rfl⟩,⟨c5,0,_,_,_,rfl,N.off,hbox,⟨rfl,rfl⟩,trivial⟩,trivial⟩) ?_);rintro e w' ⟨hb,vs,rfl,hr⟩
   match vs,hr with
   | [v],hr=>
     obtain⟨b0,hbn,hrow⟩:=aC.jL.rowAt hr.1;refine⟨v,rfl,I.chain (i:=4) (d:=17) O O O (I.bel.trans (hb.mono hsW)) ⟨fun _ e=>by simp[Lx]at e,fun _ _=>⟨b0,O,?_,?_,sW FM hb hbn hrow.lt⟩,vac 8 nd.d8 O,vac 9 (fun h=>nd.d8 (nd.d9 h)) O,vac 10 (fun h=>nd.d8 (nd.d9 (nd.d10 h))) O,vac 11 (fun h=>nd.d8 (nd.d9 (nd.d10 (nd.d11 h)))) O⟩⟩
     .try dsimp only
      rw[aF rfl];exact hrow
     .try dsimp only
      rw[aG O];exact aC.mono _ (qF hb hbn) p2
   | [],hr=>exact hr.elim
   | _::_::_,hr=>exact hr.2.elim
 | 8,_=>
   obtain rfl:=jY ho (rfl:eP[8]?=some _);have h18:=I.pu 5 18 _ rfl (hdep 5 bY);have h20:=I.pu 7 20 _ rfl (hdep 7 bY);obtain⟨b0,hn0,hrow0,hcl0,hF0⟩:=I.nc.p4 (hdep 4 bY) hL;have dd:=xA x.length (x.length-1);have hc5:¬Mb M b0 c5:=fun h=>h.elim N.off O;refine dY ho rfl (qt (cvs:=[.pointer (some ⟨c5,0,none⟩)]) (f:=195) rfl rfl h18 dd.1 (dd.2 (Mb M b0) W [a.tmps.getD 20 undef,.pointer (some ⟨c5,0,none⟩)] hF0 ⟨⟨by rw[h20,show((x.length:Int)-1)=((x.length-1:Nat):Int) by omega],rfl⟩,⟨c5,0,_,_,_,rfl,hc5,hbox,⟨rfl,rfl⟩,trivial⟩,trivial⟩) ?_);rintro e w' ⟨hb,vs,rfl,hr⟩
   match vs,hr with
   | [v],hr=>
     obtain⟨b1,hbn,hrow⟩:=aC.jL.rowAt hr.1;have hlt0:=hrow0.lt
     have hMp:∀k,Mp M b0 b1 k->Mb (Mb M b0) b1 k:=fun k h=>h.elim (fun h=>.inl (.inl h)) fun h=>by
      rcases cp.1 h with e | h
      .exact .inl (.inr e)
      .exact .inr (da.1 h)
     have hkp:av (Mb M b0) W (Mp M b0 b1) w':=fun k o hk ho hc=>by
      obtain⟨h1,h2⟩:=qF (M:=Mb M b0) hb hbn k o hk ho hc;exact⟨fun h=>h1 (hMp k h),h2⟩
     refine⟨v,rfl,I.chain (i:=8) (d:=21) O O O (I.bel.trans (hb.mono hsW)) ⟨fun h _=>?_,fun _ e=>by simp[Lx]at e,fun _ _=>⟨b0,b1,hn0,O,O,hrow0.off,fun h=>hrow.off (.inl h),?_,?_,?_,fX (sW hF0 hb hbn hrow.lt) hMp⟩,vac 9 nd.d9 O,vac 10 (fun h=>nd.d9 (nd.d10 h)) O,vac 11 (fun h=>nd.d9 (nd.d10 (nd.d11 h))) O⟩⟩
     .rename_i e;have:=hdep 4 bY;simp[Lx,this]at e
     .try dsimp only
      rw[aG O];exact(hrow0.in (N:=Mb M b0) (fun k h=>h)).mono hkp (hb.block b0 hlt0)
     .try dsimp only
      rw[aF rfl];exact hrow.in hMp
     .try dsimp only
      rw[aG O];exact aC.mono _ hkp hcl0
   | [],hr=>exact hr.elim
   | _::_::_,hr=>exact hr.2.elim
 | 9,_=>
   obtain rfl:=jY ho (rfl:eP[9]?=some _);have h8:=hdep 8 bY;obtain⟨b0,b1,hn0,hn1,hne,hM0,hM1,hr0,hr1,hcl1,hF1⟩:=I.nc.p8 h8 hL
   have hrun:(execOp a.eval (⟨some 22,.buildSlice 197 2 #[(0,.tmp 17),(1,.tmp 21)],197,"",#[],none⟩:Oper)).run prog W=.ok (.value (.slice (some ⟨W.heap.size,0,none⟩) 2 2)) (W.alloc (.cells #[a.tmps.getD 17 undef,a.tmps.getD 21 undef] 28)):=by
    simp only[execOp,List.map_toArray,fj,nV,gC];rw[show a.eval (.tmp 17)=a.tmps.getD 17 undef from rfl,show a.eval (.tmp 21)=a.tmps.getD 21 undef from rfl,co4 hr0.one hr1.one];simp only[js,gq]
   have hb:Below W.heap.size W (W.alloc (.cells #[a.tmps.getD 17 undef,a.tmps.getD 21 undef] 28)):=(cS _ W).alloc (ah _) _;have hnew:=cr W (.cells #[a.tmps.getD 17 undef,a.tmps.getD 21 undef] 28);refine dY ho rfl (bF hrun ?_);have hk:=av.below (M:=Mp M b0 b1) hb;refine I.chain (i:=9) (d:=22) O O O (I.bel.trans (hb.mono hsW)) ⟨fun h e=>?_,fun _ e=>?_,fun _ e=>by simp[Lx]at e,fun _ _=>⟨b0,b1,hn0,hn1,hne,hM0,hM1,?_,?_,?_,aW hF1 hb,?_⟩,vac 10 nd.d10 O,vac 11 (fun h=>nd.d10 (nd.d11 h)) O⟩
   .have:=nd.d8 h8;simp[Lx,this]at e
   .simp[Lx,h8]at e
   .try dsimp only
    rw[aG O];exact hr0.mono hk (hb.block b0 hr0.lt)
   .try dsimp only
    rw[aG O];exact hr1.mono hk (hb.block b1 hr1.lt)
   .try dsimp only
    rw[aG O];exact aC.mono _ hk hcl1
   .try dsimp only
    rw[aF rfl,aG O,aG O];refine⟨_,2,rfl,ah _,bY,.inr ⟨W.heap.size,0,_,_,_,rfl,fun h=>?_,hnew,fun j t ht=>?_⟩⟩
    .have:=hF1.1 _ h;omega
    .match j,ht with
     | 0,ht=>cases ht;exact⟨rfl,⟨rfl,hr0.one⟩,trivial⟩
     | 1,ht=>cases ht;exact⟨rfl,⟨rfl,hr1.one⟩,trivial⟩
     | j+2,ht=>simp at ht
 | 10,_=>
   obtain rfl:=jY ho (rfl:eP[10]?=some _);have h9:=hdep 9 bY;obtain⟨b0,b1,hn0,hn1,hne,hM0,hM1,hr0,hr1,hcl1,hF1,hsl⟩:=I.nc.p9 h9 hL;have dd:=SL (a.tmps.getD 15 undef) (a.tmps.getD 22 undef);refine dY ho rfl (qt (cvs:=[]) rfl rfl rfl dd.1 (dd.2 (Mp M b0 b1) W [a.tmps.getD 15 undef,a.tmps.getD 22 undef] hF1 ⟨⟨rfl,aC.one _ hcl1⟩,⟨rfl,aC.one _ hsl⟩,trivial⟩) ?_);rintro e w' ⟨hb,vs,rfl,hr⟩
   match vs,hr with
   | [v],hr=>
     obtain⟨lb,rfl,hlb⟩:=(show(aC.gv 202 [.aw [.exact (a.tmps.getD 15 undef)],.aw [.exact (a.tmps.getD 22 undef)]]).rep (Mp M b0 b1) w' v from hr.1)
     have hk:=av.below (M:=Mp M b0 b1) hb;have hcl2:=aC.mono _ hk hcl1;have hsl2:=aC.mono _ hk hsl;have hr0':=hr0.mono hk (hb.block b0 hr0.lt);have hr1':=hr1.mono hk (hb.block b1 hr1.lt);have hF2:=aW hF1 hb;obtain⟨lbI,he15,hlI⟩:=(show(clI x y).rep (Mp M b0 b1) w' (a.tmps.getD 15 undef)from hcl2)
     have hgen:Gen prog 46 3 202 lb.toArray ((nA x y).map rQ) (fun k=>k∈[b0,b1]) (fun k=>k∈[b0,b1]) M w':=by
      match lb,hlb,lbI,he15,hlI with
      | [p1,p2],hlb,[q1,q2,q3],he15,hlI=>
        have hwl:=jd x;have hsl9:=xS x y;rw[az5]
        refine Hj M w' 203 #[q1,q2,q3] (lI (dX x) (cD x y) x.length) _ _ (a.tmps.getD 17 undef) (a.tmps.getD 21 undef) b0 b1 hne
         (yr (dX x) x (cD x y) (4*A+2) (fun q hq=>((oG hA1 N.hx) q hq).mono O) (tP N.hx N.hy hA1) M (fun k=>k∈[b0,b1]) w' hF2 q1 q2 q3 hlI.1 hlI.2.1 hlI.2.2.1)
         (ay aS) hr0' hr1' hM0 hM1 hF2 p1 p2 (a.tmps.getD 22 undef) (by have:=hlb.1;rwa[he15]at this) hlb.2.1 hsl2
      | [],h,_,_,_=>exact h.elim
      | [_],h,_,_,_=>exact h.2.elim
      | _::_::_::_,h,_,_,_=>exact h.2.2.elim
      | _,_,[],_,h=>exact h.elim
      | _,_,[_],_,h=>exact h.2.elim
      | _,_,[_,_],_,h=>exact h.2.2.elim
      | _,_,_::_::_::_::_,_,h=>exact h.2.2.2.elim
     refine⟨_,rfl,I.chain (i:=10) (d:=23) O O O (I.bel.trans (hb.mono hsW)) ⟨fun h e=>?_,fun _ e=>?_,fun _ e=>?_,fun _ e=>by simp[Lx]at e,fun _ _=>⟨b0,b1,hn0,hn1,hM0,hM1,hr0'.lt,hr1'.lt,hF2,lb,?_,hgen⟩,vac 11 nd.d11 O⟩⟩
     .have:=nd.d8 (nd.d9 h9);simp[Lx,this]at e
     .have:=nd.d9 h9;simp[Lx,this]at e
     .simp[Lx,h9]at e
     .try dsimp only
      rw[aF rfl];rfl
   | [],hr=>exact hr.elim
   | _::_::_,hr=>exact hr.2.elim
 | 11,_=>
   obtain rfl:=jY ho (rfl:eP[11]?=some _);have h10:=hdep 10 bY;obtain⟨b0,b1,hn0,hn1,hM0,hM1,hl0,hl1,hF1,lb,h23,hgen⟩:=I.nc.p10 h10 hL
   have hS:∀k,k∈[b0,b1]->k<W.heap.size/\¬M k:=fun k h=>by
    rcases cp.1 h with e | h
    .rw[e];exact⟨hl0,hM0⟩
    .rw[da.1 h];exact⟨hl1,hM1⟩
   have hcall:=DM M (fun k=>k∈[b0,b1]) W hF1 hS 202 lb.toArray (nA x y) x.length (x.length+1) B N.Zy O O O N.hB N.hg O hgen (ay aS);have h23':a.eval (.tmp 23)=.func (.func 202) #[] lb.toArray:=h23;refine dY ho rfl (qt (cvs:=[]) (f:=136) rfl rfl rfl (ay aS) (R:=fun e W'=>Fr (fun k=>k∈[b0,b1]) W W'/\qn M W' (fQ (nA x y)) e) (by show Calls prog 136 #[a.eval (.tmp 23)] W _;rw[h23'];exact hcall) ?_);rintro e w' ⟨hfr,hse⟩;rw[N.sol]at hse;obtain⟨u,rfl,hu⟩:=hse
   have hb:Below W1.heap.size W1 w':=⟨hfr.os.trans I.bel.os,hfr.tape.trans I.bel.tape,hfr.output.trans I.bel.output,bG hsW hfr.size,fun k hk=>(hfr.old k O (fun h=>by
    rcases cp.1 h with e | h
    .omega
    .have:=da.1 h;omega)).trans (I.bel.block k hk)⟩
   refine⟨_,rfl,I.chain (i:=11) (d:=24) O O O hb ⟨fun h e=>?_,fun _ e=>?_,fun _ e=>?_,fun _ e=>?_,fun _ e=>by simp[Lx]at e,fun _=>⟨u,?_,hu,vac 12 nd.d12 O,vac 13 (fun h=>nd.d12 (nd.d13 h)) O,vac 15 (fun h=>nd.d12 (nd.d13 (nd.d15 h))) O⟩⟩⟩
   .have:=nd.d8 (nd.d9 (nd.d10 h10));simp[Lx,this]at e
   .have:=nd.d9 (nd.d10 h10);simp[Lx,this]at e
   .have:=nd.d10 h10;simp[Lx,this]at e
   .simp[Lx,h10]at e
   .try dsimp only
    rw[aF rfl]
 | 12,_=>
   obtain rfl:=jY ho (rfl:eP[12]?=some _);have h11:=hdep 11 bY;obtain⟨u,h24,hu,_,h13,h15⟩:=I.nc.p11 h11;refine dY ho rfl (bF rfl ?_);refine I.chain (i:=12) (d:=12) O O O I.bel (NC.late nd h11 ⟨u,?_,hu,fun _=>?_,fun h=>?_,fun h=>?_⟩)
   ·(try dsimp only);rw[aG O];exact h24
   ·(try dsimp only);rw[aF rfl,aG O];rfl
   .exact vac 13 nd.d13 O h
   .exact vac 15 (fun h=>nd.d13 (nd.d15 h)) O h
 | 13,_=>
   obtain rfl:=jY ho (rfl:eP[13]?=some _);have h12:=hdep 12 bY;have h11:=nd.d12 h12;obtain⟨u,h24,hu,h12',h13,h15⟩:=I.nc.p11 h11;have e12:a.eval (.tmp 12)=pack [u,.bool true]:=(h12' h12).trans h24
   have hrun:(execOp a.eval (⟨some 25,.extract (.tmp 12) 0,28,"",#[],none⟩:Oper)).run prog W=.ok (.value u) W:=by
    simp only[execOp];rw[e12];simp[pack,Instr.extract]
   refine dY ho rfl (bF hrun ?_);refine I.chain (i:=13) (d:=25) O O O I.bel (NC.late nd h11 ⟨u,?_,hu,fun _=>?_,fun h=>?_,fun h=>?_⟩)
   ·(try dsimp only);rw[aG O];exact h24
   ·(try dsimp only);rw[aG O,aG O];exact h12' h12
   ·(try dsimp only);rw[aF rfl]
   .exact vac 15 nd.d15 O h
 | 14,_=>
   obtain rfl:=jY ho (rfl:eP[14]?=some _);have h12:=hdep 12 bY;have h11:=nd.d12 h12;obtain⟨u,h24,hu,h12',h13,h15⟩:=I.nc.p11 h11;have e12:a.eval (.tmp 12)=pack [u,.bool true]:=(h12' h12).trans h24
   have hrun:(execOp a.eval (⟨some 26,.extract (.tmp 12) 1,4,"",#[],none⟩:Oper)).run prog W=.ok (.value (.bool true)) W:=by
    simp only[execOp];rw[e12];simp[pack,Instr.extract]
   refine dY ho rfl (bF hrun ?_);refine I.chain (i:=14) (d:=26) O O O I.bel (NC.late nd h11 ⟨u,?_,hu,fun _=>?_,fun h=>?_,fun h=>?_⟩)
   ·(try dsimp only);rw[aG O];exact h24
   ·(try dsimp only);rw[aG O,aG O];exact h12' h12
   ·(try dsimp only);rw[aG O];exact h13 (nP h)
   ·(try dsimp only);rw[aG O];exact h15 (nP h)
 | 15,_=>
   obtain rfl:=jY ho (rfl:eP[15]?=some _);have hh13:=hdep 13 bY;have h12:=nd.d13 hh13;have h11:=nd.d12 h12;obtain⟨u,h24,hu,h12',h13,h15⟩:=I.nc.p11 h11;refine dY ho rfl (bF rfl ?_);refine I.chain (i:=15) (d:=7) O O O I.bel (NC.late nd h11 ⟨u,?_,hu,fun _=>?_,fun h=>?_,fun h=>?_⟩)
   ·(try dsimp only);rw[aG O];exact h24
   ·(try dsimp only);rw[aG O,aG O];exact h12' h12
   ·(try dsimp only);rw[aG O];exact h13 hh13
   ·(try dsimp only);rw[aF rfl];exact h13 hh13
 | 16,_=>
   obtain rfl:=jY ho (rfl:eP[16]?=some _);have h12:=nd.d13 (hdep 13 bY);have h11:=nd.d12 h12;obtain⟨u,h24,hu,h12',h13,h15⟩:=I.nc.p11 h11;refine dY ho rfl (bF rfl ?_);refine I.chain (i:=16) (d:=8) O O O I.bel (NC.late nd h11 ⟨u,?_,hu,fun _=>?_,fun h=>?_,fun h=>?_⟩)
   ·(try dsimp only);rw[aG O];exact h24
   ·(try dsimp only);rw[aG O,aG O];exact h12' h12
   ·(try dsimp only);rw[aG O];exact h13 (nP h)
   ·(try dsimp only);rw[aG O];exact h15 (nP h)
end
end Go.Sy
namespace Go.Sy
open Go Go.Proofs Go.RowKit Tryz Ord
attribute [local go_sem] Oper.semAt_some
def Jl:Tr:=.retr [] 5
def IK:Tr:=.need (.strow 3 2 (.k (.int .i64 (0))) 0 [(.u 4 0),(.u 4 1)]) (.store 31 (.tmp 4) (.tmp 30)) 0 false Jl
def Jw:Tr:=.need (.call 139 [(W 0 0),(W 1 0),(W 2 0)] [(some 2)]) (.call ⟨.value (.func 139),#[(.tmp 27),(.tmp 28),(.tmp 29)],#[28,28,28]⟩) 31 true IK
def YK:vB prog 31 (fun _=>none) (aH [1,1,1,1,0] (aM f130)) [(0,.v none),(1,.v none),(7,.v none)] 4 31 2 0 ([].map ResultVar.tmp)=Jw:=aS
abbrev tA(x:c4)(e:b9):List aC:=[sQ x,eQ e]
abbrev uy:List aC:=[.exact (.slice none 0 0),.exact (.slice none 0 0)]
def bO7(x y d:c4)(A:Nat)(hA1:1<=A)(hA:A<=10000000)(hx:∀a∈x,Fit A a)(hy:∀a∈y,Fit A a)(hd:∀a∈d,Fit A a)(h2:2<=x.length)(hxy:y.length=x.length)(hxd:d.length=x.length)(hsh:∀i,i+1<x.length->aX prog 205 [.one (sQ (cvP x y d i)),qT (-(x.getD i 0))] (.ret [.one (sQ (jG x y d i))]))(hs:x.length<1099511627776:=by omega):vc prog (fun o=>o=.retr [] ([tA x ((List.range (x.length-1)).map (jG x y d))])) (vB prog 31 (fun _=>none) (aH [1,1,1,1,0] (aM f130)) [(0,.v none),(1,.v none),(7,.v none)] 4 31 2 0 ([].map ResultVar.tmp)) ([.v (.one (sQ x)),.v (.one (sQ y)),.v (.one (sQ d))].map In.env++[.rows ([uy])]) []:=by
 rw[YK];dsimp only[List.map,In.env,aU,aV];apply aA (yW x y d A hA1 hA hx hy hd hs h2 hxy hxd hsh);refine NM (ts:=[uy]) (us:=[tA x ((List.range (x.length-1)).map (jG x y d))]) rfl rfl O (cells:=uy) rfl rfl ?_;dsimp only[aU,aV];exact kA rfl rfl
def ia(n j:Nat):(Array.replicate n false).getD j false=false:=by
 rw[jq];cases h:(Array.replicate n false)[j]? with
 | none=>rfl
 | some b=>have:=(cJ.1 h).2;simp at this;subst this;rfl
def af4(x y sol:c4)(A B:Nat)(hA1:1<=A)(hA:A<=10000000)(hx:∀a∈x,Fit A a)(hy:∀a∈y,Fit A a)(hsf:∀a∈sol,Fit A a)(hs:x.length<549755813000)(h2:2<=x.length)(hxy:y.length=x.length)(hxs:sol.length=x.length)
  (hT:vL x.length (x.length+1) B (nA x y)) (hB:1<=B) (hg:∀k,k<=x.length->gA B k<=1000000000) (hsol:fQ (nA x y)=some sol)
  (hsh:∀i,i+1<x.length->aX prog 205 [.one (sQ (cvP x y sol i)),qT (-(x.getD i 0))] (.ret [.one (sQ (jG x y sol i))])) :
  aX prog 130 [.one (sQ x),.one (sQ y)] (.ret [.agg (tA x ((List.range (x.length-1)).map (jG x y sol)))]):=by
 refine⟨ay aS,fun M w vs hM hv=>?_⟩
 match vs,hv with
 | [v0,v1],⟨hv0,hv1,_⟩=>
   have hv0:(aC.slice 3 (rQ x)).rep M w v0:=hv0;have hv1:(aC.slice 3 (rQ y)).rep M w v1:=hv1;have o1:=aC.one _ hv1
   obtain⟨a0,cap0,he0⟩:∃a cap,v0=.slice a x.length cap:=by
    obtain⟨a,cap,e,_⟩:=hv0;rw[aL]at e;exact⟨a,cap,e⟩
   have hmf:∀(fn:Fn)(first cap:iS)(w:World),(Instr.makeFunc fn first cap).run prog w=.ok (.func fn first cap) w:=fun _ _ _ _=>rfl;obtain⟨n0,hn0⟩:∃n0,w.heap.size=n0:=⟨_,rfl⟩
   refine kH func130 rfl ?_;simp only[ntmps130,cq,bB,bu,Nat.reduceAdd,Nat.reduceSub,eE,eF,eJ,eI,List.nil_append,List.cons_append];subst he0;refine bU ?_;generalize hK:Exit.then _ _=K
   go_wp2
   rw[<-hK];clear hK K;show Code.wp _ _ _ _ _;refine bU ?_;generalize hK:Exit.then _ _=K
   go_wp2
   rw[<-hK];clear hK K;show Code.wp _ _ _ _ _;refine bU ?_;generalize hK:Exit.then _ _=K
   go_wp2
   rw[<-hK];clear hK K;show Code.wp _ _ _ _ _;generalize hW1:World.alloc (World.alloc w (.cells #[.slice none 0 0,.slice none 0 0] 31)) (.cells #[.int .i64 (x.length:Int)] 3)=W1;have tI:W1.heap.size=n0+2:=by rw[<-hW1];simp[hn0]
   have hB1:Below w.heap.size w W1:=by rw[<-hW1];exact((cS _ w).alloc (ah _) _).alloc aT _
   have hF4:W1.heap[n0]?=some (.cells #[.slice none 0 0,.slice none 0 0] 31 (0,0)):=by rw[<-hW1,dB _ _ _ b6,<-hn0];exact cr w _
   have hF5:W1.heap[n0+1]?=some (.cells #[.int .i64 (x.length:Int)] 3 (0,0)):=by
    rw[<-hW1];have:=cr (w.alloc (.cells #[.slice none 0 0,.slice none 0 0] 31)) (.cells #[.int .i64 (x.length:Int)] 3)
    rwa[cz,hn0]at this
   clear hW1 hmf;generalize ha:(Act.mk _ _)=a1;have q0:a1.tmps.getD 0 undef=.slice a0 x.length cap0:=by rw[<-ha];rfl
   have q1:a1.tmps.getD 1 undef=v1:=by rw[<-ha];rfl
   have q4:a1.tmps.getD 4 undef=.pointer (some ⟨n0,0,none⟩):=by rw[<-ha];rfl
   have q5:a1.tmps.getD 5 undef=.pointer (some ⟨n0+1,0,none⟩):=by rw[<-ha];rfl
   have q6:a1.tmps.getD 6 undef=vN (n0+1):=by rw[<-ha];rfl
   have qz:a1.tmps.size=31:=by rw[<-ha];rfl
   have qd:a1.defers=[]:=by rw[<-ha]
   clear ha;generalize (Value.slice a0 x.length cap0)=v0 at hv0 q0
   have hk1:av M w (Mb M n0) W1:=fun k o hk ho _=>by
    have hlt:=(cJ.1 ho).1;exact⟨fun h=>h.elim hk O,(hB1.block k hlt).trans ho⟩
   have hM1:bf (Mb M n0) W1:=⟨fun k hk=>hk.elim (fun h=>by have:=hM.1 k h;omega) O,hM.2.dJ hk1⟩
   have N:NB (Mb M n0) W1 x y A B sol v0 v1 (n0+1):=⟨hM1,aC.mono _ hk1 hv0,aC.mono _ hk1 hv1,O,fun h=>h.elim (fun h=>by have:=hM.1 _ h;omega) O,hF5,hA1,hA,hx,hy,hs,h2,hxy,hT,hB,hg,hsol⟩
   have hWd:Below W1.heap.size W1 { W1 with drawn:=W1.drawn+1 }:=⟨rfl,rfl,rfl,ah _,fun _ _=>rfl⟩
   refine bU (BD (ops:=eP) fo (wE (fun L a W=>NI (Mb M n0) W1 x y sol v0 v1 (.pointer (some ⟨n0,0,none⟩)) (n0+1) L a W) (fun L i o a W ho hL hdep hcl h=>aT8 N L i o a W ho hL hdep hcl h _) cc2 ?_ _ _ _ _ aT ?_ (bG (uT _ _) (by simp[pz])) ?_))
   .rintro L a2 W2 hall I;have hL:∀j,j<17->L j=true:=fun j hj=>hall j (by rw[pz];exact hj);obtain⟨u,_,hu,_,_,h7⟩:=I.nc.p11 (hL 11 O);have h7:a2.tmps.getD 7 undef=u:=h7 (hL 15 O);have hg4:=(I.bel.block n0 O).trans hF4;have hMg:¬M n0:=fun h=>by have:=hM.1 _ h;omega
    have hB2:Below w.heap.size w W2:=hB1.trans (I.bel.mono hB1.size);have hF2:=aW hM1 I.bel;have e0:(aC.slice 3 (rQ x)).rep (Mb M n0) W2 (a2.tmps.getD 0 undef):=by rw[I.t0];exact aC.mono _ (av.below I.bel) N.x0
    have e1:(aC.slice 3 (rQ y)).rep (Mb M n0) W2 (a2.tmps.getD 1 undef):=by rw[I.t1];exact aC.mono _ (av.below I.bel) N.y0
    have e7:(aC.slice 3 (rQ sol)).rep (Mb M n0) W2 (a2.tmps.getD 7 undef):=by rw[h7];exact hu
    show Code.wp _ _ _ _ _;refine bU (sY jN.wp (N:=31) (t0:=4) (T:=31) (n:=2) (want:=0) (g:=n0) (cur:=#[.slice none 0 0,.slice none 0 0]) (cs:=uy) (ins:=[(0,.v none),(1,.v none),(7,.v none)]) (xs:=[.v (.one (sQ x)),.v (.one (sQ y)),.v (.one (sQ sol))]) fo ⟨rfl,rfl,rfl,trivial⟩ (bO7 x y sol A hA1 hA hx hy hsf h2 hxy hxs hsh) aS hF2 (.inr rfl) I.sz I.df rfl O ⟨e0,e1,e7,trivial⟩ I.t4 hg4 ⟨⟨rfl,rfl⟩,⟨rfl,rfl⟩,trivial⟩ ?_);intro a3 w3 us3 cur3 hag3 hg3 hsz3 hdf3 hr3 hgc3 _ hrep3;have hl3:=hrep3.length;have k4:a3.tmps.getD 4 undef=.pointer (some ⟨n0,0,none⟩):=(aO hag3 4 aS).trans I.t4;have hcl:cur3.toList.length=2:=hl3.symm;have h31:(prog.underlying 31).any (fun d=>match d with | .struct _ | .array _ _=>true | _=>false)=true:=aS
    have hi31:(prog.info? 31).map (·.size)=some 2:=aS
    obtain⟨d31,hu31,hd31⟩:=(Ch _ _).1 h31;have hi3:(prog.info? 31).map (·.size)=some cur3.size:=by rw[show cur3.size=2 by rw[<-cK];exact hcl];exact hi31
    have hres:(results f130 a3.tmps).run prog w3=.ok (.agg cur3) w3:=by
     cases d31 with
     | struct f=>exact Ct (ty:=31) (g:=n0) (t:=31) (cs:=cur3) (fr:=(0,0)) rfl _ _ _ k4 hgc3 hu31 rfl hi3
     | array l e=>exact Ct (ty:=31) (g:=n0) (t:=31) (cs:=cur3) (fr:=(0,0)) rfl _ _ _ k4 hgc3 hu31 rfl hi3
     | _=>cases hd31
    refine rW ?_;refine gB hres hdf3 ⟨?_,[_],rfl,⟨cur3.toList,aT,?_⟩,trivial⟩
    .have oz:=hB2.size;refine⟨hg3.os.trans hB2.os,hg3.tape.trans hB2.tape,hg3.output.trans hB2.output,bG oz hg3.size,fun k hk=>(hg3.block k O (fun e=>by have:=cI e;omega)).trans (hB2.block k hk)⟩
    .exact hrep3.mono fun k o hk ho _=>⟨fun h=>hk (.inl h),ho⟩
   .intro j o' ho hj;rw[ia]at hj;cases hj
   .have hF:∀j,(Array.replicate eP.size false).getD j false=false:=ia _;exact⟨qz,qd,hWd,q0,q1,q4,q5,q6,fun j d v hj hL=>(by rw[hF]at hL;cases hL),⟨fun h=>(by rw[hF]at h;cases h),fun h=>(by rw[hF]at h;cases h),fun h=>(by rw[hF]at h;cases h),fun h=>(by rw[hF]at h;cases h),fun h=>(by rw[hF]at h;cases h),fun h=>(by rw[hF]at h;cases h)⟩⟩
 | [],h=>exact h.elim
 | [_],h=>exact h.2.elim
 | _::_::_::_,h=>exact h.2.2.elim
end Go.Sy
namespace Go.Sy
open Go Go.Proofs Go.RowKit Tryz Ord
attribute [local go_sem] Oper.semAt_some
def Rb:Tr:=.ret [(W 3 0)]
def Py:Tr:=.need (.prim [(W 2 0)] none) (.unOp .not 4 (.tmp 19)) 4 false Rb
def Sd:Tr:=.need (.call 129 [(W 0 0),(W 1 0)] [none]) (.call ⟨.value (.func 129),#[(.tmp 17),(.tmp 18)],#[28,28]⟩) 4 true Py
def YS:aj prog 66 (fun _=>none) (aH [1,0,0] (aM f50)) [(0,.v none),(1,.v none)] ([20].map ResultVar.tmp) none false=Sd:=aS
def SH:Tr:=.ret [(.one (.ref 0 [(.u 1 0)]))]
def RV:Tr:=.need (.prim [(W 0 0)] none) (.call ⟨.builtin .len,#[(.tmp 22)],#[28]⟩) 3 false SH
def Ze:aj prog 66 (fun _=>none) (aH [1,1,0] (aM f50)) [(0,.v none)] ([10].map ResultVar.tmp) none false=RV:=aS
def Qz:Tr:=.ret [(.one (.ref 0 [(.u 2 0)])),(W 3 0)]
def Qs:Tr:=.need (.call 132 [(W 0 0),(W 1 0)] [none]) (.call ⟨.value (.func 132),#[(.tmp 26),(.tmp 27)],#[28,28]⟩) 28 true Qz
def SE:Tr:=.need (.call 131 [(W 0 0)] [none]) (.call ⟨.value (.func 131),#[(.tmp 24)],#[28]⟩) 28 false Qs
def YO:aj prog 66 (fun _=>none) (aH [1,1,1,0] (aM f50)) [(0,.v none),(1,.v none)] ([11,12].map ResultVar.tmp) none false=SE:=aS
def RE:Tr:=.ret [(W 9 0)]
def PL:Tr:=.need (.call 133 [(W 0 0),(.agg [(U 8 0),(U 8 1),(U 8 2)]),(.one (.gv 134 [(.ref 0 [(.u 3 0)])]))] [none]) (.call ⟨.value (.func 133),#[(.tmp 29),(.tmp 36),(.tmp 37)],#[3,46,184]⟩) 28 true RE
def PX:Tr:=.need (.call 76 [(.agg [(U 6 0),(U 6 1),(U 6 2)]),(.agg [(U 7 0),(U 7 1),(U 7 2)])] [(some 3)]) (.call ⟨.value (.func 76),#[(.tmp 34),(.tmp 35)],#[46,46]⟩) 46 false PL
def Qt:Tr:=.need (.call 113 [(WK (6))] [(some 3)]) (.call ⟨.value (.func 113),#[(.const (I3 (6)))],#[3]⟩) 46 false PX
def Rp:Tr:=.need (.call 86 [(.agg [(U 5 0),(U 5 1),(U 5 2)]),(.agg [(U 2 0),(U 2 1),(U 2 2)])] [(some 3)]) (.call ⟨.value (.func 86),#[(.tmp 32),(.tmp 33)],#[46,46]⟩) 46 false Qt
def QC:Tr:=.need (.prim [(W 4 0)] (some 3)) (.load 46 (.tmp 31)) 46 false Rp
def TW:Tr:=.need (.prim [(W 1 0),(WK (0))] none) (.indexAddr 28 (.tmp 30) (.const (I3 (0)))) 0 false QC
def ZM:aj prog 66 (fun _=>none) (aH [1,1,1,1,0] (aM f50)) [(10,.ref 1),(12,.v none),(6,.ref 3),(11,.ref 1)] ([13].map ResultVar.tmp) none false=TW:=aS
def PS:Tr:=.ret [(W 10 0)]
def SK:Tr:=.need (.call 133 [(W 0 0),(.agg [(U 9 0),(U 9 1),(U 9 2)]),(.one (.gv 135 [(.ref 0 [(.u 3 0)]),(.ref 0 [(.u 0 0)])]))] [none]) (.call ⟨.value (.func 133),#[(.tmp 39),(.tmp 48),(.tmp 49)],#[3,46,184]⟩) 28 true PS
def Qm:Tr:=.need (.call 76 [(.agg [(U 7 0),(U 7 1),(U 7 2)]),(.agg [(U 8 0),(U 8 1),(U 8 2)])] [(some 3)]) (.call ⟨.value (.func 76),#[(.tmp 46),(.tmp 47)],#[46,46]⟩) 46 false SK
def Qg:Tr:=.need (.call 113 [(WK (6))] [(some 3)]) (.call ⟨.value (.func 113),#[(.const (I3 (6)))],#[3]⟩) 46 false Qm
def Sv:Tr:=.need (.call 86 [(.agg [(U 2 0),(U 2 1),(U 2 2)]),(.agg [(U 6 0),(U 6 1),(U 6 2)])] [(some 3)]) (.call ⟨.value (.func 86),#[(.tmp 40),(.tmp 45)],#[46,46]⟩) 46 false Qg
def Qv:Tr:=.need (.prim [(W 5 0)] (some 3)) (.load 46 (.tmp 44)) 46 false Sv
def Sj:Tr:=.need (.prim [(W 1 0),(W 4 0)] none) (.indexAddr 28 (.tmp 41) (.tmp 43)) 0 false Qv
def Qa:Tr:=.need (.prim [(W 0 0),(WK (2))] none) (.binOp .sub 3 (.tmp 42) (.const (I3 (2))) 3) 3 false Sj
def ae4:aj prog 66 (fun _=>none) (aH [1,1,1,1,1,0] (aM f50)) [(10,.ref 1),(12,.v none),(7,.ref 3),(11,.ref 1)] ([14].map ResultVar.tmp) none false=Qa:=aS
def Uw:Tr:=.retr [(WK (0))] 5
def UC:Tr:=.need (.strow 3 2 (.k (.int .i64 (0))) 0 [(.u 4 0),(.u 4 1)]) (.store 31 (.tmp 8) (.tmp 65)) 0 false Uw
def Ub:Tr:=.need (.call 139 [(W 0 0),(W 1 0),(W 2 0)] [(some 2)]) (.call ⟨.value (.func 139),#[(.tmp 62),(.tmp 63),(.tmp 64)],#[28,28,28]⟩) 31 true UC
def ae7:vB prog 66 (fun _=>none) (aH [1,1,1,1,1,1,1,0] (aM f50)) [(0,.v none),(1,.v none),(15,.v none)] 8 31 2 0 ([9].map ResultVar.tmp)=Ub:=aS
def cu7(t:iS)(h:t.size=66):t=#[t.getD 0 undef,t.getD 1 undef,t.getD 2 undef,t.getD 3 undef,t.getD 4 undef,t.getD 5 undef,t.getD 6 undef,t.getD 7 undef,t.getD 8 undef,t.getD 9 undef,t.getD 10 undef,t.getD 11 undef,t.getD 12 undef,t.getD 13 undef,t.getD 14 undef,t.getD 15 undef,t.getD 16 undef,t.getD 17 undef,t.getD 18 undef,t.getD 19 undef,t.getD 20 undef,t.getD 21 undef,t.getD 22 undef,t.getD 23 undef,t.getD 24 undef,t.getD 25 undef,t.getD 26 undef,t.getD 27 undef,t.getD 28 undef,t.getD 29 undef,t.getD 30 undef,t.getD 31 undef,t.getD 32 undef,t.getD 33 undef,t.getD 34 undef,t.getD 35 undef,t.getD 36 undef,t.getD 37 undef,t.getD 38 undef,t.getD 39 undef,t.getD 40 undef,t.getD 41 undef,t.getD 42 undef,t.getD 43 undef,t.getD 44 undef,t.getD 45 undef,t.getD 46 undef,t.getD 47 undef,t.getD 48 undef,t.getD 49 undef,t.getD 50 undef,t.getD 51 undef,t.getD 52 undef,t.getD 53 undef,t.getD 54 undef,t.getD 55 undef,t.getD 56 undef,t.getD 57 undef,t.getD 58 undef,t.getD 59 undef,t.getD 60 undef,t.getD 61 undef,t.getD 62 undef,t.getD 63 undef,t.getD 64 undef,t.getD 65 undef]:=(qo t 66 h).trans rfl
def cz4(x y:c4)(A:Nat)(hp:∀a∈x,Fit A a)(hA1:1<=A)(hl:x.length<1099511627776:=by omega)(hl2:y.length<1099511627776:=by omega)(hA:A<=1073741824:=by omega):vc prog (fun o=>bD o (.ret [.one (.bool (!mM x y))])) (aj prog 66 (fun _=>none) (aH [1,0,0] (aM f50)) [(0,.v none),(1,.v none)] ([20].map ResultVar.tmp) none false) ([.v (.one (sQ x)),.v (.one (sQ y))].map In.env) []:=by
 rw[YS];dsimp only[List.map,In.env,aU,aV];apply aA (oX x y A hp hA1 hl hA hl2);apply vn fk;exact aR
def cq2(x:c4):vc prog (fun o=>bD o (.ret [.one (.aw [.int .i64 (x.length:Int)])])) (aj prog 66 (fun _=>none) (aH [1,1,0] (aM f50)) [(0,.v none)] ([10].map ResultVar.tmp) none false) ([.v (.one (sQ x))].map In.env) []:=by
 rw[Ze];dsimp only[List.map,In.env,aU,aV];apply vn (ae bX (aL _));exact aR
def ch1(x y:c4)(A:Nat)(hA1:1<=A)(hx:∀a∈x,Fit A a)(hy:∀a∈y,Fit A a)(h2:2<=x.length)(hxy:y.length=x.length)(hA:A<=100000000:=by omega)(hs:x.length<1099511627776:=by omega):vc prog (fun o=>bD o (.ret [.one (.aw [sQ (dX x)]),.one (sQ (cD x y))])) (aj prog 66 (fun _=>none) (aH [1,1,1,0] (aM f50)) [(0,.v none),(1,.v none)] ([11,12].map ResultVar.tmp) none false) ([.v (.one (sQ x)),.v (.one (sQ y))].map In.env) []:=by
 rw[YO];dsimp only[List.map,In.env,aU,aV];apply aA (oH x A hA1 hx hs h2).QT;apply aA (rl x y A hA1 hx hy hs h2 hxy hA).QT;exact aR
def zb(h d:c4)(n:Nat)(a:Rat):List Rat:=leR h ((List.replicate (n+1) 0).set n ((d.getD 0 0-a)*((6:Int):Rat)))
def yx(h d:c4)(n:Nat)(b:Rat):List Rat:=riR h n ((List.replicate (n+1) 0).set n ((b-d.getD (n-2) 0)*((6:Int):Rat)))
def EU(h d:c4)(n:Nat)(a:Rat):(zb h d n a).length=n+1:=by simp[zb,leR]
def Ec(h d:c4)(n:Nat)(a:Rat):(yx h d n a).length=n+1:=by simp[yx,riR]
def co8(n0:Nat)(h d:c4)(n A:Nat)(a:Rat)(hh:∀a∈h,Fit A a)(hd:∀a∈d,Fit A a)(ha:Fit A a)(h2:2<=n)(hA1:1<=A:=by omega)(hA:A<=1000000000:=by omega)(hn:n<1099511627775:=by omega)(hl:h.length+1=n:=by omega)(hdl:d.length+1=n:=by omega):vc prog (iE prog n0 (.ret [.one (.jL n0 46 3 (rQ (zb h d n a)))])) (aj prog 66 (fun _=>none) (aH [1,1,1,1,0] (aM f50)) [(10,.ref 1),(12,.v none),(6,.ref 3),(11,.ref 1)] ([13].map ResultVar.tmp) none false) ([.ref ([.int .i64 (n:Int)]),.v (.one (sQ d)),.ref (qC a),.ref ([sQ h])].map In.env) []:=by
 rw[ZM];dsimp only[List.map,In.env,aU,aV];apply vn (aN bX (m:=0) O rfl (aa (show 0<d.length by omega)));apply vn (ab cb bY aT (.inl rfl));apply aA (lZ _ _ A A (aD hd _ hA1) ha);apply aA (dp 6);apply aA (ig _ _ (A+A+1) 62 ((aD hd _ hA1).sub ha) (Fit.int O O));dsimp only[aU,aV];refine Xc (ts:=[.one (.jL n0 46 3 (rQ (zb h d n a)))]) (iE.DH (OX n _ 134 [.aw [sQ h]] (zb h d n a) O (EU _ _ _ _) (Tm h A _ hA1 hA hh (by rw[al,dU];omega))) oI) rfl ?_;dsimp only[aU,aV];exact Af rfl
def ct5(n0:Nat)(h d:c4)(n A:Nat)(b:Rat)(hh:∀a∈h,Fit A a)(hd:∀a∈d,Fit A a)(hb:Fit A b)(h2:2<=n)(hA1:1<=A:=by omega)(hA:A<=1000000000:=by omega)(hn:n<1099511627775:=by omega)(hl:h.length+1=n:=by omega)(hdl:d.length+1=n:=by omega):vc prog (iE prog n0 (.ret [.one (.jL n0 46 3 (rQ (yx h d n b)))])) (aj prog 66 (fun _=>none) (aH [1,1,1,1,1,0] (aM f50)) [(10,.ref 1),(12,.v none),(7,.ref 3),(11,.ref 1)] ([14].map ResultVar.tmp) none false) ([.ref ([.int .i64 (n:Int)]),.v (.one (sQ d)),.ref (qC b),.ref ([sQ h])].map In.env) []:=by
 rw[ae4];dsimp only[List.map,In.env,aU,aV];apply vn (aI O O);dsimp only[aU,aV];apply vn (aN bX (m:=n-2) O O (aa (show n-2<d.length by omega)));apply vn (ab cb bY aT (.inl rfl));apply aA (lZ _ _ A A hb (aD hd _ hA1));apply aA (dp 6);apply aA (ig _ _ (A+A+1) 62 (hb.sub (aD hd _ hA1)) (Fit.int O O));dsimp only[aU,aV];refine Xc (ts:=[.one (.jL n0 46 3 (rQ (yx h d n b)))]) (iE.DH (OX n _ 135 [.aw [sQ h],.aw [.int .i64 (n:Int)]] (yx h d n b) O (Ec _ _ _ _) (SU h n A _ hA1 hA hh h2 (by rw[al,dU];omega))) oI) rfl ?_;dsimp only[aU,aV];exact Af rfl
def cz9(x y d:c4)(A:Nat)(hA1:1<=A)(hA:A<=10000000)(hx:∀a∈x,Fit A a)(hy:∀a∈y,Fit A a)(hd:∀a∈d,Fit A a)(h2:2<=x.length)(hxy:y.length=x.length)(hxd:d.length=x.length)(hsh:∀i,i+1<x.length->aX prog 205 [.one (sQ (cvP x y d i)),qT (-(x.getD i 0))] (.ret [.one (sQ (jG x y d i))]))(hs:x.length<1099511627776:=by omega):vc prog (fun o=>o=.retr [.one (.int .i64 0)] ([tA x ((List.range (x.length-1)).map (jG x y d))])) (vB prog 66 (fun _=>none) (aH [1,1,1,1,1,1,1,0] (aM f50)) [(0,.v none),(1,.v none),(15,.v none)] 8 31 2 0 ([9].map ResultVar.tmp)) ([.v (.one (sQ x)),.v (.one (sQ y)),.v (.one (sQ d))].map In.env++[.rows ([uy])]) []:=by
 rw[ae7];dsimp only[List.map,In.env,aU,aV];apply aA (yW x y d A hA1 hA hx hy hd hs h2 hxy hxd hsh);refine NM (ts:=[uy]) (us:=[tA x ((List.range (x.length-1)).map (jG x y d))]) rfl rfl O (cells:=uy) rfl rfl ?_;dsimp only[aU,aV];exact kA rfl rfl
def pP{M:c6}{w:World}{t:aQ}{vs:j0}(h:cC M w [t] vs):∃v,vs=[v]/\t.rep M w v:=by
 match vs,h with
 | [v],h=>exact⟨v,rfl,h.1⟩
 | [],h=>exact h.elim
 | _::_::_,h=>exact h.2.elim
def ct4{l:j0}(h:l.length=2):∃a b,l=[a,b]:=by
 match l,h with
 | [a,b],_=>exact⟨a,b,rfl⟩
def ay0{l:j0}(h:l.length=3):∃a b c,l=[a,b,c]:=by
 match l,h with
 | [a,b,c],_=>exact⟨a,b,c,rfl⟩
def tz(x y:c4)(a b:Rat):List (List Rat):=(List.range ((dX x).length-1)).map (fun j=>kW (dX x) (cD x y) x.length (j+1))++[zb (dX x) (cD x y) x.length a,yx (dX x) (cD x y) x.length b]
def az4(x y:c4)(a b:Rat):(tz x y a b).map rQ=lI (dX x) (cD x y) x.length++[rQ (zb (dX x) (cD x y) x.length a),rQ (yx (dX x) (cD x y) x.length b)]:=by
 rw[tz,cG,ey];rfl
def EE(x y sol:c4)(p q:Rat)(A B:Nat)(hA1:1<=A)(hA:A<=10000000)(hx:∀a∈x,Fit A a)(hy:∀a∈y,Fit A a)(hp:Fit A p)(hq:Fit A q)(hsf:∀a∈sol,Fit A a)(hs:x.length<549755813000)(h2:2<=x.length)(hxy:y.length=x.length)(hxs:sol.length=x.length)(hgv:mM x y=true)
  (hT:vL x.length (x.length+1) B (tz x y p q)) (hB:1<=B) (hg:∀k,k<=x.length->gA B k<=1000000000) (hsol:fQ (tz x y p q)=some sol)
  (hsh:∀i,i+1<x.length->aX prog 205 [.one (sQ (cvP x y sol i)),qT (-(x.getD i 0))] (.ret [.one (sQ (jG x y sol i))])) :
  aX prog 50 [.one (sQ x),.one (sQ y),qT p,qT q] (.ret [.agg (tA x ((List.range (x.length-1)).map (jG x y sol))),.one (.int .i64 0)]):=by
 refine⟨ay aS,fun M w vs hM hv=>?_⟩
 match vs,hv with
 | [v0,v1,v2,v3],⟨hv0,hv1,hv2,hv3,_⟩=>
   have hv0:(aC.slice 3 (rQ x)).rep M w v0:=hv0;have hv1:(aC.slice 3 (rQ y)).rep M w v1:=hv1;obtain⟨ps,rfl,hps⟩:=hv2;obtain⟨qs,rfl,hqs⟩:=hv3;obtain⟨p0,p1,p2,rfl⟩:=ay0 hps.length.symm;obtain⟨q0,q1,q2,rfl⟩:=ay0 hqs.length.symm;have o0:=aC.one _ hv0;have o1:=aC.one _ hv1;obtain⟨op0,op1,op2⟩:p0.oneCell'=true/\p1.oneCell'=true/\p2.oneCell'=true:=by have:=hps.one;exact⟨this _ aT,this _ aT,this _ aT⟩
   obtain⟨oq0,oq1,oq2⟩:q0.oneCell'=true/\q1.oneCell'=true/\q2.oneCell'=true:=by have:=hqs.one;exact⟨this _ aT,this _ aT,this _ aT⟩
   obtain⟨n0,hn0⟩:∃n0,w.heap.size=n0:=⟨_,rfl⟩
   refine kH func50 rfl ?_;simp only[ntmps50,cq,bB,bu,Nat.reduceAdd,Nat.reduceSub,eE,eF,eJ,eI,List.nil_append,List.cons_append];refine bU ?_;generalize hK:Exit.then _ _=K
   go_wp2
   rw[<-hK];clear hK K;show Code.wp _ _ _ _ _;generalize hW1:World.alloc (World.alloc (World.alloc w (.cells #[p0,p1,p2] 46)) (.cells #[q0,q1,q2] 46)) (.cells #[.slice none 0 0,.slice none 0 0] 31)=W1;have tI:W1.heap.size=n0+3:=by rw[<-hW1];simp[hn0]
   have hB1:Below w.heap.size w W1:=by rw[<-hW1];exact(((cS _ w).alloc (ah _) _).alloc aT _).alloc b6 _
   have hF6:W1.heap[n0]?=some (.cells #[p0,p1,p2] 46 (0,0)):=by rw[<-hW1,dB _ _ _ b6,dB _ _ _ b6,<-hn0];exact cr w _
   have hF7:W1.heap[n0+1]?=some (.cells #[q0,q1,q2] 46 (0,0)):=by
    rw[<-hW1,dB _ _ _ b6];have:=cr (w.alloc (.cells #[p0,p1,p2] 46)) (.cells #[q0,q1,q2] 46)
    rwa[cz,hn0]at this
   have hF8:W1.heap[n0+2]?=some (.cells #[.slice none 0 0,.slice none 0 0] 31 (0,0)):=by
    rw[<-hW1];have:=cr ((w.alloc (.cells #[p0,p1,p2] 46)).alloc (.cells #[q0,q1,q2] 46)) (.cells #[.slice none 0 0,.slice none 0 0] 31)
    rwa[cz,cz,hn0]at this
   clear hW1;generalize ha:(Act.mk _ _)=a1;have t0:a1.tmps.getD 0 undef=v0:=by rw[<-ha];rfl
   have t1:a1.tmps.getD 1 undef=v1:=by rw[<-ha];rfl
   have t6:a1.tmps.getD 6 undef=.pointer (some ⟨n0,0,none⟩):=by rw[<-ha];rfl
   have t7:a1.tmps.getD 7 undef=.pointer (some ⟨n0+1,0,none⟩):=by rw[<-ha];rfl
   have t8:a1.tmps.getD 8 undef=.pointer (some ⟨n0+2,0,none⟩):=by rw[<-ha];rfl
   have hsz:a1.tmps.size=66:=by rw[<-ha];rfl
   have hdf:a1.defers=[]:=by rw[<-ha]
   clear ha;obtain⟨N,hN⟩:∃N:Nat->Prop,∀k,N k↔M k\/k=n0+2:=⟨_,fun k=>mZ⟩
   have hk1:av M w N W1:=fun k o hk ho _=>by
    have hlt:=(cJ.1 ho).1;exact⟨fun h=>((hN k).1 h).elim hk O,(hB1.block k hlt).trans ho⟩
   have hF:bf N W1:=⟨fun k hk=>((hN k).1 hk).elim (fun h=>by have:=hM.1 k h;omega) O,hM.2.dJ hk1⟩
   have e0:=aC.mono _ hk1 hv0;have e1:=aC.mono _ hk1 hv1;have hnN:∀b,n0<=b->b<n0+2->¬N b:=fun b h1 h2 h=>((hN b).1 h).elim (fun h=>by have:=hM.1 b h;omega) O;have e6:(aC.aw (qC p)).rep N W1 (.pointer (some ⟨n0,0,none⟩)):=⟨n0,0,_,_,_,rfl,hnN _ O O,hF6,hps.mono hk1⟩
   have e7:(aC.aw (qC q)).rep N W1 (.pointer (some ⟨n0+1,0,none⟩)):=⟨n0+1,0,_,_,_,rfl,hnN _ O O,hF7,hqs.mono hk1⟩
   have hMN:∀k,M k->N k:=fun k h=>(hN k).2 (.inl h);have hg8:N (n0+2):=(hN _).2 (.inr rfl);clear hF6 hF7 hnN hk1;refine bp9 ?_;have e0a:(aC.slice 3 (rQ x)).rep N W1 (a1.tmps.getD 0 undef):=by rw[t0];exact e0
   have e1a:(aC.slice 3 (rQ y)).rep N W1 (a1.tmps.getD 1 undef):=by rw[t1];exact e1
   refine cn (cn (dK.2 (bV jN.wp (n0:=W1.heap.size) (N:=66) (ins:=[(0,.v none),(1,.v none)]) (xs:=[.v (.one (sQ x)),.v (.one (sQ y))]) fo ⟨rfl,rfl,trivial⟩ (tg (cz4 x y A hx hA1)) aS (ah _) hF hsz hdf ⟨e0a,e1a,trivial⟩ ?_)));intro a2 W2 us2 hag2 hb2 hsz2 hdf2 hr2 hrep2;have hus:=bA hr2;subst hus;have h20:a2.tmps.getD 20 undef=.bool (!mM x y):=hrep2.1.1;rw[hgv]at h20;show Code.wpIn _ _ _ _ _ _ _;refine qK (t:=false) h20 (qR ?_);have ag2:=aO hag2;have bel2:=hb2;replace e0:=aC.mono _ (av.below hb2) e0;replace e1:=aC.mono _ (av.below hb2) e1;replace e6:=aC.mono _ (av.below hb2) e6;replace e7:=aC.mono _ (av.below hb2) e7;replace t0:=(aO hag2 0 aS).trans t0;replace t1:=(aO hag2 1 aS).trans t1;replace t6:=(aO hag2 6 aS).trans t6;replace t7:=(aO hag2 7 aS).trans t7;replace t8:=(aO hag2 8 aS).trans t8;have hB2:=hB1.trans (hb2.mono hB1.size);have hF8':=(hb2.block _ O).trans hF8;have hF2:=aW hF hb2;have hn2:=hb2.size;clear hag2 hb2 hr2 hrep2 hsz hdf e0a e1a h20 hF8 hF hB1;show Code.wpIn _ _ _ _ _ _ _;have e0a:(aC.slice 3 (rQ x)).rep N W2 (a2.tmps.getD 0 undef):=by rw[t0];exact e0
   refine cn (dK.2 (bV jN.wp (n0:=W2.heap.size) (N:=66) (ins:=[(0,.v none)]) (xs:=[.v (.one (sQ x))]) fo ⟨rfl,trivial⟩ (tg (cq2 x)) aS (ah _) hF2 hsz2 hdf2 ⟨e0a,trivial⟩ ?_));intro a3 W3 us3 hag3 hb3 hsz3 hdf3 hr3 hrep3;have hus:=bA hr3;subst hus;have e10:(aC.aw [.int .i64 (x.length:Int)]).rep N W3 (a3.tmps.getD 10 undef):=hrep3.1;replace e0:=aC.mono _ (av.below hb3) e0;replace e1:=aC.mono _ (av.below hb3) e1;replace e6:=aC.mono _ (av.below hb3) e6;replace e7:=aC.mono _ (av.below hb3) e7;replace t0:=(aO hag3 0 aS).trans t0;replace t1:=(aO hag3 1 aS).trans t1;replace t6:=(aO hag3 6 aS).trans t6;replace t7:=(aO hag3 7 aS).trans t7;replace t8:=(aO hag3 8 aS).trans t8;have hB3:=hB2.trans (hb3.mono hB2.size);have hF83:=(hb3.block _ O).trans hF8';have hF3:=aW hF2 hb3;have hn3:=hb3.size;clear hag3 hb3 hr3 hrep3 hsz2 hdf2 e0a hF8' hF2 hB2;show Code.wpIn _ _ _ _ _ _ _;have e0a:(aC.slice 3 (rQ x)).rep N W3 (a3.tmps.getD 0 undef):=by rw[t0];exact e0
   have e1a:(aC.slice 3 (rQ y)).rep N W3 (a3.tmps.getD 1 undef):=by rw[t1];exact e1
   refine cn (dK.2 (bV jN.wp (n0:=W3.heap.size) (N:=66) (ins:=[(0,.v none),(1,.v none)]) (xs:=[.v (.one (sQ x)),.v (.one (sQ y))]) fo ⟨rfl,rfl,trivial⟩ (tg (ch1 x y A hA1 hx hy h2 hxy)) aS (ah _) hF3 hsz3 hdf3 ⟨e0a,e1a,trivial⟩ ?_));intro a4 W4 us4 hag4 hb4 hsz4 hdf4 hr4 hrep4;have hus:=bA hr4;subst hus;have e11:(aC.aw [sQ (dX x)]).rep N W4 (a4.tmps.getD 11 undef):=hrep4.1;have e12:(aC.slice 3 (rQ (cD x y))).rep N W4 (a4.tmps.getD 12 undef):=hrep4.2.1;replace e0:=aC.mono _ (av.below hb4) e0;replace e1:=aC.mono _ (av.below hb4) e1;replace e6:=aC.mono _ (av.below hb4) e6;replace e7:=aC.mono _ (av.below hb4) e7;replace e10:(aC.aw [.int .i64 (x.length:Int)]).rep N W4 (a4.tmps.getD 10 undef):=by rw[aO hag4 10 aS];exact aC.mono _ (av.below hb4) e10
   replace t0:=(aO hag4 0 aS).trans t0;replace t1:=(aO hag4 1 aS).trans t1;replace t6:=(aO hag4 6 aS).trans t6;replace t7:=(aO hag4 7 aS).trans t7;replace t8:=(aO hag4 8 aS).trans t8;have hB4:=hB3.trans (hb4.mono hB3.size);have hF84:=(hb4.block _ O).trans hF83;have hF4:=aW hF3 hb4;have hn4:=hb4.size;clear hag4 hb4 hr4 hrep4 hsz3 hdf3 e0a e1a hF83 hF3 hB3;have hwl:=jd x;have hsl:=xS x y;have hwf:∀a∈dX x,Fit (4*A+2) a:=fun a ha=>(oG hA1 hx a ha).mono O;have hsf':=tP hx hy hA1;show Code.wpIn _ _ _ _ _ _ _;have e6a:(aC.aw (qC p)).rep N W4 (a4.tmps.getD 6 undef):=by rw[t6];exact e6
   refine cn (dK.2 (bV jN.wp (n0:=W4.heap.size) (N:=66) (ins:=[(10,.ref 1),(12,.v none),(6,.ref 3),(11,.ref 1)]) (xs:=[.ref [.int .i64 (x.length:Int)],.v (.one (sQ (cD x y))),.ref (qC p),.ref [sQ (dX x)]]) fo ⟨rfl,rfl,rfl,rfl,trivial⟩ (co8 W4.heap.size (dX x) (cD x y) x.length (4*A+2) p hwf hsf' (hp.mono O) h2) aS (ah _) hF4 hsz4 hdf4 ⟨e10,e12,e6a,e11,trivial⟩ ?_));intro a5 W5 us5 hag5 hb5 hsz5 hdf5 hr5 hrep5;have hus:=bA hr5;subst hus;obtain⟨b0,hb0n,hrow0⟩:=aC.jL.rowAt hrep5.1;have hkb:=qF (M:=N) hb5 hb0n;replace e0:=aC.mono _ hkb e0;replace e1:=aC.mono _ hkb e1;replace e7:=aC.mono _ hkb e7;replace e10:(aC.aw [.int .i64 (x.length:Int)]).rep (Mb N b0) W5 (a5.tmps.getD 10 undef):=by rw[aO hag5 10 aS];exact aC.mono _ hkb e10
   replace e11:(aC.aw [sQ (dX x)]).rep (Mb N b0) W5 (a5.tmps.getD 11 undef):=by rw[aO hag5 11 aS];exact aC.mono _ hkb e11
   replace e12:(aC.slice 3 (rQ (cD x y))).rep (Mb N b0) W5 (a5.tmps.getD 12 undef):=by rw[aO hag5 12 aS];exact aC.mono _ hkb e12
   replace t0:=(aO hag5 0 aS).trans t0;replace t1:=(aO hag5 1 aS).trans t1;replace t7:=(aO hag5 7 aS).trans t7;replace t8:=(aO hag5 8 aS).trans t8;have hB5:=hB4.trans (hb5.mono hB4.size);have hF85:=(hb5.block _ O).trans hF84;have hF5:=sW hF4 hb5 hb0n hrow0.lt;have hn5:=hb5.size;clear hag5 hb5 hr5 hrep5 hsz4 hdf4 hF84 hF4 hB4 hkb e6 e6a t6;show Code.wpIn _ _ _ _ _ _ _;have e7a:(aC.aw (qC q)).rep (Mb N b0) W5 (a5.tmps.getD 7 undef):=by rw[t7];exact e7
   refine cn (dK.2 (bV jN.wp (n0:=W5.heap.size) (N:=66) (ins:=[(10,.ref 1),(12,.v none),(7,.ref 3),(11,.ref 1)]) (xs:=[.ref [.int .i64 (x.length:Int)],.v (.one (sQ (cD x y))),.ref (qC q),.ref [sQ (dX x)]]) fo ⟨rfl,rfl,rfl,rfl,trivial⟩ (ct5 W5.heap.size (dX x) (cD x y) x.length (4*A+2) q hwf hsf' (hq.mono O) h2) aS (ah _) hF5 hsz5 hdf5 ⟨e10,e12,e7a,e11,trivial⟩ ?_));intro a6 W6 us6 hag6 hb6 hsz6 hdf6 hr6 hrep6;have hus:=bA hr6;subst hus;obtain⟨b1,hb1n,hrow1⟩:=aC.jL.rowAt hrep6.1;have hlt0:=hrow0.lt
   have hMp:∀k,Mp N b0 b1 k->Mb (Mb N b0) b1 k:=fun k h=>h.elim (fun h=>.inl (.inl h)) fun h=>by
    rcases cp.1 h with e | h
    .exact .inl (.inr e)
    .exact .inr (da.1 h)
   have hkp:av (Mb N b0) W5 (Mp N b0 b1) W6:=fun k o hk ho hc=>by
    obtain⟨h1,h2⟩:=qF (M:=Mb N b0) hb6 hb1n k o hk ho hc;exact⟨fun h=>h1 (hMp k h),h2⟩
   have hr0:dH 46 3 (rQ (zb (dX x) (cD x y) x.length p)) (Mp N b0 b1) W6 (a6.tmps.getD 13 undef) b0:=by
    rw[aO hag6 13 aS];exact(hrow0.in (N:=Mb N b0) (fun k h=>h)).mono hkp (hb6.block b0 hlt0)
   have hr1:dH 46 3 (rQ (yx (dX x) (cD x y) x.length q)) (Mp N b0 b1) W6 (a6.tmps.getD 14 undef) b1:=hrow1.in hMp;have hM0:=hrow0.off;have hM1:¬N b1:=fun h=>hrow1.off (.inl h);replace e0:=aC.mono _ hkp e0;replace e1:=aC.mono _ hkp e1;replace t0:=(aO hag6 0 aS).trans t0;replace t1:=(aO hag6 1 aS).trans t1;replace t8:=(aO hag6 8 aS).trans t8;have hB6:=hB5.trans (hb6.mono hB5.size);have hF86:=(hb6.block _ O).trans hF85;have hF6:=fX (sW hF5 hb6 hb1n hrow1.lt) hMp;have hn6:=hb6.size;have hne:b0≠b1:=O
   have one0:=hr0.one;have Bf:=hr1.one;clear hag6 hb6 hr6 hrep6 hsz5 hdf5 hF85 hF5 hB5 hkp e7 e7a t7 e10 e11 e12 hrow0 hrow1 hMp;obtain⟨t,ds⟩:=a6;dsimp only at hsz6 hdf6 t0 t1 t8 hr0 hr1 one0 Bf;subst hdf6;rw[cu7 t hsz6,t0,t1,t8];generalize t.getD 13 undef=u0 at hr0 one0|-;generalize t.getD 14 undef=u1 at hr1 Bf|-;generalize t.getD 2 undef=y2;generalize t.getD 3 undef=y3;generalize t.getD 4 undef=y4;generalize t.getD 5 undef=y5;generalize t.getD 6 undef=y6;generalize t.getD 7 undef=y7;generalize t.getD 9 undef=y9;generalize t.getD 10 undef=y10;generalize t.getD 11 undef=y11;generalize t.getD 12 undef=y12;generalize t.getD 15 undef=y15;generalize t.getD 16 undef=y16;generalize t.getD 17 undef=y17;generalize t.getD 18 undef=y18;generalize t.getD 19 undef=y19;generalize t.getD 20 undef=y20;generalize t.getD 21 undef=y21;generalize t.getD 22 undef=y22;generalize t.getD 23 undef=y23;generalize t.getD 24 undef=y24;generalize t.getD 25 undef=y25;generalize t.getD 26 undef=y26;generalize t.getD 27 undef=y27;generalize t.getD 28 undef=y28;generalize t.getD 29 undef=y29;generalize t.getD 30 undef=y30;generalize t.getD 31 undef=y31;generalize t.getD 32 undef=y32;generalize t.getD 33 undef=y33;generalize t.getD 34 undef=y34;generalize t.getD 35 undef=y35;generalize t.getD 36 undef=y36;generalize t.getD 37 undef=y37;generalize t.getD 38 undef=y38;generalize t.getD 39 undef=y39;generalize t.getD 40 undef=y40;generalize t.getD 41 undef=y41;generalize t.getD 42 undef=y42;generalize t.getD 43 undef=y43;generalize t.getD 44 undef=y44;generalize t.getD 45 undef=y45;generalize t.getD 46 undef=y46;generalize t.getD 47 undef=y47;generalize t.getD 48 undef=y48;generalize t.getD 49 undef=y49;generalize t.getD 50 undef=y50;generalize t.getD 51 undef=y51;generalize t.getD 52 undef=y52;generalize t.getD 53 undef=y53;generalize t.getD 54 undef=y54;generalize t.getD 55 undef=y55;generalize t.getD 56 undef=y56;generalize t.getD 57 undef=y57;generalize t.getD 58 undef=y58;generalize t.getD 59 undef=y59;generalize t.getD 60 undef=y60;generalize t.getD 61 undef=y61;generalize t.getD 62 undef=y62;generalize t.getD 63 undef=y63;generalize t.getD 64 undef=y64;generalize t.getD 65 undef=y65;clear t0 t1 t8 hsz6 t;obtain⟨cu0,_,rfl,_⟩:=hr0.cells;obtain⟨cu1,_,rfl,_⟩:=hr1.cells;show Code.wpIn _ _ _ _ _ _ _;refine sU fun K0 hK0=>?_;replace hK0:Mt _:=hK0
   gi_wp2
   refine⟨trivial,?_⟩;have dI:=CE x y A hA1 hx hy h2 hxy;refine(bC.2 (dI.2 (Mp N b0 b1) W6 [v0,v1] hF6 ⟨e0,e1,trivial⟩)).mono ?_;rintro e W7 ⟨hb7,vs7,rfl,hr7⟩;obtain⟨vI,rfl,hq7⟩:=pP hr7;obtain⟨lbI,rfl,hlI⟩:=(show(clI x y).rep (Mp N b0 b1) W7 vI from hq7)
   have hk7:=av.below (M:=Mp N b0 b1) hb7;replace e0:=aC.mono _ hk7 e0;replace e1:=aC.mono _ hk7 e1;replace hr0:=hr0.mono hk7 (hb7.block b0 hr0.lt);replace hr1:=hr1.mono hk7 (hb7.block b1 hr1.lt);have hB7:=hB6.trans (hb7.mono hB6.size);have hn7:=hb7.size;have hF87:=(hb7.block _ O).trans hF86;have hF7:=aW hF6 hb7;clear hb7 hr7 hq7 hk7 hF86 hF6 hB6 dI;dsimp only[pack]
   gi_wp2
   refine⟨trivial,?_⟩;generalize hu0:Value.slice (some ⟨b0,0,none⟩) _ cu0=u0 at hr0 one0|-;generalize hu1:Value.slice (some ⟨b1,0,none⟩) _ cu1=u1 at hr1 Bf|-;have hb8:Below W7.heap.size W7 (W7.alloc (.cells #[u0,u1] 28)):=(cS _ W7).alloc (ah _) _;have hnew:=cr W7 (.cells #[u0,u1] 28);generalize hmv:Value.slice (some ⟨W7.heap.size,0,none⟩) 2 2=mv;have one2:mv.oneCell'=true:=by rw[<-hmv];rfl
   generalize World.alloc W7 (.cells #[u0,u1] 28)=W8 at hb8 hnew|-
   have hsl8:(aC.slice 1 ([u0,u1].map fun v=>[.exact v])).rep (Mp N b0 b1) W8 mv:=by
    rw[<-hmv];refine⟨_,2,rfl,ah _,bY,.inr ⟨W7.heap.size,0,_,_,_,rfl,fun h=>?_,hnew,fun j t ht=>?_⟩⟩
    .have:=hF7.1 _ h;omega
    .match j,ht with
     | 0,ht=>cases ht;exact⟨rfl,⟨rfl,one0⟩,trivial⟩
     | 1,ht=>cases ht;exact⟨rfl,⟨rfl,Bf⟩,trivial⟩
     | j+2,ht=>simp at ht
   have hk8:=av.below (M:=Mp N b0 b1) hb8;replace e0:=aC.mono _ hk8 e0;replace e1:=aC.mono _ hk8 e1;replace hlI:=hlI.mono hk8;replace hr0:=hr0.mono hk8 (hb8.block b0 hr0.lt);replace hr1:=hr1.mono hk8 (hb8.block b1 hr1.lt);have hB8:=hB7.trans (hb8.mono hB7.size);have hn8:=hb8.size;have hF88:=(hb8.block _ O).trans hF87;have hF8:=aW hF7 hb8;clear hb8 hnew hk8 hF87 hF7 hB7 hmv hu0 hu1;have dW:=SL (.func (.func 203) #[] lbI.toArray) mv;refine(bC.2 (dW.2 (Mp N b0 b1) W8 [.func (.func 203) #[] lbI.toArray,mv] hF8 ⟨⟨rfl,rfl⟩,⟨rfl,one2⟩,trivial⟩)).mono ?_;rintro e W9 ⟨hb9,vs9,rfl,hr9⟩;obtain⟨vW,rfl,hq9⟩:=pP hr9;obtain⟨lb,rfl,hlb⟩:=(show(aC.gv 202 [.aw [.exact (.func (.func 203) #[] lbI.toArray)],.aw [.exact mv]]).rep (Mp N b0 b1) W9 vW from hq9)
   have hk9:=av.below (M:=Mp N b0 b1) hb9;replace e0:=aC.mono _ hk9 e0;replace e1:=aC.mono _ hk9 e1;replace hlI:=hlI.mono hk9;replace hsl8:=aC.mono _ hk9 hsl8;replace hr0:=hr0.mono hk9 (hb9.block b0 hr0.lt);replace hr1:=hr1.mono hk9 (hb9.block b1 hr1.lt);have hB9:=hB8.trans (hb9.mono hB8.size);have hn9:=hb9.size;have hF89:=(hb9.block _ O).trans hF88;have hF9:=aW hF8 hb9;clear hb9 hr9 hq9 hk9 hF88 hF8 hB8 dW;obtain⟨w1,w2,rfl⟩:=ct4 hlb.length.symm;obtain⟨z1,z2,z3,rfl⟩:=ay0 hlI.length.symm
   have hgen:Gen prog 46 3 202 #[w1,w2] ((tz x y p q).map rQ) (fun k=>k∈[b0,b1]) (fun k=>k∈[b0,b1]) N W9:=by
    rw[az4]
    exact Hj N W9 203 #[z1,z2,z3] (lI (dX x) (cD x y) x.length) _ _ u0 u1 b0 b1 hne
     (yr (dX x) x (cD x y) (4*A+2) hwf hsf' N (fun k=>k∈[b0,b1]) W9 hF9 z1 z2 z3 hlI.1 hlI.2.1 hlI.2.2.1)
     (ay aS) hr0 hr1 hM0 hM1 hF9 w1 w2 mv hlb.1 hlb.2.1 hsl8
   have hS:∀k,k∈[b0,b1]->k<W9.heap.size/\¬N k:=fun k h=>by
    rcases cp.1 h with e | h
    .rw[e];exact⟨hr0.lt,hM0⟩
    .rw[da.1 h];exact⟨hr1.lt,hM1⟩
   have hcall:=DM N (fun k=>k∈[b0,b1]) W9 hF9 hS 202 #[w1,w2] (tz x y p q) x.length (x.length+1) B hT O O O hB hg O hgen (ay aS);rw[hsol]at hcall;clear hgen hS hlb hlI hsl8 one2;dsimp only[pack]
   gi_wp2
   refine⟨trivial,?_⟩;refine(bC.2 hcall).mono ?_;rintro e W10 ⟨hfr,u,rfl,hu⟩;have ouu:=aC.one _ hu;dsimp only[pack]
   gi_wp2
   unfold Mt at hK0;refine hK0 _ _ ?_;clear hK0 K0;have hn10:=hfr.size
   have hk10:av (Mp N b0 b1) W9 N W10:=fun k o hk ho _=>by
    have hlt:=(cJ.1 ho).1;exact⟨fun h=>hk (.inl h),(hfr.old k hlt fun h=>hk (.inr h)).trans ho⟩
   replace e0:=aC.mono _ hk10 e0;replace e1:=aC.mono _ hk10 e1
   have hnb:∀k,k<n0+3->k ∉ [b0,b1]:=fun k hk h=>by
    rcases cp.1 h with e | h
    .omega
    .have:=da.1 h;omega
   have hF810:=(hfr.old (n0+2) O (hnb _ O)).trans hF89;have hF10:bf N W10:=⟨fun k hk=>by have:=hF9.1 k (.inl hk);omega,hF9.2.dJ hk10⟩
   have hB10:Below w.heap.size w W10:=⟨hfr.os.trans hB9.os,hfr.tape.trans hB9.tape,hfr.output.trans hB9.output,bG hB9.size hfr.size,fun k hk=>(hfr.old k (by have:=hB9.size;omega) (hnb k O)).trans (hB9.block k hk)⟩
   generalize ha:(Act.mk _ _)=a7;have t0:a7.tmps.getD 0 undef=v0:=by rw[<-ha];rfl
   have t1:a7.tmps.getD 1 undef=v1:=by rw[<-ha];rfl
   have t8:a7.tmps.getD 8 undef=.pointer (some ⟨n0+2,0,none⟩):=by rw[<-ha];rfl
   have t15:a7.tmps.getD 15 undef=u:=by rw[<-ha];rfl
   have hsz7:a7.tmps.size=66:=by rw[<-ha];rfl
   have hdf7:a7.defers=[]:=by rw[<-ha]
   clear ha;have e0a:(aC.slice 3 (rQ x)).rep N W10 (a7.tmps.getD 0 undef):=by rw[t0];exact e0
   have e1a:(aC.slice 3 (rQ y)).rep N W10 (a7.tmps.getD 1 undef):=by rw[t1];exact e1
   have e15:(aC.slice 3 (rQ sol)).rep N W10 (a7.tmps.getD 15 undef):=by rw[t15];exact hu
   show Code.wpIn _ _ _ _ _ _ _;refine cn (dK.2 (sY jN.wp (N:=66) (t0:=8) (T:=31) (n:=2) (want:=0) (g:=n0+2) (cur:=#[.slice none 0 0,.slice none 0 0]) (cs:=uy) (ins:=[(0,.v none),(1,.v none),(15,.v none)]) (xs:=[.v (.one (sQ x)),.v (.one (sQ y)),.v (.one (sQ sol))]) fo ⟨rfl,rfl,rfl,trivial⟩ (cz9 x y sol A hA1 hA hx hy hsf h2 hxy hxs hsh) aS hF10 hg8 hsz7 hdf7 rfl O ⟨e0a,e1a,e15,trivial⟩ t8 hF810 ⟨⟨rfl,rfl⟩,⟨rfl,rfl⟩,trivial⟩ ?_));intro a8 W11 us8 cur3 hag3 hg3 hsz3 hdf3 hr3 hgc3 hrs3 hrep3;have hus:=bA hr3;subst hus;have h9:a8.tmps.getD 9 undef=.int .i64 0:=hrs3.1.1;have hl3:=hrep3.length;have k8:a8.tmps.getD 8 undef=.pointer (some ⟨n0+2,0,none⟩):=(aO hag3 8 aS).trans t8;have hcl:cur3.toList.length=2:=hl3.symm;have h31:(prog.underlying 31).any (fun d=>match d with | .struct _ | .array _ _=>true | _=>false)=true:=aS
   have hi31:(prog.info? 31).map (·.size)=some 2:=aS
   obtain⟨d31,hu31,hd31⟩:=(Ch _ _).1 h31;have hi3:(prog.info? 31).map (·.size)=some cur3.size:=by rw[show cur3.size=2 by rw[<-cK];exact hcl];exact hi31
   have hlv:(loadVar 31 ⟨n0+2,0,none⟩).run prog W11=.ok (.agg cur3) W11:=by
    cases d31 with
    | struct f=>exact BA W11 (n0+2) 31 31 cur3 (0,0) _ hgc3 hu31 rfl hi3
    | array l e=>exact BA W11 (n0+2) 31 31 cur3 (0,0) _ hgc3 hu31 rfl hi3
    | _=>cases hd31
   have hres:(results f50 a8.tmps).run prog W11=.ok (pack [.agg cur3,.int .i64 0]) W11:=by
    rw[results_cell_tmp rfl,k8];simp[asAddr,hlv,h9,Result.andThen,pack]
   refine wpIn_ret ?_;refine gB hres hdf3 ⟨?_,[_,_],rfl,⟨cur3.toList,aT,?_⟩,⟨rfl,rfl⟩,trivial⟩
   .refine⟨hg3.os.trans hB10.os,hg3.tape.trans hB10.tape,hg3.output.trans hB10.output,bG hB10.size hg3.size,fun k hk=>(hg3.block k (by have:=hB10.size;omega) (fun e=>by have:=cI e;omega)).trans (hB10.block k hk)⟩
   .exact hrep3.mono fun k o hk ho _=>⟨fun h=>hk (hMN k h),ho⟩
 | [],hv=>exact hv.elim
 | [_],hv=>exact hv.2.elim
 | [_,_],hv=>exact hv.2.2.elim
 | [_,_,_],hv=>exact hv.2.2.2.elim
 | _::_::_::_::_::_,hv=>exact hv.2.2.2.2.elim
end Go.Sy
