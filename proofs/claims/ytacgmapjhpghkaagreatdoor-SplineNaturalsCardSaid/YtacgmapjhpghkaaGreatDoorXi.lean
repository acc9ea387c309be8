/- Part. -/
import Derived.Test.YtacgmapjhpghkaaGreatDoorXh
set_option linter.all false
set_option maxHeartbeats 1000000
set_option maxRecDepth 100000
namespace Go.Sy
open Go Go.Proofs Go.RowKit Tryz Ord
section
variable{T E sz by_:Nat}{z:j0}{o:Oper}{a:Act}{w:World}{K:j4}{Q:iN}
def aa6(el:dZ prog T=some (E,sz,by_))(hz:jm prog E=some z)(hpos:0<sz){x y:j6}(ho:o.op=.call { callee:=.builtin .append,args:=#[x,y],argTypes:=#[T,T] }){M:c6}{base n:Nat}{v u:Value}{xs:j0}{us:List (List aC)}(hx:a.eval x=v)(hy:a.eval y=u)(hown:w.ownsRow base E sz v n xs)(hs:Src w M sz us u)(h0:0<us.length)(hm:n+us.length<=1000000)(hby:by_<=1000)(hb:base<=w.heap.size)
  (hK:∀v' w' news,w'.ownsRow base E sz v' (n+us.length) (xs++news)->w.grownBy w' v.ownBlock->an M w us.flatten news->(v'.ownBlock=v.ownBlock\/v'.ownBlock=some w.heap.size)->K (a.put o.dst v') w'):o.wp prog a w K Q:=by
 obtain⟨ie,hu,hie,hies,hieb⟩:=br el;obtain⟨i,zv,hi,hzz,hzc,_,hzs⟩:=ed hz;rw[hie]at hi;simp only[aZ]at hi;subst hi;have hbb:=fP hm hby;cases hs with
 | nil c hv hus=>subst hus;simp at h0
 | some ad c news hv hl hn hr hsn=>
   obtain⟨v',w',h1,h2,h3,_,h5⟩:=run_append_own_at (P:=prog) (w:=w) base T o.type E ie zv sz by_ hu hie hzz hies hieb (by rw[hzs,hies]) hpos v n xs hown ad us.length c news hl hn hr.one (by simp only[maxLen];omega) O hb;refine bF (v:=v') (w':=w') ?_ (hK v' w' news h2 h3 hr h5);rw[<-hv]at h1;simp[execOp,ho,resolve,invoke,builtin,hx,hy,h1,Result.andThen]
def aG5(el:dZ prog T=some (E,sz,by_))(hz:jm prog E=some z)(hpos:0<sz)(hsm:sz<=1000){x:j6}(ho:o.op=.buildSlice T 1 #[(0,x)])(hl:(a.eval x).cells.size=sz)
  (hK:K (a.put o.dst (.slice (some ⟨w.heap.size,0,none⟩) 1 1)) (w.alloc (.cells (a.eval x).cells E))):o.wp prog a w K Q:=by
 obtain⟨ie,hu,hie,hies,hieb⟩:=br el;obtain⟨i,zv,hi,hzz,hzc,_,hzs⟩:=ed hz;rw[hie]at hi;simp only[aZ]at hi;subst hi;have hf:=as6 hpos [a.eval x] ((Array.range (1*sz)).map (zv.cells[· % zv.cells.size]!)) (by intro v hv;rw[da.1 hv];exact hl) aT;have hrun:=RT (P:=prog) w T E 1 #[(0,a.eval x)] _ ie zv hu hie hzz (by rw[hies];omega) (by rw[hies];omega) (by rw[hies];exact hf);have e:([a.eval x].flatMap fun v=>v.cells.toList).toArray=(a.eval x).cells:=aT
 rw[e]at hrun;refine bF ?_ hK;simp[execOp,ho,gC,hrun]
end
noncomputable def jA:Array Oper:=match aH [1,1,1,0,1,0,0,1,0,0] (aM f128)with
 | .region _ ops _=>ops
 | _=>#[]
def ct1:List Nat:=List.range' 23 14
def br3:Xw jA.toList ct1 163=true:=aS
def Ro(D:c6)(n1:Nat)(l:List RQ)(W:World)(v:Value):Prop:=∃xs,W.ownsRow n1 51 4 v l.length xs/\an D W (rR l).flatten xs
def rz{base E sz n:Nat}{v:Value}{xs:j0}{W W':World}(h:W.ownsRow base E sz v n xs)(hn:∀(k:Nat)(o:Obj),v.ownBlock=some k->base<=k->W.heap[k]?=some o->W'.heap[k]?=some o):W'.ownsRow base E sz v n xs:=by
 refine⟨h.1,?_⟩;rcases h.2 with hn' | ⟨g,cap,cur,e,hbg,hg,rest⟩
 .exact .inl hn'
 .exact .inr ⟨g,cap,cur,e,hbg,hn g _ (by rw[e];rfl) hbg hg,rest⟩
def Ro.st{D:c6}{n1:Nat}{l:List RQ}{W W':World}{v:Value}(h:Ro D n1 l W v)(hk:av D W D W')(hn:∀(k:Nat)(o:Obj),n1<=k->W.heap[k]?=some o->W'.heap[k]?=some o):Ro D n1 l W' v:=by
 obtain⟨xs,h1,h2⟩:=h;exact⟨xs,rz h1 fun k o _ hk ho=>hn k o hk ho,h2.mono hk⟩
def sy(D:c6)(n0 n1:Nat)(va v0 v1:Value)(i:Nat)(r:List RQ)(x:RQ)(vs:j0):Ps
 | 0,_,_,v=>v=va
 | 1,_,_,v=>v=v0
 | 2,_,_,v=>v=.int .i64 (i:Int)
 | 3,_,W,v=>(aQ.one (.aw (cR r))).rep D W v
 | 4,_,W,v=>(aQ.one (sR r)).rep D W v
 | 5,L,W,v=>L 11=true\/Ro D n1 r W v
 | 6,_,_,v=>v=v1
 | 7,_,_,v=>v=.int .i64 (i:Int)
 | 8,_,W,v=>(aQ.one (.aw (rC x))).rep D W v
 | 9,_,W,v=>(jl x).rep D W v
 | 10,L,W,v=>L 11=true\/∃(c:Nat)(us:j0),v=.slice (some ⟨c,0,none⟩) 1 1/\n1<=c/\W.heap[c]?=some (.cells us.toArray 51 (0,0))/\an D W (rC x) us
 | 11,L,W,v=>(L 5=true/\L 10=true)/\(L 13=true\/Ro D n1 (r++[x]) W v)
 | 12,L,W,v=>L 11=true/\(L 13=true\/∃(c:Nat)(u:Value),v=.slice (some ⟨c,0,none⟩) 1 1/\n1<=c/\W.heap[c]?=some (.cells #[u] 32 (0,0))/\Ro D n1 (r++[x]) W u)
 | 13,L,W,v=>(L 5=true/\L 10=true/\L 11=true/\L 12=true)/\∃u,Ro D n1 (r++[x]) W u/\W.ownsRow n0 32 1 v (i+1) (vs++[u])/\∀g,v.ownBlock=some g->va.ownBlock=some g\/(n1<=g/\u.ownBlock≠some g)
 | _+14,_,_,_=>True
section
variable{D:c6}{n0 n1 i:Nat}{va v0 v1:Value}{r:List RQ}{x:RQ}{vs:j0}{L L':c9}{W W':World}
theorem UH{q:Nat}(hk:av D W D W')(h5:∀v,sy D n0 n1 va v0 v1 i r x vs 5 L W v->sy D n0 n1 va v0 v1 i r x vs 5 L' W' v)(h10:∀v,sy D n0 n1 va v0 v1 i r x vs 10 L W v->sy D n0 n1 va v0 v1 i r x vs 10 L' W' v)(h11:11≠q->∀v,sy D n0 n1 va v0 v1 i r x vs 11 L W v->sy D n0 n1 va v0 v1 i r x vs 11 L' W' v)(h12:∀v,sy D n0 n1 va v0 v1 i r x vs 12 L W v->sy D n0 n1 va v0 v1 i r x vs 12 L' W' v)(h13:13≠q->∀v,sy D n0 n1 va v0 v1 i r x vs 13 L W v->sy D n0 n1 va v0 v1 i r x vs 13 L' W' v):∀(j:Nat)(v:Value),j≠q->sy D n0 n1 va v0 v1 i r x vs j L W v->sy D n0 n1 va v0 v1 i r x vs j L' W' v
 | 0,_,_,h=>h
 | 1,_,_,h=>h
 | 2,_,_,h=>h
 | 3,v,_,h=>show(aQ.one (.aw (cR r))).rep D W' v from aQ.hU hk h
 | 4,v,_,h=>show(aQ.one (sR r)).rep D W' v from aQ.hU hk h
 | 5,v,_,h=>h5 v h
 | 6,_,_,h=>h
 | 7,_,_,h=>h
 | 8,v,_,h=>show(aQ.one (.aw (rC x))).rep D W' v from aQ.hU hk h
 | 9,v,_,h=>show(jl x).rep D W' v from aQ.hU hk h
 | 10,v,_,h=>h10 v h
 | 11,v,hq,h=>h11 hq v h
 | 12,v,_,h=>h12 v h
 | 13,v,hq,h=>h13 hq v h
 | _+14,_,_,_=>trivial
def Wo{q:Nat}(hL:∀x,L x=true->L' x=true)(hk:av D W D W')(hn:∀(k:Nat)(o:Obj),n1<=k->W.heap[k]?=some o->W'.heap[k]?=some o)(h13:L 5=true->L 10=true->L 12=true->W'=W):∀(j:Nat)(v:Value),j≠q->sy D n0 n1 va v0 v1 i r x vs j L W v->sy D n0 n1 va v0 v1 i r x vs j L' W' v:=
 UH hk (fun _ h=>h.imp (hL 11) fun h=>h.st hk hn) (fun _ h=>h.imp (hL 11) fun⟨c,us,h1,h2,h3,h4⟩=>⟨c,us,h1,h2,hn c _ h2 h3,h4.mono hk⟩) (fun _ _ h=>⟨⟨hL _ h.1.1,hL _ h.1.2⟩,h.2.imp (hL 13) fun h=>h.st hk hn⟩)
  (fun _ h=>⟨hL 11 h.1,h.2.imp (hL 13) fun⟨c,u,h1,h2,h3,h4⟩=>⟨c,u,h1,h2,hn c _ h2 h3,h4.st hk hn⟩⟩) fun _ _ h=>by
   obtain⟨⟨h1,h2,h3,h4⟩,h5⟩:=h;obtain rfl:=h13 h1 h2 h4;exact⟨⟨hL _ h1,hL _ h2,hL _ h3,hL _ h4⟩,h5⟩
end
def pE{L:c9}{i j:Nat}(h:L j=true):Lx L i j=true:=by simp[Lx,h]
def YF{L:c9}{i:Nat}:Lx L i i=true:=aT
def ad0{M:c6}{w W1:World}{a1:Act}{Q:iN}{va v0 v1:Value}{i:Nat}{A:List (List RQ)}{C:List RQ}{r:List RQ}{x:RQ}{vs:j0}(hM:bf M w)(hw:Below w.heap.size w W1)(e0:(eR A).rep M w v0)(e1:(sR C).rep M w v1)(hr:A[i]?=some r)(hx:C[i]?=some x)
  (hown:W1.ownsRow w.heap.size 32 1 va i vs) (hsz:a1.tmps.size=163) (hdf:a1.defers=[]) (t0:a1.tmps.getD 0 undef=v0) (t1:a1.tmps.getD 1 undef=v1) (t7:a1.tmps.getD 7 undef=va) (t8:a1.tmps.getD 8 undef=.int .i64 (i:Int))
  (hQ:∀(a':Act)(W2:World)(v' u:Value)(b:Nat),a'.tmps.size=163->a'.defers=[]->(∀t,t<23->t≠7->a'.tmps.getD t undef=a1.tmps.getD t undef)->a'.tmps.getD 7 undef=v'->W1.grownBy W2 va.ownBlock->W2.ownsRow w.heap.size 32 1 v' (i+1) (vs++[u])->W1.heap.size<=b->oe 51 4 (rR (r++[x])) (fun k=>M k\/w.heap.size<=k) W2 u b->(∀g,v'.ownBlock=some g->g≠b/\(va.ownBlock=some g\/W1.heap.size<=g))->Q .normal a' W2) (hr0:0<r.length:=by omega) (hrs:r.length<=10000:=by omega) (his:i<=10000:=by omega):(Code.region 6 jA true).wp prog Q a1 W1:=by
 obtain⟨n0,hn0⟩:∃n0,w.heap.size=n0:=⟨_,rfl⟩
 obtain⟨n1,hn1⟩:∃n1,W1.heap.size=n1:=⟨_,rfl⟩
 obtain⟨D,hD⟩:∃D:Nat->Prop,D=fun k=>M k\/n0<=k:=⟨_,rfl⟩
 rw[hn0]at hown hQ;rw[hn1,<-hD]at hQ;have hn01:n0<=n1:=by rw[<-hn0,<-hn1];exact hw.size
 have hvg:∀g,va.ownBlock=some g->n0<=g/\g<n1:=fun g h=>by rw[<-hn1];exact hown.lt g h
 have hlow:∀{W},W1.grownBy W va.ownBlock->∀k,k<n0->W.heap[k]?=w.heap[k]?:=fun {W} hg k hk=>(hg.block k O fun e=>by have:=hvg k e.symm;omega).trans (hw.block k O)
 have k0:∀{W},W1.grownBy W va.ownBlock->av M w D W:=fun {W} hg k o hk ho _=>by
  have hlt:=(cJ.1 ho).1;rw[hD];exact⟨fun h=>h.elim hk O,(hlow hg k O).trans ho⟩
 have kd:∀{W W'},W1.grownBy W va.ownBlock->W1.grownBy W' va.ownBlock->av D W D W':=fun {W W'} h h' k o hk ho _=>by
  rw[hD]at hk;have hlt:k<n0:=Rs fun e=>hk (.inr e);exact⟨by rw[hD];exact hk,(hlow h' k hlt).trans ((hlow h k hlt).symm.trans ho)⟩
 have hpre:∀t,t<23->t ∉ ct1:=fun t ht h=>by have:=UD.1 h;omega
 refine wB (B:=fun L _ W=>W1.grownBy W va.ownBlock/\(L 13=false->Below n1 W1 W)) (p:=sy D n0 n1 va v0 v1 i r x vs) br3 hsz hdf (fun _ _=>⟨⟨rfl,rfl,rfl,ah _,fun _ _ _=>rfl⟩,fun _=>⟨rfl,rfl,rfl,ah _,fun _ _=>rfl⟩⟩) ?_ ?_
 .intro q d o L a W ho hd hL hdep I K hK;have hq:q<14:=(cL.1 hd).1;obtain⟨hg,hb⟩:=I.w;have hWs:n1<=W.heap.size:=by rw[<-hn1];exact hg.size
  have kp:∀t,t<23->a.tmps.getD t undef=a1.tmps.getD t undef:=fun t ht=>I.dJ t (hpre t ht);have l13:∀{q},q≠13->Lx L q 13=false->L 13=false:=fun hq h=>by simpa[Lx,jg hq]using h
  have rd:∀{v:Value},q≠13->(execOp a.eval o).run prog W=.ok (.value v) W->sy D n0 n1 va v0 v1 i r x vs q (Lx L q) W v->o.wp prog a W K Q:=fun hq h hv=>bF h (hK _ W ⟨hg,fun h=>hb (l13 hq h)⟩ hv fun j u hj _ h=>Wo (fun _=>pE) (kd hg hg) (fun _ _ _ h=>h) (fun _ _ _=>rfl) j u hj h)
  have pr:∀{op:Op}{ty:Nat}{args:List aQ}{c:aQ},q≠13->ao prog op ty args c->o.op=op->o.type=ty->cC D W args (op.operands.toList.map a.eval)->(∀v,c.rep D W v->sy D n0 n1 va v0 v1 i r x vs q (Lx L q) W v)->o.wp prog a W K Q:=fun hq hp h1 h2 h3 h4=>by
   obtain⟨v,hv,hr⟩:=hp D W a.eval o h1 h2 h3;exact rd hq hv (h4 v hr)
  have nw:∀{v:Value}{W':World},q=5\/q=10\/q=12->Below W.heap.size W W'->(W1.grownBy W' va.ownBlock->sy D n0 n1 va v0 v1 i r x vs q (Lx L q) W' v)->K (a.put o.dst v) W':=fun {v W'} hq hbw hv=>by
   have hg':W1.grownBy W' va.ownBlock:=⟨hbw.os.trans hg.os,hbw.tape.trans hg.tape,hbw.output.trans hg.output,bG hg.size hbw.size,fun k hk hne=>(hbw.block k O).trans (hg.block k hk hne)⟩
   refine hK v W' ⟨hg',fun h=>(hb (l13 O h)).trans (hbw.mono hWs)⟩ (hv hg') fun j u hj _ h=>Wo (fun _=>pE) (kd hg hg') (fun k o _ ho=>(hbw.block k (cJ.1 ho).1).trans ho) (fun h1 h2 h3=>?_) j u hj h;rcases hq with rfl | rfl | rfl
   .rw[hL]at h1;cases h1
   .rw[hL]at h2;cases h2
   .rw[hL]at h3;cases h3
  match q,hq with
  | 0,_=>
    obtain rfl:=mB ho (rfl:jA[0]?=some _);exact rd O rfl ((kp 7 O).trans t7)
  | 1,_=>
    obtain rfl:=mB ho (rfl:jA[1]?=some _);exact rd O rfl ((kp 0 O).trans t0)
  | 2,_=>
    obtain rfl:=mB ho (rfl:jA[2]?=some _);exact rd O rfl ((kp 8 O).trans t8)
  | 3,_=>
    obtain rfl:=mB ho (rfl:jA[3]?=some _);have h1:a.tmps.getD 24 undef=v0:=I.done 1 24 rfl (hdep 1 bY);have h2:a.tmps.getD 25 undef=.int .i64 (i:Int):=I.done 2 25 rfl (hdep 2 bY);refine pr O (aN (f:=cR) vC (x:=.tmp 24) (y:=.tmp 25) (m:=i) O (bI i) hr) rfl rfl ⟨?_,⟨h2,rfl⟩,trivial⟩ fun v hv=>hv;show(eR A).rep D W (a.tmps.getD 24 undef);rw[h1];exact aC.mono _ (k0 hg) e0
  | 4,_=>
    obtain rfl:=mB ho (rfl:jA[4]?=some _);exact pr O (bq (x:=.tmp 26) (c:=sR r) (show mF prog 32=some (false,1) by kernel_rfl)) rfl rfl ⟨I.done 3 26 rfl (hdep 3 bY),trivial⟩ fun v hv=>hv
  | 5,_=>
    obtain rfl:=mB ho (rfl:jA[5]?=some _);have h4:(sR r).rep D W (a.tmps.getD 27 undef):=I.done 4 27 rfl (hdep 4 bY);refine aa6 jK (show jm prog 51=some [.int .i64 0,.slice none 0 0,.int .i64 0,.slice none 0 0] by kernel_rfl) bY rfl (x:=.const (.slice none 0 0)) (y:=.tmp 27) (base:=n1) rfl rfl (pY _ _ _ _) (rE h4) (by rw[aL];exact hr0) (by rw[aL];omega) bY hWs fun v' w' news h1 h2 h3 h5=>?_;have hbw:Below W.heap.size W w':=⟨h2.os,h2.tape,h2.output,h2.size,fun k hk=>h2.block k hk fun e=>by cases e⟩
    exact nw (.inl rfl) hbw fun hg'=>.inr ⟨news,by rw[aL,bW]at h1;exact h1,h3.mono (kd hg hg')⟩
  | 6,_=>
    obtain rfl:=mB ho (rfl:jA[6]?=some _);exact rd O rfl ((kp 1 O).trans t1)
  | 7,_=>
    obtain rfl:=mB ho (rfl:jA[7]?=some _);exact rd O rfl ((kp 8 O).trans t8)
  | 8,_=>
    obtain rfl:=mB ho (rfl:jA[8]?=some _);have h1:a.tmps.getD 29 undef=v1:=I.done 6 29 rfl (hdep 6 bY);have h2:a.tmps.getD 30 undef=.int .i64 (i:Int):=I.done 7 30 rfl (hdep 7 bY);refine pr O (aN (f:=rC) jK (x:=.tmp 29) (y:=.tmp 30) (m:=i) O (bI i) hx) rfl rfl ⟨?_,⟨h2,rfl⟩,trivial⟩ fun v hv=>hv;show(sR C).rep D W (a.tmps.getD 29 undef);rw[h1];exact aC.mono _ (k0 hg) e1
  | 9,_=>
    obtain rfl:=mB ho (rfl:jA[9]?=some _);exact pr O (ab (x:=.tmp 31) (cells:=rC x) ag4 bY (ah _) (.inl rfl)) rfl rfl ⟨I.done 8 31 rfl (hdep 8 bY),trivial⟩ fun v hv=>hv
  | 10,_=>
    obtain rfl:=mB ho (rfl:jA[10]?=some _);obtain⟨us,hu,hur⟩:(jl x).rep D W (a.tmps.getD 32 undef):=I.done 9 32 rfl (hdep 9 bY);have hc:(a.eval (.tmp 32)).cells=us.toArray:=by show(a.tmps.getD 32 undef).cells=_;rw[hu];rfl
    refine aG5 jK (show jm prog 51=some [.int .i64 0,.slice none 0 0,.int .i64 0,.slice none 0 0] by kernel_rfl) bY bY rfl (x:=.tmp 32) (by rw[hc,cq];exact hur.length.symm) ?_;rw[hc];exact nw (.inr (.inl rfl)) ((cS _ _).alloc (ah _) _) fun hg'=>.inr ⟨_,us,rfl,hWs,cr W _,hur.mono (kd hg hg')⟩
  | 11,_=>
    obtain rfl:=mB ho (rfl:jA[11]?=some _);have h5:=hdep 5 bY;have h10:=hdep 10 bY;have hn:∀{P:Prop},L 11=true\/P->P:=fun h=>h.resolve_left fun h=>by rw[hL]at h;cases h
    obtain⟨xs,ho5,hr5⟩:=hn (I.done 5 28 rfl h5);obtain⟨c,us,hv,hc,hcell,hur⟩:=hn (I.done 10 33 rfl h10);refine aa6 jK (show jm prog 51=some [.int .i64 0,.slice none 0 0,.int .i64 0,.slice none 0 0] by kernel_rfl) bY rfl (x:=.tmp 28) (y:=.tmp 33) (M:=D) (us:=[rC x]) rfl rfl ho5 (.some ⟨c,0,none⟩ 1 us hv hur.length.symm (fun j u hj=>by rw[lO,bW];exact bH hcell (by simpa using hj)) (by simpa using hur) (fun t ht=>by rw[da.1 ht];rfl)) Nat.zero_lt_one (by show r.length+1<=_;omega) bY hWs fun v' w' news h1 h2 h3 _=>?_;have hne:∀k,(a.tmps.getD 28 undef).ownBlock=some k->n1<=k:=fun k h=>(ho5.lt k h).1
    have hb':Below n1 W1 w':=(hb (by
     cases h13:L 13 with
     | false=>rfl
     | true=>have:=(I.done 13 36 rfl h13).1.2.2.1;rw[hL]at this;cases this)).trans ⟨h2.os,h2.tape,h2.output,h2.size,fun k hk=>h2.block k O fun e=>by have:=hne k e.symm;omega⟩
    have hg':W1.grownBy w' va.ownBlock:=⟨hb'.os,hb'.tape,hb'.output,by have:=h2.size;omega,fun k hk _=>hb'.block k O⟩
    refine hK v' w' ⟨hg',fun _=>hb'⟩ ⟨⟨pE h5,pE h10⟩,.inr ⟨xs++news,by rw[cF];exact h1,?_⟩⟩ fun j u hj _ h=>UH (kd hg hg') (fun _ _=>.inl YF) (fun _ _=>.inl YF) (fun h=>absurd rfl h) (fun _ h=>(by have:=h.1;rw[hL]at this;cases this)) (fun _ _ h=>(by have:=h.1.2.2.1;rw[hL]at this;cases this)) j u hj h;rw[rR,cG,lH];exact(hr5.append h3).mono (kd hg hg')
  | 12,_=>
    obtain rfl:=mB ho (rfl:jA[12]?=some _)
    have h13:L 13=false:=by
     cases h13:L 13 with
     | false=>rfl
     | true=>have:=(I.done 13 36 rfl h13).1.2.2.2;rw[hL]at this;cases this
    have h11:=hdep 11 bY;have hro:Ro D n1 (r++[x]) W (a.tmps.getD 34 undef):=(I.done 11 34 rfl h11).2.resolve_left fun h=>by rw[h13]at h;cases h
    obtain⟨g,n,cap,hu⟩:∃g n cap,a.tmps.getD 34 undef=.slice (some ⟨g,0,none⟩) n cap:=by
     obtain⟨xs,ho',_⟩:=hro;rcases ho'.2 with⟨_,h0⟩ | ⟨g,cap,cur,e,_⟩
     .rw[cF]at h0;simp at h0
     .exact⟨g,_,cap,e⟩
    have hc:(a.eval (.tmp 34)).cells=#[a.tmps.getD 34 undef]:=by show(a.tmps.getD 34 undef).cells=_;rw[hu];rfl
    refine aG5 vC (show jm prog 32=some [.slice none 0 0] by kernel_rfl) bY bY rfl (x:=.tmp 34) (by rw[hc];rfl) ?_;rw[hc];exact nw (.inr (.inr rfl)) ((cS _ _).alloc (ah _) _) fun hg'=>⟨pE h11,.inr ⟨_,_,rfl,hWs,cr W _,hro.st (kd hg hg') fun k o hk ho=>(dB _ _ _ (cJ.1 ho).1).trans ho⟩⟩
  | 13,_=>
    obtain rfl:=mB ho (rfl:jA[13]?=some _);have h11:=hdep 11 bY;have h12:=hdep 12 bY;obtain⟨⟨f5,f10⟩,_⟩:=I.done 11 34 rfl h11;obtain⟨c,u,hv,hc,hcell,hro⟩:=(I.done 12 35 rfl h12).2.resolve_left fun h=>by rw[hL]at h;cases h
    have hbw:=hb hL;have h0:a.tmps.getD 23 undef=va:=I.done 0 23 rfl (hdep 0 bY);have hownW:W.ownsRow n0 32 1 va i vs:=rz hown fun k o hk _ ho=>(hbw.block k (hvg k hk).2).trans ho
    obtain⟨b,hub,hbl⟩:∃b,u.ownBlock=some b/\n1<=b/\b<W.heap.size:=by
     obtain⟨xs,ho',_⟩:=hro;have hlt:=ho'.lt;rcases ho'.2 with⟨_,h0⟩ | ⟨g,cap,cur,e,_⟩
     .rw[cF]at h0;simp at h0
     .exact⟨g,by rw[e];rfl,hlt g (by rw[e];rfl)⟩
    have hu1:u.oneCell'=true:=by
     cases u<;>first | rfl | cases hub
    refine aa6 vC (show jm prog 32=some [.slice none 0 0] by kernel_rfl) bY rfl (x:=.tmp 23) (y:=.tmp 35) (M:=D) (us:=[xV u]) h0 rfl hownW (.some ⟨c,0,none⟩ 1 [u] hv rfl (fun j u' hj=>by rw[lO,bW];exact bH hcell (by simpa using hj)) ⟨⟨rfl,hu1⟩,trivial⟩ (fun t ht=>by rw[da.1 ht];rfl)) Nat.zero_lt_one (by show i+1<=_;omega) bY O fun v' w' news h1 h2 h3 h5=>?_;obtain rfl:=Ry (vs:=[u]) h3;have hg':W1.grownBy w' va.ownBlock:=⟨h2.os.trans hg.os,h2.tape.trans hg.tape,h2.output.trans hg.output,bG hg.size h2.size,fun k hk hne=>(h2.block k O hne).trans (hg.block k hk hne)⟩
    refine hK v' w' ⟨hg',fun h=>by rw[YF]at h;cases h⟩ ⟨⟨pE f5,pE f10,pE h11,pE h12⟩,u,hro.st (kd hg hg') (fun k o hk ho=>(h2.block k (cJ.1 ho).1 fun e=>by have:=(hvg k e.symm).2;omega).trans ho),h1,fun g hg2=>?_⟩ fun j u' hj _ h=>UH (kd hg hg') (fun _ _=>.inl (pE h11)) (fun _ _=>.inl (pE h11)) (fun _ _ h=>⟨⟨pE h.1.1,pE h.1.2⟩,.inl YF⟩) (fun _ h=>⟨pE h.1,.inl YF⟩) (fun h=>absurd rfl h) j u' hj h;rcases h5 with h5 | h5
    .exact .inl (h5▸hg2)
    .rw[h5]at hg2;obtain rfl:=cI hg2;exact .inr ⟨hWs,fun e=>by rw[hub]at e;have:=cI e;omega⟩
 .intro o L a W ho hall I;obtain rfl:=mB ho (rfl:jA[14]?=some _);obtain⟨hg,_⟩:=I.w;obtain⟨_,u,⟨xs,hou,hur⟩,hov,hvb⟩:=I.done 13 36 rfl (hall 13 bY);have hp:∀t v,(a.put (some 7) v).tmps.getD t undef=if t=7 then v else a.tmps.getD t undef:=fun t v=>oQ (by rw[I.sz];omega)
  rcases hou.2 with⟨_,h0⟩ | ⟨b,cap,cur,e,hb1,hbc,hbn,hbm,hbs,hbt⟩
  .rw[cF]at h0;simp at h0
  refine bF rfl (hQ _ W (a.tmps.getD 36 undef) u b (by show(a.tmps.setIfInBounds _ _).size=_;rw[ue];exact I.sz) I.df (fun t ht hne=>((hp t _).trans (aG hne)).trans (I.dJ t (hpre t ht))) ((hp 7 _).trans (aF rfl)) hg hov hb1 ⟨fun t ht=>?_,cap,cur,by rw[aL];exact e,hbc,by rw[aL];exact hbn,hbm,hbs.symm,by rw[aL,hbt];exact hur⟩ fun g hg2=>?_)
  .obtain⟨y,_,rfl⟩:=dm.1 ht;rfl
  .rcases hvb g hg2 with h | ⟨h,h'⟩
   .exact⟨fun e'=>by have:=(hvg g h).2;omega,.inl h⟩
   .exact⟨fun e'=>h' (by rw[e,e'];rfl),.inr h⟩
def qs(rk:List (List RQ)):List (List Rat):=rk.map fun r=>r.map RQ.q
def qv{rk:List (List RQ)}{i:Nat}{r:List RQ}(h:rk[i]?=some r):(qs rk)[i]?=some (r.map RQ.q):=by rw[qs,dR,h];rfl
def ad3(rk:List (List RQ))(i:Nat)(r:List RQ):qs (rk.set i r)=(qs rk).set i (r.map RQ.q):=pR
def ga(r:List RQ)(j:Nat):(r.map RQ.q).getD j 0=(r.getD j RQ.nil).q:=by
 rw[fI,fI,dR];cases r[j]? <;> rfl
def Cj{rk:List (List RQ)}{i:Nat}{r:List RQ}(h:rk[i]?=some r):(qs rk).getD i []=r.map RQ.q:=by rw[fI,qv h];rfl
def bu6{rk:List (List RQ)}{k i:Nat}{x y:List RQ}(hx:rk[k]?=some x)(hy:rk[i]?=some y):qs (gi rk i k y x)=fT (qs rk) k i:=by
 rw[fT,Cj hx,Cj hy,gi,ad3,ad3];by_cases e:i=k
 .subst e;rw[hx]at hy;cases hy;rfl
 .exact List.set_comm _ _ e
def AE(A:List (List RQ))(C:List RQ):List (List RQ):=(A.zip C).map fun p=>p.1++[p.2]
def bm2(A:List (List RQ))(C:List RQ):qs (AE A C)=rowsOf A C:=by
 rw[qs,AE,rowsOf,ey];exact kY fun p _=>by show(p.1++[p.2]).map RQ.q=_;rw[cG];rfl
def bg6{A:List (List RQ)}{C:List RQ}{i:Nat}{r:List RQ}{x:RQ}(hr:A[i]?=some r)(hx:C[i]?=some x):(AE A C)[i]?=some (r++[x]):=by
 rw[AE,dR,(List.getElem?_zip_eq_some (z:=(r,x))).2 ⟨hr,hx⟩];rfl
section
variable{D N:c6}{va:Value}{m:Nat}{vs:j0}{bs:c7}{rk:List (List RQ)}{W W':World}
def Tb.swap(h:Tb D va m vs bs rk W){g cap k i bx by':Nat}{x y:Value}{p q:List RQ}{E:c6}{cur cur':iS}(hva:va=.slice (some ⟨g,0,none⟩) m cap)(hx:vs[k]?=some x)(hy:vs[i]?=some y)(hbx:bs[k]?=some bx)(hby:bs[i]?=some by')(hp:rk[k]?=some p)(hq:rk[i]?=some q)
  (hW:W.grownBy W' (some g)) (hc:W.heap[g]?=some (.cells cur 32 (0,0))) (hc':W'.heap[g]?=some (.cells cur' 32 (0,0))) (hs:cur'.size=cur.size) (hrep:an E W' ((gi vs i k y x).map xV).flatten (cur'.toList.take m)):Tb D va m (gi vs i k y x) (gi bs i k by' bx) (gi rk i k q p) W':=by
 have hlv:=h.lv;have hlr:=h.lr;have hlb:=h.lb;have hdg:=h.dg g (by rw[hva];rfl)
 have hmem:∀b∈gi bs i k by' bx,b∈bs:=fun b hb=>by
  obtain⟨j,hj⟩:=kJ hb;rw[fZ hby hbx]at hj;exact dc hj
 refine⟨⟨by rw[ji];omega,?_⟩,by rw[ji];exact hlr,by rw[ji];exact hlb,?_,fun j v b r e1 e2 e3=>?_,fun b hb=>h.db b (hmem b hb),fun g' hg'=>⟨(h.dg g' hg').1,fun e=>(h.dg g' hg').2 (hmem _ e)⟩⟩
 .rcases h.own.2 with⟨e,_⟩ | ⟨g',cap',cur0,e,_,hg,h1,h2,h3,_⟩
  .rw[hva]at e;cases e
  .rw[hva]at e;simp only[jB,aZ,gm,cu,mQ]at e;obtain⟨rfl,rfl⟩:=e;rw[hc]at hg;simp only[aZ,jj,cu]at hg;subst hg;exact .inr ⟨g,cap,cur',hva,dM _,hc',h1,h2,hs.trans h3,by rw[eG];exact Ry hrep⟩
 .intro a b c e1 e2;rw[fZ hby hbx]at e1 e2;exact aT1 (h.inj _ _ _ e1 e2)
 .rw[fZ hy hx]at e1;rw[fZ hby hbx]at e2;rw[fZ hq hp]at e3;have hbm:=dc e2;exact(h.row _ _ _ _ e1 e2 e3).mono (iP hdg.1 hW) (hW.block b (h.lt (.inl hbm)) fun e=>hdg.2 (cI e▸hbm))
def Tb.snoc(h:Tb D va m vs bs rk W){n0 b:Nat}{u v':Value}{r:List RQ}(hg:W.grownBy W' va.ownBlock)(hD:∀k,n0<=k->D k)(hn:n0<=W.heap.size)(hk:av D W D W')(hown:W'.ownsRow n0 32 1 v' (m+1) (vs++[u]))(hb:W.heap.size<=b)(hr:oe 51 4 (rR r) D W' u b)(hv:∀g,v'.ownBlock=some g->g≠b/\(va.ownBlock=some g\/W.heap.size<=g)):Tb D v' (m+1) (vs++[u]) (bs++[b]) (rk++[r]) W':=by
 have hlv:=h.lv;have hlr:=h.lr;have hlb:=h.lb;have hlt:∀b'∈bs,b'<W.heap.size:=fun b' h'=>h.lt (.inl h');refine⟨xX hown (dM _),by rw[cF,hlr];rfl,by rw[cF,hlb];rfl,fun i j c e1 e2=>?_,fun j v b' r' e1 e2 e3=>?_,fun b' hb'=>?_,fun g hg2=>⟨hD g (hown.lt g hg2).1,fun hgm=>?_⟩⟩
 .have key:∀{i},(bs++[b])[i]?=some c->(i<m/\bs[i]?=some c/\c<W.heap.size)\/(i=m/\c=b):=fun {i} e=>by
   by_cases hi:i<m
   .rw[ek O]at e;exact .inl ⟨hi,e,hlt c (dc e)⟩
   .have:i=m:=by have:=(cL.1 e).1;rw[cF]at this;simp at this;omega
    subst this;rw[fi O,hlb,fE]at e;cases e;exact .inr ⟨rfl,rfl⟩
  rcases key e1 with⟨_,h1,h2⟩ | ⟨h1,h2⟩<;>rcases key e2 with⟨_,k1,k2⟩ | ⟨k1,k2⟩
  .exact h.inj _ _ _ h1 k1
  .omega
  .omega
  .omega
 .by_cases hj:j<m
  .rw[ek O]at e1 e2 e3;have hbm:=dc e2;exact(h.row _ _ _ _ e1 e2 e3).mono hk (hg.block b' (hlt b' hbm) fun e=>(h.dg b' e.symm).2 hbm)
  .have hjm:j=m:=by have:=(cL.1 e2).1;rw[cF]at this;simp at this;omega
   subst hjm;rw[fi O,hlv,fE]at e1;rw[fi O,hlb,fE]at e2;rw[fi O,hlr,fE]at e3;cases e1;cases e2;cases e3;exact hr
 .rcases dx.1 hb' with h' | h'
  .exact h.db b' h'
  .rw[da.1 h'];exact hD b O
 .obtain⟨h1,h2⟩:=hv g hg2;rcases dx.1 hgm with h' | h'
  .rcases h2 with h2 | h2
   .exact(h.dg g h2).2 h'
   .have:=hlt g h';omega
  .exact h1 (da.1 h')
end
structure SJ(D:c6)(w:World)(va:Value)(m c:Nat)(vs:j0)(bs:c7)(rk:List (List RQ))(a:Act)(W:World):Prop where
 sz:a.tmps.size=163
 df:a.defers=[]
 t6:a.tmps.getD 6 undef=.int .i64 (m:Int)
 t7:a.tmps.getD 7 undef=va
 tb:Tb D va c vs bs rk W
 bel:Below w.heap.size w W
def SJ.pc{D N:c6}{w:World}{va:Value}{m n:Nat}{vs:j0}{bs:c7}{rk:List (List RQ)}{a:Act}{W:World}{Q:iN}{c c':Code}{ins:List (Nat×Arg)}{xs:List In}{hints:Nat->Option Hint}{outs:c7}{rs:List aQ}(J:SJ D w va m n vs bs rk a W)(hF:bf N W)(hin:az In.Is (ins.map (·.2)) xs)
  (h:vc prog (fun o=>bD o (.ret rs)) (aj prog 163 hints c' ins (outs.map ResultVar.tmp) none false) (xs.map In.env) []) (hc:c'=c) (h67:(wr c 6 || wr c 7)=false) (hv:cC N W (xs.map In.ty) (ins.map fun p=>a.tmps.getD p.1 undef))
  (hQ:∀a' W',Ag (wr c) a a'->SJ D w va m n vs bs rk a' W'->Below W.heap.size W W'->cC N W' rs (outs.map fun t=>a'.tmps.getD t undef)->Q .normal a' W'):c.wp prog Q a W:=by
 rw[lL]at h67;refine bV jN.wp (n0:=W.heap.size) fo hin (tg h) hc (ah _) hF J.sz J.df hv ?_;intro a' W' us hag hb hsz hdf hr hrep;have hus:=bA hr;subst hus;exact hQ a' W' hag ⟨hsz,hdf,(aO hag 6 h67.1).trans J.t6,(aO hag 7 h67.2).trans J.t7,J.tb.below hb,J.bel.trans (hb.mono J.bel.size)⟩ hb hrep
def Xs{T:b9}{k i:Nat}(h:HI k T=some i):∃p,T[k+i]?=some p/\p.getD k 0≠0/\∀j r,j<i->T[k+j]?=some r->r.getD k 0=0:=by
 obtain⟨hl,h1,h2⟩:=Ta.1 h;have hl':=hl;rw[dF]at hl';refine⟨T[k+i]' O,bM _,?_,fun j r hj hr=>?_⟩
 .rw[QR]at h1
  simpa using h1
 .have:=h2 j hj;rw[QR]at this;obtain⟨hlt,e⟩:=cL.1 hr;rw[e]at this
  simpa using this
def DG(k:Nat)(T:b9):Prop:=∀j r,j<k->T[j]?=some r->r.getD j 0≠0
def aA7{T:b9}{k i j:Nat}(h:j<k)(hi:k<=i):(fT T k i)[j]?=T[j]?:=by
 rw[fT,np O,np O]
def bo5{T:b9}{k i n:Nat}{p:c4}(hd:DG k T)(hi:k<=i)(hp:(fT T k i)[k]?=some p)(h0:p.getD k 0≠0):DG (k+1) (cj k (fT T k i) n):=by
 intro j r hj hr;by_cases e:j=k
 .subst e;rw[mK (.inr rfl) hp]at hr;cases hr;exact h0
 .have hjk:j<k:=O
  rw[gb,aA7 hjk hi,yM]at hr;obtain⟨r1,hr1,rfl⟩:=hr;have h1:=hd j r1 hjk hr1;split
  .unfold eW;split
   .exact h1
   .rw[fI,oy];rw[fI]at h1;cases h2:r1[j]? with
    | none=>rw[h2]at h1;exact absurd rfl h1
    | some a=>rw[h2]at h1;rw[cZ,aG O];exact h1
  .exact h1
def ad2(k:Nat)(p r:c4)(h0:r.getD k 0≠0):pI k p (r.getD k 0/p.getD k 0) r r.length=eW k p r:=by rw[eW,aG h0]
def QS{k:Nat}{p r:c4}(h0:r.getD k 0=0):eW k p r=r:=by rw[eW,aF h0]
noncomputable abbrev cH(p:c7):Code:=aH p (aM f128)
def cA9{D:c6}{w:World}{va:Value}{m:Nat}{vs:j0}{bs:c7}{rk:List (List RQ)}{a:Act}{W:World}{Q:iN}{i k A B:Nat}{r p:List RQ}{f:Rat}(J:SJ D w va m m vs bs rk a W)(hF:bf D W)(hbn:∀b∈bs,w.heap.size<=b)(hr:rk[i]?=some r)(hp:rk[k]?=some p)(hik:i≠k)(hrl:r.length=m+1)(hpl:p.length=m+1)(hkm:k<m)(hms:m<=1000)
  (hfr:∀j,Fit A (r.getD j RQ.nil).q) (hfp:∀j,Fit A (p.getD j RQ.nil).q) (hff:Fit B f) (t9:a.tmps.getD 9 undef=.int .i64 (k:Int)) (t11:a.tmps.getD 11 undef=.int .i64 (i:Int)) (t13:a.tmps.getD 13 undef=.int .i64 (k:Int)) (t12:(aC.aw (rC (.of f))).rep D W (a.tmps.getD 12 undef))
  (hQ:∀(a':Act)(W':World)(r':List RQ),SJ D w va m m vs bs (rk.set i r') a' W'->bf D W'->r'.map RQ.q=pI k (p.map RQ.q) f (r.map RQ.q) (m+1)->a'.tmps.getD 9 undef=.int .i64 (k:Int)->a'.tmps.getD 11 undef=.int .i64 (i:Int)->Q .normal a' W') (hAB:B+A+A<=4294967296:=by omega):(Code.block 8 (.loop (cH [1,1,1,1,0,1,0,0,1,0,0,1,1,1,1,1,0,0,1,0,0,1,1,1,0,0]))).wp prog Q a W:=by
 have hil:=(cL.1 hr).1
 refine nt (xz (fun z a' W'=>∃(j:Nat)(r':List RQ),z=m+1-j/\k<=j/\j<=m+1/\SJ D w va m m vs bs (rk.set i r') a' W'/\bf D W'/\r'.length=m+1/\r'.map RQ.q=pI k (p.map RQ.q) f (r.map RQ.q) j/\a'.tmps.getD 9 undef=.int .i64 (k:Int)/\a'.tmps.getD 11 undef=.int .i64 (i:Int)/\a'.tmps.getD 13 undef=.int .i64 (j:Int)/\(aC.aw (rC (.of f))).rep D W' (a'.tmps.getD 12 undef)) (m+1-k)
  ⟨k,r,rfl,ah _,O,by rw[zZ hr];exact J,hF,hrl,by rw[Fi],t9,t11,t13,t12⟩ ?_)
 clear J hF t9 t11 t13 t12 a W;rintro z a2 W2 ⟨j,r',rfl,hkj,hjm,J2,hF2,hrl2,he,t9,t11,t13,t12⟩;show(Code.seq (Code.seq (cH [1,1,1,1,0,1,0,0,1,0,0,1,1,1,1,1,0,0,1,0,0,1,1,1,0,0,0,0]) (.cond (.tmp 113) .skip (.exit 8))) (.seq (.block 9 (.region 24 eT true)) (cH [1,1,1,1,0,1,0,0,1,0,0,1,1,1,1,1,0,0,1,0,0,1,1,1,0,0,1,1]))).wp prog _ _ _;refine bU (bU (J2.pc hF2 (ins:=[(6,.v none),(13,.v none)]) (xs:=[.v (.one (.int .i64 (m:Int))),.v (.one (.int .i64 (j:Int)))]) ⟨rfl,rfl,trivial⟩ (cq8 m j) rfl aS ⟨⟨J2.t6,rfl⟩,⟨t13,rfl⟩,trivial⟩ ?_));intro a3 W3 hag J3 hb3 hrep;have q:a3.tmps.getD 113 undef=.bool (decide ((j:Int)<=(m:Int))):=hrep.1.1;replace t9:=(aO hag 9 aS).trans t9;replace t11:=(aO hag 11 aS).trans t11;replace t13:=(aO hag 13 aS).trans t13;replace t12:(aC.aw (rC (.of f))).rep D W3 (a3.tmps.getD 12 undef):=by rw[aO hag 12 aS];exact aC.mono _ (av.below hb3) t12
 replace hF2:=aW hF2 hb3;clear hag hb3 hrep J2;refine qL (t:=decide ((j:Int)<=(m:Int))) q ?_;by_cases hlt:(j:Int)<=(m:Int)
 .rw[bz hlt];refine sA ?_;have hv:(r'.getD j RQ.nil).q=(r.getD j RQ.nil).q:=by rw[<-ga,<-ga,he,Xf _ _ _ _ (ah j)]
  refine bU (nt (Zf hF2 J3.tb (i:=i) (j:=j) (k:=k) (A:=A) (B:=B) (r:=r') (p:=p) (f:=f) (lj hil) (by rw[np hik];exact hp) O O (by rw[hv];exact hfr j) (hfp j) hff hAB J3.sz J3.df J3.t7 t9 t11 t13 t12 ?_));intro a4 W4 b hsz4 hdf4 hag4 hbm hg4 hF4 T4;rw[Si]at T4;have hbb:=hbn b hbm;have J4:SJ D w va m m vs bs (rk.set i (r'.set j (.of ((r'.getD j RQ.nil).q-f*(p.getD j RQ.nil).q)))) a4 W4:=⟨hsz4,hdf4,(hag4 6 O).trans J3.t6,(hag4 7 O).trans J3.t7,T4,hg4.os.trans J3.bel.os,hg4.tape.trans J3.bel.tape,hg4.output.trans J3.bel.output,bG J3.bel.size hg4.size,fun q hq=>(hg4.block q (cM hq J3.bel.size) fun e=>by have:=cI e;omega).trans (J3.bel.block q hq)⟩
  refine J4.pc hF4 (ins:=[(13,.v none)]) (xs:=[.v (.one (.int .i64 (j:Int)))]) ⟨rfl,trivial⟩ (cz5 j) rfl aS ⟨⟨(hag4 13 O).trans t13,rfl⟩,trivial⟩ ?_;intro a5 W5 hag5 J5 hb5 hrep5;refine⟨m+1-(j+1),O,j+1,_,rfl,O,O,J5,aW hF4 hb5,by rw[al];exact hrl2,?_,(aO hag5 9 aS).trans ((hag4 9 O).trans t9),(aO hag5 11 aS).trans ((hag4 11 O).trans t11),hrep5.1.1,?_⟩
  .rw[pR,RQ.KT,hv,he,<-ga,<-ga,OI _ _ _ _ hkj]
  .rw[aO hag5 12 aS,hag4 12 O];exact aC.mono _ (av.below hb5) (aC.mono _ (iP (J3.tb.db b hbm) hg4) t12)
 .rw[dn hlt];obtain rfl:j=m+1:=O
  exact uO (km (hQ _ _ r' J3 hF2 he t9 t11))
def cn7{D M:c6}{w:World}{va:Value}{m:Nat}{vs:j0}{bs:c7}{rk:List (List RQ)}{a:Act}{W:World}{Q:iN}{k G:Nat}{p:List RQ}(J:SJ D w va m m vs bs rk a W)(hF:bf D W)(hbn:∀b∈bs,w.heap.size<=b)(hMD:∀q,M q->D q)(hMn:∀q,(q∈bs\/va.ownBlock=some q)->¬M q)(hp:rk[k]?=some p)(hp0:(p.getD k RQ.nil).q≠0)(hT:vL m (m+1) G (qs rk))(hG1:1<=G)(hG:G<=1000000000)(hkm:k<m)(hms:m<=1000)
  (t9:a.tmps.getD 9 undef=.int .i64 (k:Int)) (t11:a.tmps.getD 11 undef=.int .i64 ((0:Nat):Int))
  (hQ:∀(a':Act)(W':World)(rk':List (List RQ)),SJ D w va m m vs bs rk' a' W'->bf D W'->qs rk'=cj k (qs rk) m->a'.tmps.getD 9 undef=.int .i64 (k:Int)->Q .normal a' W'):(Code.block 6 (.loop (cH [1,1,1,1,0,1,0,0,1,0,0,1,1,1,1,1,0,0]))).wp prog Q a W:=by
 refine nt (xz (fun z a' W'=>∃(i:Nat)(rk':List (List RQ)),z=m-i/\i<=m/\SJ D w va m m vs bs rk' a' W'/\bf D W'/\qs rk'=cj k (qs rk) i/\a'.tmps.getD 9 undef=.int .i64 (k:Int)/\a'.tmps.getD 11 undef=.int .i64 (i:Int)) (m-0)
  ⟨0,rk,rfl,dM _,J,hF,by rw[xN],t9,t11⟩ ?_)
 clear J hF t9 t11 a W;rintro z a2 W2 ⟨i,rk',rfl,him,J2,hF2,he,t9,t11⟩;show(Code.seq (Code.seq (cH [1,1,1,1,0,1,0,0,1,0,0,1,1,1,1,1,0,0,0,0]) (.cond (.tmp 78) .skip (.exit 6))) (.seq (.block 7 (.seq (.seq (cH [1,1,1,1,0,1,0,0,1,0,0,1,1,1,1,1,0,0,1,0,0,0,0]) (.cond (.tmp 94) (.exit 7) .skip)) (.seq (.region 20 iH true) (.seq (cH [1,1,1,1,0,1,0,0,1,0,0,1,1,1,1,1,0,0,1,0,0,1,1,0]) (.block 8 (.loop (cH [1,1,1,1,0,1,0,0,1,0,0,1,1,1,1,1,0,0,1,0,0,1,1,1,0,0]))))))) (cH [1,1,1,1,0,1,0,0,1,0,0,1,1,1,1,1,0,0,1,1]))).wp prog _ _ _;refine bU (bU (J2.pc hF2 (ins:=[(6,.v none),(11,.v none)]) (xs:=[.v (.one (.int .i64 (m:Int))),.v (.one (.int .i64 (i:Int)))]) ⟨rfl,rfl,trivial⟩ (cm8 m i) rfl aS ⟨⟨J2.t6,rfl⟩,⟨t11,rfl⟩,trivial⟩ ?_));intro a3 W3 hag J3 hb3 hrep;have q:a3.tmps.getD 78 undef=.bool (decide ((i:Int)<(m:Int))):=hrep.1.1;replace t9:=(aO hag 9 aS).trans t9;replace t11:=(aO hag 11 aS).trans t11;replace hF2:=aW hF2 hb3;clear hag hb3 hrep J2;refine qL (t:=decide ((i:Int)<(m:Int))) q ?_;by_cases hlt:(i:Int)<(m:Int)
 rotate_left
 .rw[dn hlt];obtain rfl:i=m:=O
  exact uO (km (hQ _ _ rk' J3 hF2 he t9))
 rw[bz hlt];refine sA ?_;have hlr:=J3.tb.lr;obtain⟨r,hr⟩:∃r,rk'[i]?=some r:=⟨_,bM O⟩
 obtain⟨p',hp'⟩:∃p',rk'[k]?=some p':=⟨_,bM O⟩
 have hqp:=qv hp
 have hpq:p'.map RQ.q=p.map RQ.q:=by
  have:=qv hp';rw[he,mK (.inr rfl) hqp]at this;exact(cI this).symm
 have hqr:(qs rk)[i]?=some (r.map RQ.q):=by
  have h1:=qv hr;rw[he,gb]at h1;cases h2:(qs rk)[i]? with
  | none=>rw[h2]at h1;cases h1
  | some x=>rw[h2,cZ,aG O]at h1;exact h1
 have hkp:(qs rk).getD k []=p.map RQ.q:=Cj hp;obtain⟨hrl,hrf⟩:=hT.row _ (dc hqr);obtain⟨hpl,hpf⟩:=hT.row _ (dc hqp);have hpl':p'.length=m+1:=by rw[<-hpq,aL]at hpl;exact hpl
 rw[aL]at hrl hpl;have hp0':(p'.getD k RQ.nil).q≠0:=by rw[<-ga,hpq,ga];exact hp0
 have hfr:∀j,Fit G (r.getD j RQ.nil).q:=fun j=>by rw[<-ga];exact ko hG1 hrf j
 have hfp:∀j,Fit G (p'.getD j RQ.nil).q:=fun j=>by rw[<-ga,hpq];exact ko hG1 hpf j
 refine wp_seq_k fun K hK=>nt ?_
 have hend:∀(a':Act)(W':World)(rk2:List (List RQ)),SJ D w va m m vs bs rk2 a' W'->bf D W'->qs rk2=cj k (qs rk) (i+1)->a'.tmps.getD 9 undef=.int .i64 (k:Int)->a'.tmps.getD 11 undef=.int .i64 (i:Int)->K a' W':=by
  intro a4 W4 rk2 J4 hF4 he4 q9 q11;refine hK _ _ (J4.pc hF4 (ins:=[(11,.v none)]) (xs:=[.v (.one (.int .i64 (i:Int)))]) ⟨rfl,trivial⟩ (cw9 i) rfl aS ⟨⟨q11,rfl⟩,trivial⟩ ?_);intro a5 W5 hag5 J5 hb5 hrep5;exact⟨m-(i+1),O,i+1,rk2,rfl,O,J5,aW hF4 hb5,he4,(aO hag5 9 aS).trans q9,hrep5.1.1⟩
 clear hK;have t7r:(eR rk').rep M W3 (a3.tmps.getD 7 undef):=by rw[J3.t7];exact J3.tb.eR hMD hMn
 refine bU (bU (J3.pc (N:=M) (fX hF2 hMD) (ins:=[(7,.v none),(9,.v none),(11,.v none)]) (xs:=[.v (.one (eR rk')),.v (.one (.int .i64 (k:Int))),.v (.one (.int .i64 (i:Int)))]) ⟨rfl,rfl,rfl,trivial⟩ (ci8 rk' k i r hr) rfl aS ⟨t7r,⟨t9,rfl⟩,⟨t11,rfl⟩,trivial⟩ ?_));intro a4 W4 hag4 J4 hb4 hrep4;have q4:a4.tmps.getD 94 undef=.bool (decide (i=k\/(r.getD k RQ.nil).q=0)):=hrep4.1.1;replace t9:=(aO hag4 9 aS).trans t9;replace t11:=(aO hag4 11 aS).trans t11;replace hF2:=aW hF2 hb4;clear hag4 hb4 hrep4 J3 q t7r;refine qL (t:=decide (i=k\/(r.getD k RQ.nil).q=0)) q4 ?_;by_cases hor:i=k\/(r.getD k RQ.nil).q=0
 .rw[bz hor];refine uO (Fu (hend _ _ rk' J4 hF2 ?_ t9 t11));by_cases hik:i=k
  .rw[xa k (qs rk) hik];exact he
  .have h0:=hor.resolve_left hik;rw[<-pQ hik hqr,hkp,QS (by rw[ga];exact h0),<-he,zZ (qv hr)]
 rw[dn hor];refine sA ?_;have hik:i≠k:=fun e=>hor (.inl e);have hr0:(r.getD k RQ.nil).q≠0:=fun e=>hor (.inr e);refine bU (ZY hF2 J4.tb (i:=i) (k:=k) (A:=G) (r:=r) (p:=p') hr hp' O O (hfr k) (hfp k) hp0' O J4.sz J4.df J4.t7 t9 t11 ?_);intro a5 W5 hsz5 hdf5 hag5 hb5 t12;have J5:SJ D w va m m vs bs rk' a5 W5:=⟨hsz5,hdf5,(hag5 6 O).trans J4.t6,(hag5 7 O).trans J4.t7,J4.tb.below hb5,J4.bel.trans (hb5.mono J4.bel.size)⟩
 replace t9:=(hag5 9 O).trans t9;replace t11:=(hag5 11 O).trans t11;replace hF2:=aW hF2 hb5;clear hag5 hb5 J4 q4;refine bU (J5.pc hF2 (ins:=[(9,.v none)]) (xs:=[.v (.one (.int .i64 (k:Int)))]) ⟨rfl,trivial⟩ (cm3 k) rfl aS ⟨⟨t9,rfl⟩,trivial⟩ ?_);intro a6 W6 hag6 J6 hb6 hrep6;refine cA9 J6 (aW hF2 hb6) hbn hr hp' hik hrl hpl' hkm hms hfr hfp ((hfr k).div (hfp k)) ((aO hag6 9 aS).trans t9) ((aO hag6 11 aS).trans t11) hrep6.1.1 (by rw[aO hag6 12 aS];exact aC.mono _ (av.below hb6) t12) ?_;intro a7 W7 r' J7 hF7 he7 q9 q11;refine hend _ _ _ J7 hF7 ?_ q9 q11;rw[ad3,he7,he,hpq,<-pQ hik hqr,hkp,<-ad2 k _ _ (by rw[ga];exact hr0),aL,hrl,ga,ga,<-ga p',hpq,ga]
def RR:Tr:=.ret [(.one (.c (.k (.slice none 0 0)))),(.one (.c (.k (.bool false))))]
def ae5:aj prog 163 (fun _=>none) (aH [1,1,1,1,0,1,0,0,1,0,0,1,1,0,1,0,0] (aM f128)) [] ([4,5].map ResultVar.tmp) none false=RR:=aS
def cn9  :vc prog (fun o=>bD o (.ret [.one (sR []),.one (.bool false)])) (aj prog 163 (fun _=>none) (aH [1,1,1,1,0,1,0,0,1,0,0,1,1,0,1,0,0] (aM f128)) [] ([4,5].map ResultVar.tmp) none false) ([].map In.env) []:=by
 rw[ae5];dsimp only[List.map,In.env,aU,aV];exact gj ⟨aC.Sub.nil,aC.Sub.same,trivial⟩
def bE0(rk:List (List RQ))(k m:Nat)(hm:rk.length=m)(hL:∀r∈rk,k<r.length/\r.length<1099511627776)(hz:∀j r,rk[k+j]?=some r->(r.getD k RQ.nil).q=0)(hkm:k<=m:=by omega)(hs:m<1099511627776:=by omega):vc prog (fun o=>bD o (.ret [.one (.int .i64 (m:Int))])) (aj prog 163 (fun _=>none) (aH [1,1,1,1,0,1,0,0,1,0,0,1,0] (aM f128)) [(6,.v none),(7,.v none),(9,.v none),(10,.v none)] ([10].map ResultVar.tmp) none false) ([.v (.one (.int .i64 (m:Int))),.v (.one (eR rk)),.v (.one (.int .i64 (k:Int))),.v (.one (.int .i64 (k:Int)))].map In.env) []:=by
 rw[Dc];dsimp only[List.map,In.env,aU,aV];refine bZ {j:Nat // k+j<=m} (fun g=>[.one (.int .i64 ((k+g.1:Nat):Int))]) (fun g=>m-(k+g.1)) ⟨0,hkm⟩ ai.rfl (fun _=>rfl) ?_;rintro⟨j,hj⟩;dsimp only[aU,aV]at hj|-;apply vn bO;refine l4 ?_ ?_<;>intro h2
 .obtain⟨r,hr⟩:∃r,rk[k+j]?=some r:=⟨_,bM O⟩
  obtain⟨hkr,hrl⟩:=hL r (dc hr);apply vn (aN (f:=cR) vC (m:=k+j) O (bI _) (hr));apply vn (bq aT3);apply vn (aN (f:=rC) jK (m:=k) O (bI k) (vM hkr));apply vn (ab nH bY aT (.inl rfl));apply aA (BK _);apply vn cW;refine l4 ?_ ?_<;>intro h9
  .apply vn (aB O O);dsimp only[aU,aV];exact aq rfl ⟨⟨j+1,O⟩,ai.rfl,by show m-(k+(j+1))<m-(k+j);omega⟩
  exact absurd (sign_zero.2 (hz j r hr)) ‹_›
 rw[show m=k+j by omega];exact aR
def UX(m L G:Nat):Nat->Nat->List (List Rat)->Prop
 | 0,_,rows=>vL m L G rows
 | f+1,k,rows=>vL m L G rows/\∀i,HI k rows=some i->UX m L G f (k+1) (cj k (fT rows k (k+i)) rows.length)
def UX.Zy{m L G f k:Nat}{rows:b9}(h:UX m L G f k rows):vL m L G rows:=by
 cases f with
 | zero=>exact h
 | succ f=>exact h.1
theorem UX.of{m L B G:Nat}(hB1:1<=B)(hG:∀k,k<=m->gA B k<=G):∀(f k:Nat)(rows:b9),f+k=m->vL m L (gA B k) rows->UX m L G f k rows
 | 0,k,rows,hk,h=>h.mono (hG k O)
 | f+1,k,rows,hk,h=>by
   refine⟨h.mono (hG k O),fun i hi=>UX.of hB1 hG f (k+1) _ O ?_⟩;obtain⟨pq,hp1,_⟩:=Xs hi;have hl:=h.len;have hki:=(cL.1 hp1).1;rw[hl];exact(h.swap O O).elim (bG hB1 (an1 k)) O _
theorem ao8{D:c6}{W:World}:∀{vs:j0},(∀u∈vs,u.oneCell'=true)->an D W (vs.map xV).flatten vs
 | [],_=>trivial
 | v::vs,h=>⟨⟨rfl,h v cE⟩,ao8 fun u hu=>h u (cg _ hu)⟩
def ci0{D M:c6}{w:World}{va:Value}{m G:Nat}{vs:j0}{bs:c7}{rk:List (List RQ)}{o:Option (List (List Rat))}{a:Act}{W:World}{Q:iN}(J:SJ D w va m m vs bs rk a W)(hF:bf D W)(hbn:∀b∈bs,w.heap.size<=b)(hMD:∀q,M q->D q)(hMw:∀q,M q->q<w.heap.size)(hvn:∀g,va.ownBlock=some g->w.heap.size<=g)(hR:UX m (m+1) G m 0 (qs rk))(hG1:1<=G)(hG:G<=1000000000)(hms:m<=1000)(hsv:iy m 0 (qs rk)=o)
  (t9:a.tmps.getD 9 undef=.int .i64 ((0:Nat):Int))
  (hQ:∀(a':Act)(W':World)(vs':j0)(bs':c7)(rk':List (List RQ)),o=some (qs rk')->SJ D w va m m vs' bs' rk' a' W'->bf D W'->(∀b∈bs',w.heap.size<=b)->vL m (m+1) G (qs rk')->DG m (qs rk')->Q .normal a' W')
  (hN:∀(a':Act)(W':World),o=none->a'.tmps.size=163->a'.defers=[]->Below w.heap.size w W'->cC M W' [.one (sR []),.one (.bool false)] [a'.tmps.getD 4 undef,a'.tmps.getD 5 undef]->Q .ret a' W'):(Code.block 2 (.loop (cH [1,1,1,1,0,1,0,0]))).wp prog Q a W:=by
 refine nt (xz (fun z a' W'=>∃(k:Nat)(vs':j0)(bs':c7)(rk':List (List RQ)),z=m-k/\k<=m/\SJ D w va m m vs' bs' rk' a' W'/\bf D W'/\(∀b∈bs',w.heap.size<=b)/\UX m (m+1) G (m-k) k (qs rk')/\DG k (qs rk')/\iy (m-k) k (qs rk')=o/\a'.tmps.getD 9 undef=.int .i64 (k:Int)) (m-0)
  ⟨0,vs,bs,rk,rfl,dM _,J,hF,hbn,hR,fun j r h=>absurd h (Nat.not_lt_zero j),hsv,t9⟩ ?_)
 clear J hF hbn hR hsv t9 a W vs bs rk;rintro z a2 W2 ⟨k,vs,bs,rk,rfl,hkm,J2,hF,hbn,hR,hd,hsv,t9⟩;have hT:=hR.Zy;show(Code.seq (Code.seq (cH [1,1,1,1,0,1,0,0,0,0]) (.cond (.tmp 39) .skip (.exit 2))) (.seq (.block 3 (.seq (cH [1,1,1,1,0,1,0,0,1,0,0,0]) (.seq (cH [1,1,1,1,0,1,0,0,1,0,0,1,0]) (.seq (.seq (cH [1,1,1,1,0,1,0,0,1,0,0,1,1,0,0]) (.cond (.tmp 61) (cH [1,1,1,1,0,1,0,0,1,0,0,1,1,0,1,0]) .skip)) (.seq (cH [1,1,1,1,0,1,0,0,1,0,0,1,1,1,0]) (.seq (cH [1,1,1,1,0,1,0,0,1,0,0,1,1,1,1,0]) (.block 6 (.loop (cH [1,1,1,1,0,1,0,0,1,0,0,1,1,1,1,1,0,0]))))))))) (cH [1,1,1,1,0,1,0,0,1,1]))).wp prog _ _ _;refine bU (bU (J2.pc hF (ins:=[(6,.v none),(9,.v none)]) (xs:=[.v (.one (.int .i64 (m:Int))),.v (.one (.int .i64 (k:Int)))]) ⟨rfl,rfl,trivial⟩ (cv3 m k) rfl aS ⟨⟨J2.t6,rfl⟩,⟨t9,rfl⟩,trivial⟩ ?_));intro a3 W3 hag J3 hb3 hrep;have q:a3.tmps.getD 39 undef=.bool (decide ((k:Int)<(m:Int))):=hrep.1.1;replace t9:=(aO hag 9 aS).trans t9;replace hF:=aW hF hb3;clear hag hb3 hrep J2;refine qL (t:=decide ((k:Int)<(m:Int))) q ?_;by_cases hlt:(k:Int)<(m:Int)
 rotate_left
 .rw[dn hlt];obtain rfl:k=m:=O
  rw[fE,iy]at hsv;exact uO (km (hQ _ _ vs bs rk hsv.symm J3 hF hbn hT hd))
 rw[bz hlt];refine sA ?_;have hkm':k<m:=O
 have hlr:=J3.tb.lr;have hlv:=J3.tb.lv;have hll:(qs rk).length=m:=hT.len;refine wp_seq_k fun K hK=>nt ?_
 have hMn:∀q,(q∈bs\/va.ownBlock=some q)->¬M q:=fun q hq hm=>by
  have:=hMw q hm;rcases hq with h | h
  .have:=hbn q h;omega
  .have:=hvn q h;omega
 obtain⟨f,hf⟩:∃f,m-k=f+1:=⟨m-k-1,O⟩
 rw[hf,iy]at hsv;rw[hf,UX]at hR;have t7r:∀{a':Act}{W':World},SJ D w va m m vs bs rk a' W'->(eR rk).rep M W' (a'.tmps.getD 7 undef):=fun J=>by rw[J.t7];exact J.tb.eR hMD hMn
 have hL:∀r∈rk,k<r.length/\r.length<1099511627776:=fun r hr=>by
  obtain⟨j,hj⟩:=kJ hr;have:=(hT.row _ (dc (qv hj))).1;rw[aL]at this;omega
 refine bU (J3.pc hF (ins:=[(9,.v none)]) (xs:=[.v (.one (.int .i64 (k:Int)))]) ⟨rfl,trivial⟩ (cv7 k) rfl aS ⟨⟨t9,rfl⟩,trivial⟩ ?_);intro a4 W4 hag J4 hb4 hrep;have t10:a4.tmps.getD 10 undef=.int .i64 (k:Int):=hrep.1.1;replace t9:=(aO hag 9 aS).trans t9;replace hF:=aW hF hb4;clear hag hb4 hrep J3 q;cases hpv:HI k (qs rk)with
 | none=>
   rw[hpv]at hsv
   have hz:∀j r,rk[k+j]?=some r->(r.getD k RQ.nil).q=0:=fun j r hr=>by
    have h1:=ao9.1 hpv (r.map RQ.q) (dc (i:=j) (by rw[fG];exact qv hr));rw[uW,wz,ga]at h1;exact h1
   refine bU (J4.pc (N:=M) (fX hF hMD) (ins:=[(6,.v none),(7,.v none),(9,.v none),(10,.v none)]) (xs:=[.v (.one (.int .i64 (m:Int))),.v (.one (eR rk)),.v (.one (.int .i64 (k:Int))),.v (.one (.int .i64 (k:Int)))]) ⟨rfl,rfl,rfl,rfl,trivial⟩ (bE0 rk k m hlr hL hz) rfl aS ⟨⟨J4.t6,rfl⟩,t7r J4,⟨t9,rfl⟩,⟨t10,rfl⟩,trivial⟩ ?_);intro a5 W5 hag J5 hb5 hrep;replace t10:a5.tmps.getD 10 undef=.int .i64 (m:Int):=hrep.1.1;replace hF:=aW hF hb5;clear hag hb5 hrep J4;refine bU (bU (J5.pc hF (ins:=[(6,.v none),(10,.v none)]) (xs:=[.v (.one (.int .i64 (m:Int))),.v (.one (.int .i64 (m:Int)))]) ⟨rfl,rfl,trivial⟩ (bB2 m m) rfl aS ⟨⟨J5.t6,rfl⟩,⟨t10,rfl⟩,trivial⟩ ?_));intro a6 W6 hag J6 hb6 hrep;have q6:a6.tmps.getD 61 undef=.bool (decide ((m:Int)=(m:Int))):=hrep.1.1;replace hF:=aW hF hb6;clear hag hb6 hrep J5;refine qL (t:=decide ((m:Int)=(m:Int))) q6 ?_;rw[bz rfl];show(Code.seq (cH [1,1,1,1,0,1,0,0,1,0,0,1,1,0,1,0,0]) .ret).wp prog _ _ _;refine bU (J6.pc (N:=M) (fX hF hMD) (ins:=[]) (xs:=[]) trivial cn9 rfl aS trivial ?_);intro a7 W7 hag J7 hb7 hrep;exact rW (hN _ _ hsv.symm J7.sz J7.df J7.bel hrep)
 | some i=>
 rw[hpv]at hsv;dsimp only at hsv;obtain⟨pq,hp1,hp2,hp3⟩:=Xs hpv;have hki:k+i<m:=by have:=(cL.1 hp1).1;omega
 obtain⟨y,hy⟩:∃y,rk[k+i]?=some y:=⟨_,bM O⟩
 have hyq:pq=y.map RQ.q:=cI (hp1.symm.trans (qv hy));subst hyq;rw[ga]at hp2;refine bU (J4.pc (N:=M) (fX hF hMD) (ins:=[(6,.v none),(7,.v none),(9,.v none),(10,.v none)]) (xs:=[.v (.one (.int .i64 (m:Int))),.v (.one (eR rk)),.v (.one (.int .i64 (k:Int))),.v (.one (.int .i64 (k:Int)))]) ⟨rfl,rfl,rfl,rfl,trivial⟩ (cg1 rk k i m y hlr hL (fun j r hj hr=>by have:=hp3 j _ hj (qv hr);rwa[ga]at this) hy hp2) rfl aS ⟨⟨J4.t6,rfl⟩,t7r J4,⟨t9,rfl⟩,⟨t10,rfl⟩,trivial⟩ ?_);intro a5 W5 hag J5 hb5 hrep;replace t10:a5.tmps.getD 10 undef=.int .i64 ((k+i:Nat):Int):=hrep.1.1;replace t9:=(aO hag 9 aS).trans t9;replace hF:=aW hF hb5;clear hag hb5 hrep J4;refine bU (bU (J5.pc hF (ins:=[(6,.v none),(10,.v none)]) (xs:=[.v (.one (.int .i64 (m:Int))),.v (.one (.int .i64 ((k+i:Nat):Int)))]) ⟨rfl,rfl,trivial⟩ (bB2 m (k+i)) rfl aS ⟨⟨J5.t6,rfl⟩,⟨t10,rfl⟩,trivial⟩ ?_));intro a6 W6 hag J6 hb6 hrep;have q6:a6.tmps.getD 61 undef=.bool (decide (((k+i:Nat):Int)=(m:Int))):=hrep.1.1;replace t9:=(aO hag 9 aS).trans t9;replace t10:=(aO hag 10 aS).trans t10;replace hF:=aW hF hb6;clear hag hb6 hrep J5;refine qL (t:=decide (((k+i:Nat):Int)=(m:Int))) q6 ?_;rw[dn O];refine sA ?_;obtain⟨g,cap,bx,x,px,hx,hbx,hpx,Tx⟩:=J6.tb.at hkm';obtain⟨g',cap',by',v,py,hv,hby,hpy,_⟩:=J6.tb.at hki;rw[hy]at hpy;cases hpy;have hob:va.ownBlock=some g:=by rw[Tx.e];rfl
 obtain⟨cur,hgc,h1,h2,h3,h4⟩:∃cur:Array Value,W6.heap[g]?=some (.cells cur 32 (0,0))/\m<=cap/\cap<=maxLen/\cur.size=cap*1/\cur.toList.take (m*1)=vs:=by
  rcases J6.tb.own.2 with⟨e,_⟩ | ⟨g0,cap0,cur,e,_,hg,h⟩
  .rw[Tx.e]at e;cases e
  .rw[Tx.e]at e;simp only[jB,aZ,gm,cu,mQ]at e;obtain⟨rfl,rfl⟩:=e;exact⟨cur,hg,h⟩
 have hxl:(vs.map xV).length=m:=by rw[aL];exact hlv
 have hone:∀u∈vs,u.oneCell'=true:=fun u hu=>by
  obtain⟨j,hj⟩:=kJ hu;obtain⟨_,_,b,u',r,e1,_,_,T⟩:=J6.tb.at (j:=j) (by have:=(cL.1 hj).1;omega);rw[hj]at e1;cases e1;exact T.row.one
 have hvr:an D W6 (vs.map xV).flatten vs:=ao8 hone;refine bU (zJ jN.wp (M:=D) (g:=g) (cap:=cap) (cur:=cur) (N:=163) (t0:=7) (E:=32) (sz:=1) (ts:=vs.map xV) (ins:=[(9,.v none),(10,.v none)]) (xs:=[.v (.one (.int .i64 (k:Int))),.v (.one (.int .i64 ((k+i:Nat):Int)))]) fo ⟨rfl,rfl,trivial⟩ (cr1 vs k (k+i) x v hx hv) aS hF Tx.dg J6.sz J6.df (fun t ht=>by obtain⟨v,_,rfl⟩:=dm.1 ht;rfl) ⟨⟨t9,rfl⟩,⟨t10,rfl⟩,trivial⟩ (by rw[hxl];exact J6.t7.trans Tx.e) hgc (by rw[hxl];omega) (by rw[hxl];exact h1) h2 (by rw[hxl,h4];exact hvr) ?_);intro a7 W7 us7 cur7 hag hg7 hsz7 hdf7 hr7 hgc7 hcs7 _ _ hrep7;rw[hxl,eG]at hrep7;have T7:=J6.tb.swap Tx.e hx hv hbx hby hpx hy hg7 hgc hgc7 hcs7 hrep7;have hvg:=hvn g hob;have J7:SJ D w va m m (gi vs (k+i) k v x) (gi bs (k+i) k by' bx) (gi rk (k+i) k y px) a7 W7:=⟨hsz7,hdf7,(aO hag 6 aS).trans J6.t6,(aO hag 7 aS).trans J6.t7,T7,hg7.os.trans J6.bel.os,hg7.tape.trans J6.bel.tape,hg7.output.trans J6.bel.output,bG J6.bel.size hg7.size,fun q hq=>(hg7.block q (cM hq J6.bel.size) fun e=>by have:=cI e;omega).trans (J6.bel.block q hq)⟩
 have hbs7:∀b∈gi bs (k+i) k by' bx,b∈bs:=fun b hb=>by
  obtain⟨j,hj⟩:=kJ hb;rw[fZ hby hbx]at hj;exact dc hj
 replace hF:bf D W7:=⟨fun q hq=>cM (hF.1 q hq) hg7.size,hF.2.dJ (iP Tx.dg hg7)⟩
 replace t9:=(aO hag 9 aS).trans t9;have hqs:=bu6 hpx hy
 have hrow:(gi rk (k+i) k y px)[k]?=some y:=by
  rw[fZ hy hpx,sg];by_cases e:k=k
  .rw[aF e];exact hy
  .exact absurd rfl e
 clear hag hg7 hr7 hgc7 hcs7 hrep7 T7 J6 hvr hone hgc h1 h2 h3 h4 hx hv hbx hby q6 t10;refine bU (J7.pc hF (ins:=[]) (xs:=[]) trivial cl0 rfl aS trivial ?_);intro a8 W8 hag J8 hb8 hrep;have t11:a8.tmps.getD 11 undef=.int .i64 ((0:Nat):Int):=hrep.1.1;replace t9:=(aO hag 9 aS).trans t9;replace hF:=aW hF hb8;have hT8:vL m (m+1) G (qs (gi rk (k+i) k y px)):=by rw[hqs];exact hT.swap hkm' hki
 have hR9:=hR.2 i hpv;rw[<-hqs]at hR9;refine cn7 (M:=M) J8 hF (fun b hb=>hbn b (hbs7 b hb)) hMD (fun q hq=>hMn q (hq.imp (hbs7 q) id)) hrow hp2 hT8 hG1 hG hkm' hms t9 t11 ?_;intro a9 W9 rk9 J9 hF9 he9 q9;refine hK _ _ (J9.pc hF9 (ins:=[(9,.v none)]) (xs:=[.v (.one (.int .i64 (k:Int)))]) ⟨rfl,trivial⟩ (ct7 k) rfl aS ⟨⟨q9,rfl⟩,trivial⟩ ?_);intro b1 V1 hag1 J1 hb1 hrep1;refine⟨m-(k+1),O,k+1,_,_,rk9,rfl,O,J1,aW hF9 hb1,fun b hb=>hbn b (hbs7 b hb),?_,?_,?_,hrep1.1.1⟩
 .rw[he9,show m-(k+1)=f by omega];rw[show(qs rk).length=m from hll]at hR9;exact hR9
 .rw[he9,hqs];exact bo5 hd (xH _ _) (by rw[<-hqs];exact qv hrow) (by rw[ga];exact hp2)
 .rw[he9,hqs,<-hsv,show m-(k+1)=f by omega,hll]
def cq0{M:c6}{w:World}{v0 v1:Value}{n:Nat}{A:List (List RQ)}{C:List RQ}{a:Act}{W:World}{Q:iN}(hM:bf M w)(e0:(eR A).rep M w v0)(e1:(sR C).rep M w v1)(hA:A.length=n)(hC:C.length=n)(hAr:∀r∈A,r.length=n)(hn:n<=1000)(J:SJ (fun k=>M k\/w.heap.size<=k) w (.slice none 0 0) n 0 [] [] [] a W)
  (t0:a.tmps.getD 0 undef=v0) (t1:a.tmps.getD 1 undef=v1) (t8:a.tmps.getD 8 undef=.int .i64 ((0:Nat):Int))
  (hQ:∀(a':Act)(W':World)(va:Value)(vs:j0)(bs:c7),SJ (fun k=>M k\/w.heap.size<=k) w va n n vs bs (AE A C) a' W'->(∀g,va.ownBlock=some g->w.heap.size<=g)->(∀b∈bs,w.heap.size<=b)->Q .normal a' W'):(Code.block 0 (.loop (cH [1,1,1,0,1,0,0]))).wp prog Q a W:=by
 refine nt (xz (fun z a' W'=>∃(i:Nat)(va:Value)(vs:j0)(bs:c7),z=n-i/\i<=n/\SJ (fun k=>M k\/w.heap.size<=k) w va n i vs bs ((AE A C).take i) a' W'/\W'.ownsRow w.heap.size 32 1 va i vs/\(∀b∈bs,w.heap.size<=b)/\a'.tmps.getD 0 undef=v0/\a'.tmps.getD 1 undef=v1/\a'.tmps.getD 8 undef=.int .i64 (i:Int)) (n-0)
  ⟨0,_,[],[],rfl,dM _,J,pY _ _ _ _,(fun b h=>by cases h),t0,t1,t8⟩ ?_)
 clear J t0 t1 t8 a W;rintro z a2 W2 ⟨i,va,vs,bs,rfl,hin,J2,hown,hbs,t0,t1,t8⟩;show(Code.seq (Code.seq (cH [1,1,1,0,1,0,0,0,0]) (.cond (.tmp 20) .skip (.exit 0))) (.seq (.block 1 (.region 6 jA true)) (cH [1,1,1,0,1,0,0,1,1]))).wp prog _ _ _;refine bU (bU (J2.pc (aW hM J2.bel) (ins:=[(6,.v none),(8,.v none)]) (xs:=[.v (.one (.int .i64 (n:Int))),.v (.one (.int .i64 (i:Int)))]) ⟨rfl,rfl,trivial⟩ (cf5 n i) rfl aS ⟨⟨J2.t6,rfl⟩,⟨t8,rfl⟩,trivial⟩ ?_));intro a3 W3 hag J3 hb3 hrep;have q:a3.tmps.getD 20 undef=.bool (decide ((i:Int)<(n:Int))):=hrep.1.1;replace t0:=(aO hag 0 aS).trans t0;replace t1:=(aO hag 1 aS).trans t1;replace t8:=(aO hag 8 aS).trans t8;replace hown:W3.ownsRow w.heap.size 32 1 va i vs:=rz hown fun k o hk _ ho=>(hb3.block k (cJ.1 ho).1).trans ho;clear hag hb3 hrep J2;refine qL (t:=decide ((i:Int)<(n:Int))) q ?_;by_cases hlt:(i:Int)<(n:Int)
 rotate_left
 .rw[dn hlt];obtain rfl:i=n:=O
  rw[dL (by rw[AE,aL,List.length_zip];omega)]at J3;exact uO (km (hQ _ _ va vs bs J3 (fun g hg=>(hown.lt g hg).1) hbs))
 rw[bz hlt];refine sA ?_;obtain⟨r,hr⟩:∃r,A[i]?=some r:=⟨_,bM O⟩
 obtain⟨x,hx⟩:∃x,C[i]?=some x:=⟨_,bM O⟩
 have hrl:=hAr r (dc hr);refine bU (nt (ad0 hM J3.bel e0 e1 hr hx hown J3.sz J3.df t0 t1 J3.t7 t8 ?_));intro a4 W4 v' u b hsz4 hdf4 hag4 h7 hg4 hown4 hb4 hrow4 hv4;have hvg:∀g,va.ownBlock=some g->w.heap.size<=g:=fun g hg=>(hown.lt g hg).1;have hk:av (fun k=>M k\/w.heap.size<=k) W3 (fun k=>M k\/w.heap.size<=k) W4:=fun k o hk ho _=>⟨hk,(hg4.block k (cJ.1 ho).1 fun e=>hk (.inr (hvg k e.symm))).trans ho⟩
 have hs3:=J3.bel.size;have T4:=J3.tb.snoc hg4 (fun k h=>.inr h) hs3 hk hown4 hb4 hrow4 hv4;have hsn:(AE A C).take i++[r++[x]]=(AE A C).take (i+1):=by rw[nq,bg6 hr hx];rfl
 rw[hsn]at T4;have J4:SJ (fun k=>M k\/w.heap.size<=k) w v' n (i+1) (vs++[u]) (bs++[b]) ((AE A C).take (i+1)) a4 W4:=⟨hsz4,hdf4,(hag4 6 O O).trans J3.t6,h7,T4,hg4.os.trans J3.bel.os,hg4.tape.trans J3.bel.tape,hg4.output.trans J3.bel.output,bG hs3 hg4.size,fun q hq=>(hg4.block q O fun e=>by have:=hvg q e.symm;omega).trans (J3.bel.block q hq)⟩
 refine J4.pc (aW hM J4.bel) (ins:=[(8,.v none)]) (xs:=[.v (.one (.int .i64 (i:Int)))]) ⟨rfl,trivial⟩ (cv8 i) rfl aS ⟨⟨(hag4 8 O O).trans t8,rfl⟩,trivial⟩ ?_;intro a5 W5 hag5 J5 hb5 hrep5;refine⟨n-(i+1),O,i+1,v',_,_,rfl,O,J5,rz hown4 fun k o hk _ ho=>(hb5.block k (cJ.1 ho).1).trans ho,fun b' hb'=>?_,(aO hag5 0 aS).trans ((hag4 0 O O).trans t0),(aO hag5 1 aS).trans ((hag4 1 O O).trans t1),hrep5.1.1⟩;rcases dx.1 hb' with h | h
 .exact hbs b' h
 .rw[da.1 h];omega
theorem aB9(A:List (List RQ))(C:List RQ)(n G:Nat)(o:Option (List Rat))(hA:A.length=n)(hC:C.length=n)(hAr:∀r∈A,r.length=n)(hR:UX n (n+1) G n 0 (rowsOf A C))(ho:fQ (rowsOf A C)=o)(hA1:1<=G:=by omega)(hA9:G<=1000000000:=by omega)(hn:n<=1000:=by omega):aX prog 128 [.one (eR A),.one (sR C)] (.ret (match o with
  | some m=>[.one (sR (m.map RQ.of)),.one (.bool true)]
  | none=>[.one (sR []),.one (.bool false)])):=by
 refine⟨ay aS,fun M w0 ws hM0 hv=>?_⟩;rw[<-bm2]at hR ho;rw[fQ,hR.Zy.len]at ho
 match ws,hv with
 | [v0,v1],hv=>
   refine kH func128 rfl ?_;simp only[ntmps128,cq,bB,bu,Nat.reduceAdd,Nat.reduceSub,eE,eF,eJ,eI,List.nil_append,List.cons_append];refine Ux (n:=2) (N:=163) (ins:=[(0,.v none),(1,.v none)]) (xs:=[.v (.one (eR A)),.v (.one (sR C))]) fo ⟨rfl,rfl,trivial⟩ (cz0 A C) aS hM0 rfl rfl hv ?_ (by intro c v a' w' h;cases h);intro e a1 w us us' hrs hex hb0 hsz1 hdf1 hr1 hrep1;cases hrs;cases e with
   | exit id=>cases hex
   | ret=>cases hex
   | normal=>
   have huse:=bA hr1;subst huse;obtain⟨e0,e1,e6,e7,_⟩:=hrep1;have e0:(eR A).rep M w (a1.tmps.getD 0 undef):=e0;have e1:(sR C).rep M w (a1.tmps.getD 1 undef):=e1;have t6:a1.tmps.getD 6 undef=.int .i64 (n:Int):=by rw[<-hA];exact e6.1
   have hM:bf M w:=aW hM0 hb0;have J1:SJ (fun k=>M k\/w.heap.size<=k) w (.slice none 0 0) n 0 [] [] [] a1 w:=⟨hsz1,hdf1,t6,e7.1,⟨pY _ _ _ _,rfl,rfl,(fun i j b h=>by simp at h),(fun j v b r h=>by simp at h),(fun b h=>by cases h),(fun g h=>by cases h)⟩,cS _ _⟩
   clear hr1 hex e6 e7 hv hsz1 hdf1 t6;show(Code.seq (Code.seq (cH [1,1,1,0,0]) (.block 0 (.loop (cH [1,1,1,0,1,0,0])))) (.seq (.seq (cH [1,1,1,1,0,0]) (.block 2 (.loop (cH [1,1,1,1,0,1,0,0])))) (cH [1,1,1,1,1]))).wp prog _ _ _;refine bU (bU (J1.pc hM (ins:=[]) (xs:=[]) trivial cq7 rfl aS trivial ?_));intro a2 W2 hag2 J2 hb2 hrep2;refine cq0 hM e0 e1 hA hC hAr hn J2 (aO hag2 0 aS) (aO hag2 1 aS) hrep2.1.1 ?_;clear hag2 hb2 hrep2 J1 J2 e0 e1;intro a3 W3 va vs bs J3 hvn hbn;obtain⟨D,hD⟩:∃D:Nat->Prop,D=fun k=>M k\/k∈bs\/va.ownBlock=some k:=⟨_,rfl⟩
   have hMD:∀q,M q->D q:=fun q h=>by rw[hD];exact .inl h
   have hDn:∀q,D q->M q\/w.heap.size<=q:=fun q h=>by
    rw[hD]at h;exact h.imp id fun h=>h.elim (hbn q) (hvn q)
   have T3:Tb D va n vs bs (AE A C) W3:=J3.tb.dJ (fun k o hk ho _=>⟨fun h=>hk (hDn k h),ho⟩) fun k hk=>⟨by rw[hD];exact .inr hk,rfl⟩
   have J3':SJ D w va n n vs bs (AE A C) a3 W3:=⟨J3.sz,J3.df,J3.t6,J3.t7,T3,J3.bel⟩
   have hF3:bf D W3:=⟨fun k hk=>by
    rw[hD]at hk;exact hk.elim (fun h=>cM (hM.1 k h) J3.bel.size) J3.tb.lt,hM.2.dJ fun k o hk ho _=>by
    have hlt:=(cJ.1 ho).1;exact⟨fun h=>(hDn k h).elim hk O,(J3.bel.block k hlt).trans ho⟩⟩
   refine bU (bU (J3'.pc hF3 (ins:=[]) (xs:=[]) trivial cq3 rfl aS trivial ?_));intro a4 W4 hag4 J4 hb4 hrep4;refine ci0 J4 (aW hF3 hb4) hbn hMD hM.1 hvn hR hA1 hA9 hn rfl hrep4.1.1 ?_ ?_
   rotate_left
   .intro a5 W5 hno hsz5 hdf5 hbel5 hrep5;rw[hno]at ho;cases ho
    have hr5:(f128.results.toList.mapM (iA a5.tmps)).run prog W5=.ok [a5.tmps.getD 4 undef,a5.tmps.getD 5 undef] W5:=by
     show(([ResultVar.tmp 4,ResultVar.tmp 5]).mapM (iA a5.tmps)).run prog W5=_;simp only[BR,QP,iA,gC,gq,js]
    have hpost5:Below w0.heap.size w0 W5/\oU M W5 (.ret [.one (sR []),.one (.bool false)]) (.returned (pack [a5.tmps.getD 4 undef,a5.tmps.getD 5 undef])):=⟨hb0.trans (hbel5.mono hb0.size),_,rfl,hrep5⟩
    show bodyPost prog f128 (fun e W'=>Below w0.heap.size w0 W'/\oU M W' (.ret [.one (sR []),.one (.bool false)]) e) .ret a5 W5;exact gB (gN f128 a5.tmps _ hr5) hdf5 hpost5
   intro a5 W5 vs5 bs5 rk5 hs5 J5 hF5 hbn5 hT5 hd5;rw[hs5]at ho;cases ho
   have t7r:(eR rk5).rep M W5 (a5.tmps.getD 7 undef):=by
    rw[J5.t7]
    exact J5.tb.eR hMD fun q hq hm=>by
     have:=hM.1 q hm;rcases hq with h | h
     .have:=hbn5 q h;omega
     .have:=hvn q h;omega
   have hlr:=J5.tb.lr
   have hres5:((List.range n).map (qj rk5 n))=(List.range (qs rk5).length).map (lY (qs rk5)):=by
    rw[hT5.len];refine kY fun i hi=>?_;have hi:=fO.1 hi;obtain⟨r,hr⟩:∃r,rk5[i]?=some r:=⟨_,bM O⟩
    have hrl:=(hT5.row _ (dc (qv hr))).1;rw[qj,lY,Cj hr,hrl,lW,ga,ga,fI (l:=rk5),hr];rfl
   refine FI jN.wp (n0:=W5.heap.size) (N:=163) (ins:=[(6,.v none),(7,.v none)]) (xs:=[.v (.one (.int .i64 (n:Int))),.v (.one (eR rk5))]) fo ⟨rfl,rfl,trivial⟩ (tg (cx4 rk5 n G hlr (fun r hr=>?_) (fun j r hr=>?_) hA1)) aS (ah _) (fX hF5 hMD) J5.sz J5.df ⟨⟨J5.t6,rfl⟩,t7r,trivial⟩ ?_
   .obtain⟨j,hj⟩:=kJ hr;obtain⟨h1,h2⟩:=hT5.row _ (dc (qv hj));exact⟨by rw[aL]at h1;exact h1,fun a ha=>h2 _ (sH ha)⟩
   .have:=hd5 j _ (by have:=(cL.1 hr).1;omega) (qv hr)
    rwa[ga]at this
   .intro e a6 w6 us6 he hb6 hsz6 hdf6 hr6 hrep6;rw[hres5]at hrep6;have hpost:Below w0.heap.size w0 w6/\oU M w6 (.ret [.one (sR (((List.range (qs rk5).length).map (lY (qs rk5))).map RQ.of)),.one (.bool true)]) (.returned (pack us6)):=⟨hb0.trans ((J5.bel.trans (hb6.mono J5.bel.size)).mono hb0.size),us6,rfl,hrep6⟩
    have hres:=gN f128 a6.tmps us6 hr6;cases e with
    | exit id=>cases he
    | normal=>exact Qy hres hdf6 hpost
    | ret=>exact gB hres hdf6 hpost
 | [],h=>exact h.elim
 | [_],h=>exact h.2.elim
 | _::_::_::_,h=>exact h.2.2.elim
end Go.Sy
