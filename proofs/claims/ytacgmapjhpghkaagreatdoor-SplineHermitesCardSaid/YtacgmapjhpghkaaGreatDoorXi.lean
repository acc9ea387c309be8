/- Part. -/
import Derived.Test.YtacgmapjhpghkaaGreatDoorXh
set_option linter.all false
set_option maxHeartbeats 1000000
set_option maxRecDepth 100000
namespace Go.Sy
open Go Go.Proofs Go.RowKit Tryz Ord
section
variable{T E sz by_:Nat}{z:List Value}{o:Oper}{a:Act}{w:World}{K:Act->World->Prop}{Q:Exit->Act->World->Prop}
theorem Xd(el:dB prog T=some (E,sz,by_))(hz:jD prog E=some z)(hpos:0<sz){x y:Operand}(ho:o.op=.call { callee:=.builtin .append,args:=#[x,y],argTypes:=#[T,T] }){M:Nat->Prop}{base n:Nat}{v u:Value}{xs:List Value}{us:List (List aC)}(hx:a.eval x=v)(hy:a.eval y=u)(hown:w.ownsRow base E sz v n xs)(hs:Src w M sz us u)(h0:0<us.length)(hm:n+us.length<=1000000)(hby:by_<=1000)(hb:base<=w.heap.size)
  (hK:∀v' w' news,w'.ownsRow base E sz v' (n+us.length) (xs++news)->w.grownBy w' v.ownBlock->ah M w us.flatten news->(v'.ownBlock=v.ownBlock\/v'.ownBlock=some w.heap.size)->K (a.put o.dst v') w'):o.wp prog a w K Q:=by
 obtain⟨ie,hu,hie,hies,hieb⟩:=bV el;obtain⟨i,zv,hi,hzz,hzc,_,hzs⟩:=eI hz;rw[hie]at hi;simp only[aU]at hi;subst hi;have hbb:=eD hm hby;cases hs with
 | nil c hv hus=>subst hus;simp at h0
 | some ad c news hv hl hn hr hsn=>
   obtain⟨v',w',h1,h2,h3,_,h5⟩:=run_append_own_at (P:=prog) (w:=w) base T o.type E ie zv sz by_ hu hie hzz hies hieb (by rw[hzs,hies]) hpos v n xs hown ad us.length c news hl hn hr.one (by simp only[maxLen];omega) (by omega) hb;refine av (v:=v') (w':=w') ?_ (hK v' w' news h2 h3 hr h5);rw[<-hv]at h1;simp[execOp,ho,resolve,invoke,builtin,hx,hy,h1,Result.andThen]
theorem ao8(el:dB prog T=some (E,sz,by_))(hz:jD prog E=some z)(hpos:0<sz)(hsm:sz<=1000){x:Operand}(ho:o.op=.buildSlice T 1 #[(0,x)])(hl:(a.eval x).cells.size=sz)
  (hK:K (a.put o.dst (.slice (some ⟨w.heap.size,0,none⟩) 1 1)) (w.alloc (.cells (a.eval x).cells E))):o.wp prog a w K Q:=by
 obtain⟨ie,hu,hie,hies,hieb⟩:=bV el;obtain⟨i,zv,hi,hzz,hzc,_,hzs⟩:=eI hz;rw[hie]at hi;simp only[aU]at hi;subst hi;have hf:=Yo hpos [a.eval x] ((Array.range (1*sz)).map (zv.cells[· % zv.cells.size]!)) (by intro v hv;rw[dR.1 hv];exact hl) (by simp);have hrun:=Qq (P:=prog) w T E 1 #[(0,a.eval x)] _ ie zv hu hie hzz (by rw[hies];omega) (by rw[hies];omega) (by rw[hies];exact hf);have e:([a.eval x].flatMap fun v=>v.cells.toList).toArray=(a.eval x).cells:=by simp
 rw[e]at hrun;refine av ?_ hK;simp[execOp,ho,fN,hrun]
end
noncomputable def iE:Array Oper:=match aI [1,1,1,0,1,0,0,1,0,0] (aL f128)with
 | .region _ ops _=>ops
 | _=>#[]
def bW5:List Nat:=List.range' 23 14
theorem aY1:Uc iE.toList bW5 163=true:=by kernel_rfl
def Ro(D:Nat->Prop)(n1:Nat)(l:List RQ)(W:World)(v:Value):Prop:=∃xs,W.ownsRow n1 51 4 v l.length xs/\ah D W (rR l).flatten xs
theorem qE{base E sz n:Nat}{v:Value}{xs:List Value}{W W':World}(h:W.ownsRow base E sz v n xs)(hn:∀(k:Nat)(o:Obj),v.ownBlock=some k->base<=k->W.heap[k]?=some o->W'.heap[k]?=some o):W'.ownsRow base E sz v n xs:=by
 refine⟨h.1,?_⟩;rcases h.2 with hn' | ⟨g,cap,cur,e,hbg,hg,rest⟩
 ·exact .inl hn'
 ·exact .inr ⟨g,cap,cur,e,hbg,hn g _ (by rw[e];rfl) hbg hg,rest⟩
theorem Ro.st{D:Nat->Prop}{n1:Nat}{l:List RQ}{W W':World}{v:Value}(h:Ro D n1 l W v)(hk:ao D W D W')(hn:∀(k:Nat)(o:Obj),n1<=k->W.heap[k]?=some o->W'.heap[k]?=some o):Ro D n1 l W' v:=by
 obtain⟨xs,h1,h2⟩:=h;exact⟨xs,qE h1 fun k o _ hk ho=>hn k o hk ho,h2.mono hk⟩
def qv(D:Nat->Prop)(n0 n1:Nat)(va v0 v1:Value)(i:Nat)(r:List RQ)(x:RQ)(vs:List Value):Ps
 | 0,_,_,v=>v=va
 | 1,_,_,v=>v=v0
 | 2,_,_,v=>v=.int .i64 (i:Int)
 | 3,_,W,v=>(aK.one (.aq (cR r))).rep D W v
 | 4,_,W,v=>(aK.one (sR r)).rep D W v
 | 5,L,W,v=>L 11=true\/Ro D n1 r W v
 | 6,_,_,v=>v=v1
 | 7,_,_,v=>v=.int .i64 (i:Int)
 | 8,_,W,v=>(aK.one (.aq (rC x))).rep D W v
 | 9,_,W,v=>(mB x).rep D W v
 | 10,L,W,v=>L 11=true\/∃(c:Nat)(us:List Value),v=.slice (some ⟨c,0,none⟩) 1 1/\n1<=c/\W.heap[c]?=some (.cells us.toArray 51 (0,0))/\ah D W (rC x) us
 | 11,L,W,v=>(L 5=true/\L 10=true)/\(L 13=true\/Ro D n1 (r++[x]) W v)
 | 12,L,W,v=>L 11=true/\(L 13=true\/∃(c:Nat)(u:Value),v=.slice (some ⟨c,0,none⟩) 1 1/\n1<=c/\W.heap[c]?=some (.cells #[u] 32 (0,0))/\Ro D n1 (r++[x]) W u)
 | 13,L,W,v=>(L 5=true/\L 10=true/\L 11=true/\L 12=true)/\∃u,Ro D n1 (r++[x]) W u/\W.ownsRow n0 32 1 v (i+1) (vs++[u])/\∀g,v.ownBlock=some g->va.ownBlock=some g\/(n1<=g/\u.ownBlock≠some g)
 | _+14,_,_,_=>True
section
variable{D:Nat->Prop}{n0 n1 i:Nat}{va v0 v1:Value}{r:List RQ}{x:RQ}{vs:List Value}{L L':Nat->Bool}{W W':World}
theorem Rt{q:Nat}(hk:ao D W D W')(h5:∀v,qv D n0 n1 va v0 v1 i r x vs 5 L W v->qv D n0 n1 va v0 v1 i r x vs 5 L' W' v)(h10:∀v,qv D n0 n1 va v0 v1 i r x vs 10 L W v->qv D n0 n1 va v0 v1 i r x vs 10 L' W' v)(h11:11≠q->∀v,qv D n0 n1 va v0 v1 i r x vs 11 L W v->qv D n0 n1 va v0 v1 i r x vs 11 L' W' v)(h12:∀v,qv D n0 n1 va v0 v1 i r x vs 12 L W v->qv D n0 n1 va v0 v1 i r x vs 12 L' W' v)(h13:13≠q->∀v,qv D n0 n1 va v0 v1 i r x vs 13 L W v->qv D n0 n1 va v0 v1 i r x vs 13 L' W' v):∀(j:Nat)(v:Value),j≠q->qv D n0 n1 va v0 v1 i r x vs j L W v->qv D n0 n1 va v0 v1 i r x vs j L' W' v
 | 0,_,_,h=>h
 | 1,_,_,h=>h
 | 2,_,_,h=>h
 | 3,v,_,h=>show(aK.one (.aq (cR r))).rep D W' v from aK.gJ hk h
 | 4,v,_,h=>show(aK.one (sR r)).rep D W' v from aK.gJ hk h
 | 5,v,_,h=>h5 v h
 | 6,_,_,h=>h
 | 7,_,_,h=>h
 | 8,v,_,h=>show(aK.one (.aq (rC x))).rep D W' v from aK.gJ hk h
 | 9,v,_,h=>show(mB x).rep D W' v from aK.gJ hk h
 | 10,v,_,h=>h10 v h
 | 11,v,hq,h=>h11 hq v h
 | 12,v,_,h=>h12 v h
 | 13,v,hq,h=>h13 hq v h
 | _+14,_,_,_=>trivial
theorem SY{q:Nat}(hL:∀x,L x=true->L' x=true)(hk:ao D W D W')(hn:∀(k:Nat)(o:Obj),n1<=k->W.heap[k]?=some o->W'.heap[k]?=some o)(h13:L 5=true->L 10=true->L 12=true->W'=W):∀(j:Nat)(v:Value),j≠q->qv D n0 n1 va v0 v1 i r x vs j L W v->qv D n0 n1 va v0 v1 i r x vs j L' W' v:=
 Rt hk (fun _ h=>h.imp (hL 11) fun h=>h.st hk hn) (fun _ h=>h.imp (hL 11) fun⟨c,us,h1,h2,h3,h4⟩=>⟨c,us,h1,h2,hn c _ h2 h3,h4.mono hk⟩) (fun _ _ h=>⟨⟨hL _ h.1.1,hL _ h.1.2⟩,h.2.imp (hL 13) fun h=>h.st hk hn⟩)
  (fun _ h=>⟨hL 11 h.1,h.2.imp (hL 13) fun⟨c,u,h1,h2,h3,h4⟩=>⟨c,u,h1,h2,hn c _ h2 h3,h4.st hk hn⟩⟩) fun _ _ h=>by
   obtain⟨⟨h1,h2,h3,h4⟩,h5⟩:=h;obtain rfl:=h13 h1 h2 h4;exact⟨⟨hL _ h1,hL _ h2,hL _ h3,hL _ h4⟩,h5⟩
end
theorem nj{L:Nat->Bool}{i j:Nat}(h:L j=true):Lx L i j=true:=by simp[Lx,h]
theorem Vu{L:Nat->Bool}{i:Nat}:Lx L i i=true:=by simp
theorem XB{M:Nat->Prop}{w W1:World}{a1:Act}{Q:Exit->Act->World->Prop}{va v0 v1:Value}{i:Nat}{A:List (List RQ)}{C:List RQ}{r:List RQ}{x:RQ}{vs:List Value}(hM:bQ M w)(hw:Below w.heap.size w W1)(e0:(eR A).rep M w v0)(e1:(sR C).rep M w v1)(hr:A[i]?=some r)(hx:C[i]?=some x)
  (hown:W1.ownsRow w.heap.size 32 1 va i vs) (hsz:a1.tmps.size=163) (hdf:a1.defers=[]) (t0:a1.tmps.getD 0 undef=v0) (t1:a1.tmps.getD 1 undef=v1) (t7:a1.tmps.getD 7 undef=va) (t8:a1.tmps.getD 8 undef=.int .i64 (i:Int))
  (hQ:∀(a':Act)(W2:World)(v' u:Value)(b:Nat),a'.tmps.size=163->a'.defers=[]->(∀t,t<23->t≠7->a'.tmps.getD t undef=a1.tmps.getD t undef)->a'.tmps.getD 7 undef=v'->W1.grownBy W2 va.ownBlock->W2.ownsRow w.heap.size 32 1 v' (i+1) (vs++[u])->W1.heap.size<=b->nJ 51 4 (rR (r++[x])) (fun k=>M k\/w.heap.size<=k) W2 u b->(∀g,v'.ownBlock=some g->g≠b/\(va.ownBlock=some g\/W1.heap.size<=g))->Q .normal a' W2) (hr0:0<r.length:=by omega) (hrs:r.length<=10000:=by omega) (his:i<=10000:=by omega):(Code.region 6 iE true).wp prog Q a1 W1:=by
 obtain⟨n0,hn0⟩:∃n0,w.heap.size=n0:=⟨_,rfl⟩
 obtain⟨n1,hn1⟩:∃n1,W1.heap.size=n1:=⟨_,rfl⟩
 obtain⟨D,hD⟩:∃D:Nat->Prop,D=fun k=>M k\/n0<=k:=⟨_,rfl⟩
 rw[hn0]at hown hQ;rw[hn1,<-hD]at hQ;have hn01:n0<=n1:=by rw[<-hn0,<-hn1];exact hw.size
 have hvg:∀g,va.ownBlock=some g->n0<=g/\g<n1:=fun g h=>by rw[<-hn1];exact hown.lt g h
 have hlow:∀{W},W1.grownBy W va.ownBlock->∀k,k<n0->W.heap[k]?=w.heap[k]?:=fun {W} hg k hk=>(hg.block k (by omega) fun e=>by have:=hvg k e.symm;omega).trans (hw.block k (by omega))
 have k0:∀{W},W1.grownBy W va.ownBlock->ao M w D W:=fun {W} hg k o hk ho _=>by
  have hlt:=(bt.1 ho).1;rw[hD];exact⟨fun h=>h.elim hk (by omega),(hlow hg k (by omega)).trans ho⟩
 have kd:∀{W W'},W1.grownBy W va.ownBlock->W1.grownBy W' va.ownBlock->ao D W D W':=fun {W W'} h h' k o hk ho _=>by
  rw[hD]at hk;have hlt:k<n0:=OU fun e=>hk (.inr e);exact⟨by rw[hD];exact hk,(hlow h' k hlt).trans ((hlow h k hlt).symm.trans ho)⟩
 have hpre:∀t,t<23->t ∉ bW5:=fun t ht h=>by have:=MN.1 h;omega
 refine uP (B:=fun L _ W=>W1.grownBy W va.ownBlock/\(L 13=false->Below n1 W1 W)) (p:=qv D n0 n1 va v0 v1 i r x vs) aY1 hsz hdf (fun _ _=>⟨⟨rfl,rfl,rfl,aY _,fun _ _ _=>rfl⟩,fun _=>⟨rfl,rfl,rfl,aY _,fun _ _=>rfl⟩⟩) ?_ ?_
 ·intro q d o L a W ho hd hL hdep I K hK;have hq:q<14:=(bg.1 hd).1;obtain⟨hg,hb⟩:=I.w;have hWs:n1<=W.heap.size:=by rw[<-hn1];exact hg.size
  have kp:∀t,t<23->a.tmps.getD t undef=a1.tmps.getD t undef:=fun t ht=>I.dC t (hpre t ht);have l13:∀{q},q≠13->Lx L q 13=false->L 13=false:=fun hq h=>by simpa[Lx,gB hq]using h
  have rd:∀{v:Value},q≠13->(execOp a.eval o).run prog W=.ok (.value v) W->qv D n0 n1 va v0 v1 i r x vs q (Lx L q) W v->o.wp prog a W K Q:=fun hq h hv=>av h (hK _ W ⟨hg,fun h=>hb (l13 hq h)⟩ hv fun j u hj _ h=>SY (fun _=>nj) (kd hg hg) (fun _ _ _ h=>h) (fun _ _ _=>rfl) j u hj h)
  have pr:∀{op:Op}{ty:Nat}{args:List aK}{c:aK},q≠13->ai prog op ty args c->o.op=op->o.type=ty->bZ D W args (op.operands.toList.map a.eval)->(∀v,c.rep D W v->qv D n0 n1 va v0 v1 i r x vs q (Lx L q) W v)->o.wp prog a W K Q:=fun hq hp h1 h2 h3 h4=>by
   obtain⟨v,hv,hr⟩:=hp D W a.eval o h1 h2 h3;exact rd hq hv (h4 v hr)
  have nw:∀{v:Value}{W':World},q=5\/q=10\/q=12->Below W.heap.size W W'->(W1.grownBy W' va.ownBlock->qv D n0 n1 va v0 v1 i r x vs q (Lx L q) W' v)->K (a.put o.dst v) W':=fun {v W'} hq hbw hv=>by
   have hg':W1.grownBy W' va.ownBlock:=⟨hbw.os.trans hg.os,hbw.tape.trans hg.tape,hbw.output.trans hg.output,bF hg.size hbw.size,fun k hk hne=>(hbw.block k (by omega)).trans (hg.block k hk hne)⟩
   refine hK v W' ⟨hg',fun h=>(hb (l13 (by omega) h)).trans (hbw.mono hWs)⟩ (hv hg') fun j u hj _ h=>SY (fun _=>nj) (kd hg hg') (fun k o _ ho=>(hbw.block k (bt.1 ho).1).trans ho) (fun h1 h2 h3=>?_) j u hj h;rcases hq with rfl | rfl | rfl
   ·rw[hL]at h1;cases h1
   ·rw[hL]at h2;cases h2
   ·rw[hL]at h3;cases h3
  match q,hq with
  | 0,_=>
    obtain rfl:=kr ho (rfl:iE[0]?=some _);exact rd (by omega) rfl ((kp 7 (by omega)).trans t7)
  | 1,_=>
    obtain rfl:=kr ho (rfl:iE[1]?=some _);exact rd (by omega) rfl ((kp 0 (by omega)).trans t0)
  | 2,_=>
    obtain rfl:=kr ho (rfl:iE[2]?=some _);exact rd (by omega) rfl ((kp 8 (by omega)).trans t8)
  | 3,_=>
    obtain rfl:=kr ho (rfl:iE[3]?=some _);have h1:a.tmps.getD 24 undef=v0:=I.done 1 24 rfl (hdep 1 (by decide));have h2:a.tmps.getD 25 undef=.int .i64 (i:Int):=I.done 2 25 rfl (hdep 2 (by decide));refine pr (by omega) (aN (f:=cR) uw (x:=.tmp 24) (y:=.tmp 25) (m:=i) (by omega) (al i) hr) rfl rfl ⟨?_,⟨h2,rfl⟩,trivial⟩ fun v hv=>hv;show(eR A).rep D W (a.tmps.getD 24 undef);rw[h1];exact aC.mono _ (k0 hg) e0
  | 4,_=>
    obtain rfl:=kr ho (rfl:iE[4]?=some _);exact pr (by omega) (bO (x:=.tmp 26) (c:=sR r) (show ko prog 32=some (false,1) by kernel_rfl)) rfl rfl ⟨I.done 3 26 rfl (hdep 3 (by decide)),trivial⟩ fun v hv=>hv
  | 5,_=>
    obtain rfl:=kr ho (rfl:iE[5]?=some _);have h4:(sR r).rep D W (a.tmps.getD 27 undef):=I.done 4 27 rfl (hdep 4 (by decide));refine Xd rb (show jD prog 51=some [.int .i64 0,.slice none 0 0,.int .i64 0,.slice none 0 0] by kernel_rfl) (by decide) rfl (x:=.const (.slice none 0 0)) (y:=.tmp 27) (base:=n1) rfl rfl (na _ _ _ _) (pI h4) (by rw[aJ];exact hr0) (by rw[aJ];omega) (by decide) hWs fun v' w' news h1 h2 h3 h5=>?_;have hbw:Below W.heap.size W w':=⟨h2.os,h2.tape,h2.output,h2.size,fun k hk=>h2.block k hk fun e=>by cases e⟩
    exact nw (.inl rfl) hbw fun hg'=>.inr ⟨news,by rw[aJ,bI]at h1;exact h1,h3.mono (kd hg hg')⟩
  | 6,_=>
    obtain rfl:=kr ho (rfl:iE[6]?=some _);exact rd (by omega) rfl ((kp 1 (by omega)).trans t1)
  | 7,_=>
    obtain rfl:=kr ho (rfl:iE[7]?=some _);exact rd (by omega) rfl ((kp 8 (by omega)).trans t8)
  | 8,_=>
    obtain rfl:=kr ho (rfl:iE[8]?=some _);have h1:a.tmps.getD 29 undef=v1:=I.done 6 29 rfl (hdep 6 (by decide));have h2:a.tmps.getD 30 undef=.int .i64 (i:Int):=I.done 7 30 rfl (hdep 7 (by decide));refine pr (by omega) (aN (f:=rC) rb (x:=.tmp 29) (y:=.tmp 30) (m:=i) (by omega) (al i) hx) rfl rfl ⟨?_,⟨h2,rfl⟩,trivial⟩ fun v hv=>hv;show(sR C).rep D W (a.tmps.getD 29 undef);rw[h1];exact aC.mono _ (k0 hg) e1
  | 9,_=>
    obtain rfl:=kr ho (rfl:iE[9]?=some _);exact pr (by omega) (ab (x:=.tmp 31) (cells:=rC x) ag4 (by decide) (aY _) (.inl rfl)) rfl rfl ⟨I.done 8 31 rfl (hdep 8 (by decide)),trivial⟩ fun v hv=>hv
  | 10,_=>
    obtain rfl:=kr ho (rfl:iE[10]?=some _);obtain⟨us,hu,hur⟩:(mB x).rep D W (a.tmps.getD 32 undef):=I.done 9 32 rfl (hdep 9 (by decide));have hc:(a.eval (.tmp 32)).cells=us.toArray:=by show(a.tmps.getD 32 undef).cells=_;rw[hu];rfl
    refine ao8 rb (show jD prog 51=some [.int .i64 0,.slice none 0 0,.int .i64 0,.slice none 0 0] by kernel_rfl) (by decide) (by decide) rfl (x:=.tmp 32) (by rw[hc,cb];exact hur.length.symm) ?_;rw[hc];exact nw (.inr (.inl rfl)) ((cM _ _).alloc (aY _) _) fun hg'=>.inr ⟨_,us,rfl,hWs,dL W _,hur.mono (kd hg hg')⟩
  | 11,_=>
    obtain rfl:=kr ho (rfl:iE[11]?=some _);have h5:=hdep 5 (by decide);have h10:=hdep 10 (by decide);have hn:∀{P:Prop},L 11=true\/P->P:=fun h=>h.resolve_left fun h=>by rw[hL]at h;cases h
    obtain⟨xs,ho5,hr5⟩:=hn (I.done 5 28 rfl h5);obtain⟨c,us,hv,hc,hcell,hur⟩:=hn (I.done 10 33 rfl h10);refine Xd rb (show jD prog 51=some [.int .i64 0,.slice none 0 0,.int .i64 0,.slice none 0 0] by kernel_rfl) (by decide) rfl (x:=.tmp 28) (y:=.tmp 33) (M:=D) (us:=[rC x]) rfl rfl ho5 (.some ⟨c,0,none⟩ 1 us hv hur.length.symm (fun j u hj=>by rw[jU,bI];exact az hcell (by simpa using hj)) (by simpa using hur) (fun t ht=>by rw[dR.1 ht];rfl)) Nat.zero_lt_one (by show r.length+1<=_;omega) (by decide) hWs fun v' w' news h1 h2 h3 _=>?_;have hne:∀k,(a.tmps.getD 28 undef).ownBlock=some k->n1<=k:=fun k h=>(ho5.lt k h).1
    have hb':Below n1 W1 w':=(hb (by
     cases h13:L 13 with
     | false=>rfl
     | true=>have:=(I.done 13 36 rfl h13).1.2.2.1;rw[hL]at this;cases this)).trans ⟨h2.os,h2.tape,h2.output,h2.size,fun k hk=>h2.block k (by omega) fun e=>by have:=hne k e.symm;omega⟩
    have hg':W1.grownBy w' va.ownBlock:=⟨hb'.os,hb'.tape,hb'.output,by have:=h2.size;omega,fun k hk _=>hb'.block k (by omega)⟩
    refine hK v' w' ⟨hg',fun _=>hb'⟩ ⟨⟨nj h5,nj h10⟩,.inr ⟨xs++news,by rw[cK];exact h1,?_⟩⟩ fun j u hj _ h=>Rt (kd hg hg') (fun _ _=>.inl Vu) (fun _ _=>.inl Vu) (fun h=>absurd rfl h) (fun _ h=>(by have:=h.1;rw[hL]at this;cases this)) (fun _ _ h=>(by have:=h.1.2.2.1;rw[hL]at this;cases this)) j u hj h;rw[rR,cP,kW];exact(hr5.append h3).mono (kd hg hg')
  | 12,_=>
    obtain rfl:=kr ho (rfl:iE[12]?=some _)
    have h13:L 13=false:=by
     cases h13:L 13 with
     | false=>rfl
     | true=>have:=(I.done 13 36 rfl h13).1.2.2.2;rw[hL]at this;cases this
    have h11:=hdep 11 (by decide);have hro:Ro D n1 (r++[x]) W (a.tmps.getD 34 undef):=(I.done 11 34 rfl h11).2.resolve_left fun h=>by rw[h13]at h;cases h
    obtain⟨g,n,cap,hu⟩:∃g n cap,a.tmps.getD 34 undef=.slice (some ⟨g,0,none⟩) n cap:=by
     obtain⟨xs,ho',_⟩:=hro;rcases ho'.2 with⟨_,h0⟩ | ⟨g,cap,cur,e,_⟩
     ·rw[cK]at h0;simp at h0
     ·exact⟨g,_,cap,e⟩
    have hc:(a.eval (.tmp 34)).cells=#[a.tmps.getD 34 undef]:=by show(a.tmps.getD 34 undef).cells=_;rw[hu];rfl
    refine ao8 uw (show jD prog 32=some [.slice none 0 0] by kernel_rfl) (by decide) (by decide) rfl (x:=.tmp 34) (by rw[hc];rfl) ?_;rw[hc];exact nw (.inr (.inr rfl)) ((cM _ _).alloc (aY _) _) fun hg'=>⟨nj h11,.inr ⟨_,_,rfl,hWs,dL W _,hro.st (kd hg hg') fun k o hk ho=>(cy _ _ _ (bt.1 ho).1).trans ho⟩⟩
  | 13,_=>
    obtain rfl:=kr ho (rfl:iE[13]?=some _);have h11:=hdep 11 (by decide);have h12:=hdep 12 (by decide);obtain⟨⟨f5,f10⟩,_⟩:=I.done 11 34 rfl h11;obtain⟨c,u,hv,hc,hcell,hro⟩:=(I.done 12 35 rfl h12).2.resolve_left fun h=>by rw[hL]at h;cases h
    have hbw:=hb hL;have h0:a.tmps.getD 23 undef=va:=I.done 0 23 rfl (hdep 0 (by decide));have hownW:W.ownsRow n0 32 1 va i vs:=qE hown fun k o hk _ ho=>(hbw.block k (hvg k hk).2).trans ho
    obtain⟨b,hub,hbl⟩:∃b,u.ownBlock=some b/\n1<=b/\b<W.heap.size:=by
     obtain⟨xs,ho',_⟩:=hro;have hlt:=ho'.lt;rcases ho'.2 with⟨_,h0⟩ | ⟨g,cap,cur,e,_⟩
     ·rw[cK]at h0;simp at h0
     ·exact⟨g,by rw[e];rfl,hlt g (by rw[e];rfl)⟩
    have hu1:u.oneCell'=true:=by
     cases u<;>first | rfl | cases hub
    refine Xd uw (show jD prog 32=some [.slice none 0 0] by kernel_rfl) (by decide) rfl (x:=.tmp 23) (y:=.tmp 35) (M:=D) (us:=[xV u]) h0 rfl hownW (.some ⟨c,0,none⟩ 1 [u] hv rfl (fun j u' hj=>by rw[jU,bI];exact az hcell (by simpa using hj)) ⟨⟨rfl,hu1⟩,trivial⟩ (fun t ht=>by rw[dR.1 ht];rfl)) Nat.zero_lt_one (by show i+1<=_;omega) (by decide) (by omega) fun v' w' news h1 h2 h3 h5=>?_;obtain rfl:=OH (vs:=[u]) h3;have hg':W1.grownBy w' va.ownBlock:=⟨h2.os.trans hg.os,h2.tape.trans hg.tape,h2.output.trans hg.output,bF hg.size h2.size,fun k hk hne=>(h2.block k (by omega) hne).trans (hg.block k hk hne)⟩
    refine hK v' w' ⟨hg',fun h=>by rw[Vu]at h;cases h⟩ ⟨⟨nj f5,nj f10,nj h11,nj h12⟩,u,hro.st (kd hg hg') (fun k o hk ho=>(h2.block k (bt.1 ho).1 fun e=>by have:=(hvg k e.symm).2;omega).trans ho),h1,fun g hg2=>?_⟩ fun j u' hj _ h=>Rt (kd hg hg') (fun _ _=>.inl (nj h11)) (fun _ _=>.inl (nj h11)) (fun _ _ h=>⟨⟨nj h.1.1,nj h.1.2⟩,.inl Vu⟩) (fun _ h=>⟨nj h.1,.inl Vu⟩) (fun h=>absurd rfl h) j u' hj h;rcases h5 with h5 | h5
    ·exact .inl (h5▸hg2)
    ·rw[h5]at hg2;obtain rfl:=bh hg2;exact .inr ⟨hWs,fun e=>by rw[hub]at e;have:=bh e;omega⟩
 ·intro o L a W ho hall I;obtain rfl:=kr ho (rfl:iE[14]?=some _);obtain⟨hg,_⟩:=I.w;obtain⟨_,u,⟨xs,hou,hur⟩,hov,hvb⟩:=I.done 13 36 rfl (hall 13 (by decide));have hp:∀t v,(a.put (some 7) v).tmps.getD t undef=if t=7 then v else a.tmps.getD t undef:=fun t v=>mz (by rw[I.sz];omega)
  rcases hou.2 with⟨_,h0⟩ | ⟨b,cap,cur,e,hb1,hbc,hbn,hbm,hbs,hbt⟩
  ·rw[cK]at h0;simp at h0
  refine av rfl (hQ _ W (a.tmps.getD 36 undef) u b (by show(a.tmps.setIfInBounds _ _).size=_;rw[sf];exact I.sz) I.df (fun t ht hne=>((hp t _).trans (aH hne)).trans (I.dC t (hpre t ht))) ((hp 7 _).trans (aD rfl)) hg hov hb1 ⟨fun t ht=>?_,cap,cur,by rw[aJ];exact e,hbc,by rw[aJ];exact hbn,hbm,hbs.symm,by rw[aJ,hbt];exact hur⟩ fun g hg2=>?_)
  ·obtain⟨y,_,rfl⟩:=dn.1 ht;rfl
  ·rcases hvb g hg2 with h | ⟨h,h'⟩
   ·exact⟨fun e'=>by have:=(hvg g h).2;omega,.inl h⟩
   ·exact⟨fun e'=>h' (by rw[e,e'];rfl),.inr h⟩
def qs(rk:List (List RQ)):List (List Rat):=rk.map fun r=>r.map RQ.q
theorem qe{rk:List (List RQ)}{i:Nat}{r:List RQ}(h:rk[i]?=some r):(qs rk)[i]?=some (r.map RQ.q):=by rw[qs,cU,h];rfl
theorem XF(rk:List (List RQ))(i:Nat)(r:List RQ):qs (rk.set i r)=(qs rk).set i (r.map RQ.q):=qD
theorem gM(r:List RQ)(j:Nat):(r.map RQ.q).getD j 0=(r.getD j RQ.nil).q:=by
 rw[ew,ew,cU];cases r[j]? <;> rfl
theorem AM{rk:List (List RQ)}{i:Nat}{r:List RQ}(h:rk[i]?=some r):(qs rk).getD i []=r.map RQ.q:=by rw[ew,qe h];rfl
theorem bb4{rk:List (List RQ)}{k i:Nat}{x y:List RQ}(hx:rk[k]?=some x)(hy:rk[i]?=some y):qs (fu rk i k y x)=iH (qs rk) k i:=by
 rw[iH,AM hx,AM hy,fu,XF,XF];by_cases e:i=k
 ·subst e;rw[hx]at hy;cases hy;rfl
 ·exact List.set_comm _ _ e
def xE(A:List (List RQ))(C:List RQ):List (List RQ):=(A.zip C).map fun p=>p.1++[p.2]
theorem aT2(A:List (List RQ))(C:List RQ):qs (xE A C)=rowsOf A C:=by
 rw[qs,xE,rowsOf,ef];exact jJ fun p _=>by show(p.1++[p.2]).map RQ.q=_;rw[cP];rfl
theorem aO2{A:List (List RQ)}{C:List RQ}{i:Nat}{r:List RQ}{x:RQ}(hr:A[i]?=some r)(hx:C[i]?=some x):(xE A C)[i]?=some (r++[x]):=by
 rw[xE,cU,(Zb (z:=(r,x))).2 ⟨hr,hx⟩];rfl
section
variable{D N:Nat->Prop}{va:Value}{m:Nat}{vs:List Value}{bs:List Nat}{rk:List (List RQ)}{W W':World}
theorem Tb.swap(h:Tb D va m vs bs rk W){g cap k i bx by':Nat}{x y:Value}{p q:List RQ}{E:Nat->Prop}{cur cur':Array Value}(hva:va=.slice (some ⟨g,0,none⟩) m cap)(hx:vs[k]?=some x)(hy:vs[i]?=some y)(hbx:bs[k]?=some bx)(hby:bs[i]?=some by')(hp:rk[k]?=some p)(hq:rk[i]?=some q)
  (hW:W.grownBy W' (some g)) (hc:W.heap[g]?=some (.cells cur 32 (0,0))) (hc':W'.heap[g]?=some (.cells cur' 32 (0,0))) (hs:cur'.size=cur.size) (hrep:ah E W' ((fu vs i k y x).map xV).flatten (cur'.toList.take m)):Tb D va m (fu vs i k y x) (fu bs i k by' bx) (fu rk i k q p) W':=by
 have hlv:=h.lv;have hlr:=h.lr;have hlb:=h.lb;have hdg:=h.dg g (by rw[hva];rfl)
 have hmem:∀b∈fu bs i k by' bx,b∈bs:=fun b hb=>by
  obtain⟨j,hj⟩:=jn hb;rw[ek hby hbx]at hj;exact cq hj
 refine⟨⟨by rw[iz];omega,?_⟩,by rw[iz];exact hlr,by rw[iz];exact hlb,?_,fun j v b r e1 e2 e3=>?_,fun b hb=>h.db b (hmem b hb),fun g' hg'=>⟨(h.dg g' hg').1,fun e=>(h.dg g' hg').2 (hmem _ e)⟩⟩
 ·rcases h.own.2 with⟨e,_⟩ | ⟨g',cap',cur0,e,_,hg,h1,h2,h3,_⟩
  ·rw[hva]at e;cases e
  ·rw[hva]at e;simp only[iB,aU,fy,cT,lW]at e;obtain⟨rfl,rfl⟩:=e;rw[hc]at hg;simp only[aU,iy,cT]at hg;subst hg;exact .inr ⟨g,cap,cur',hva,cL _,hc',h1,h2,hs.trans h3,by rw[de];exact OH hrep⟩
 ·intro a b c e1 e2;rw[ek hby hbx]at e1 e2;exact aB6 (h.inj _ _ _ e1 e2)
 ·rw[ek hy hx]at e1;rw[ek hby hbx]at e2;rw[ek hq hp]at e3;have hbm:=cq e2;exact(h.row _ _ _ _ e1 e2 e3).mono (gY hdg.1 hW) (hW.block b (h.lt (.inl hbm)) fun e=>hdg.2 (bh e▸hbm))
theorem Tb.snoc(h:Tb D va m vs bs rk W){n0 b:Nat}{u v':Value}{r:List RQ}(hg:W.grownBy W' va.ownBlock)(hD:∀k,n0<=k->D k)(hn:n0<=W.heap.size)(hk:ao D W D W')(hown:W'.ownsRow n0 32 1 v' (m+1) (vs++[u]))(hb:W.heap.size<=b)(hr:nJ 51 4 (rR r) D W' u b)(hv:∀g,v'.ownBlock=some g->g≠b/\(va.ownBlock=some g\/W.heap.size<=g)):Tb D v' (m+1) (vs++[u]) (bs++[b]) (rk++[r]) W':=by
 have hlv:=h.lv;have hlr:=h.lr;have hlb:=h.lb;have hlt:∀b'∈bs,b'<W.heap.size:=fun b' h'=>h.lt (.inl h');refine⟨vu hown (cL _),by rw[cK,hlr];rfl,by rw[cK,hlb];rfl,fun i j c e1 e2=>?_,fun j v b' r' e1 e2 e3=>?_,fun b' hb'=>?_,fun g hg2=>⟨hD g (hown.lt g hg2).1,fun hgm=>?_⟩⟩
 ·have key:∀{i},(bs++[b])[i]?=some c->(i<m/\bs[i]?=some c/\c<W.heap.size)\/(i=m/\c=b):=fun {i} e=>by
   by_cases hi:i<m
   ·rw[eN (by omega)]at e;exact .inl ⟨hi,e,hlt c (cq e)⟩
   ·have:i=m:=by have:=(bg.1 e).1;rw[cK]at this;simp at this;omega
    subst this;rw[fW (by omega),hlb,eV]at e;cases e;exact .inr ⟨rfl,rfl⟩
  rcases key e1 with⟨_,h1,h2⟩ | ⟨h1,h2⟩<;>rcases key e2 with⟨_,k1,k2⟩ | ⟨k1,k2⟩
  ·exact h.inj _ _ _ h1 k1
  ·omega
  ·omega
  ·omega
 ·by_cases hj:j<m
  ·rw[eN (by omega)]at e1 e2 e3;have hbm:=cq e2;exact(h.row _ _ _ _ e1 e2 e3).mono hk (hg.block b' (hlt b' hbm) fun e=>(h.dg b' e.symm).2 hbm)
  ·have hjm:j=m:=by have:=(bg.1 e2).1;rw[cK]at this;simp at this;omega
   subst hjm;rw[fW (by omega),hlv,eV]at e1;rw[fW (by omega),hlb,eV]at e2;rw[fW (by omega),hlr,eV]at e3;cases e1;cases e2;cases e3;exact hr
 ·rcases eL.1 hb' with h' | h'
  ·exact h.db b' h'
  ·rw[dR.1 h'];exact hD b (by omega)
 ·obtain⟨h1,h2⟩:=hv g hg2;rcases eL.1 hgm with h' | h'
  ·rcases h2 with h2 | h2
   ·exact(h.dg g h2).2 h'
   ·have:=hlt g h';omega
  ·exact h1 (dR.1 h')
end
structure SJ(D:Nat->Prop)(w:World)(va:Value)(m c:Nat)(vs:List Value)(bs:List Nat)(rk:List (List RQ))(a:Act)(W:World):Prop where
 sz:a.tmps.size=163
 df:a.defers=[]
 t6:a.tmps.getD 6 undef=.int .i64 (m:Int)
 t7:a.tmps.getD 7 undef=va
 tb:Tb D va c vs bs rk W
 bel:Below w.heap.size w W
theorem SJ.pc{D N:Nat->Prop}{w:World}{va:Value}{m n:Nat}{vs:List Value}{bs:List Nat}{rk:List (List RQ)}{a:Act}{W:World}{Q:Exit->Act->World->Prop}{c c':Code}{ins:List (Nat×Arg)}{xs:List In}{hints:Nat->Option Hint}{outs:List Nat}{rs:List aK}(J:SJ D w va m n vs bs rk a W)(hF:bQ N W)(hin:aj In.Is (ins.map (·.2)) xs)
  (h:vc prog (fun o=>bC o (.ret rs)) (ae prog 163 hints c' ins (outs.map ResultVar.tmp) none false) (xs.map In.env) []) (hc:c'=c) (h67:(wr c 6 || wr c 7)=false) (hv:bZ N W (xs.map In.ty) (ins.map fun p=>a.tmps.getD p.1 undef))
  (hQ:∀a' W',Ag (wr c) a a'->SJ D w va m n vs bs rk a' W'->Below W.heap.size W W'->bZ N W' rs (outs.map fun t=>a'.tmps.getD t undef)->Q .normal a' W'):c.wp prog Q a W:=by
 rw[iW]at h67;refine bU jO.wp (n0:=W.heap.size) fo hin (tR h) hc (aY _) hF J.sz J.df hv ?_;intro a' W' us hag hb hsz hdf hr hrep;have hus:=bJ hr;subst hus;exact hQ a' W' hag ⟨hsz,hdf,(aP hag 6 h67.1).trans J.t6,(aP hag 7 h67.2).trans J.t7,J.tb.below hb,J.bel.trans (hb.mono J.bel.size)⟩ hb hrep
theorem ay9{T:List (List Rat)}{k i:Nat}(h:Lj k T=some i):∃p,T[k+i]?=some p/\p.getD k 0≠0/\∀j r,j<i->T[k+j]?=some r->r.getD k 0=0:=by
 obtain⟨hl,h1,h2⟩:=NS.1 h;have hl':=hl;rw[cj]at hl';refine⟨T[k+i]'(by omega),bB _,?_,fun j r hj hr=>?_⟩
 ·rw[NK]at h1
  simpa using h1
 ·have:=h2 j hj;rw[NK]at this;obtain⟨hlt,e⟩:=bg.1 hr;rw[e]at this
  simpa using this
def DG(k:Nat)(T:List (List Rat)):Prop:=∀j r,j<k->T[j]?=some r->r.getD j 0≠0
theorem ai8{T:List (List Rat)}{k i j:Nat}(h:j<k)(hi:k<=i):(iH T k i)[j]?=T[j]?:=by
 rw[iH,kI (by omega),kI (by omega)]
theorem aV6{T:List (List Rat)}{k i n:Nat}{p:List Rat}(hd:DG k T)(hi:k<=i)(hp:(iH T k i)[k]?=some p)(h0:p.getD k 0≠0):DG (k+1) (cu k (iH T k i) n):=by
 intro j r hj hr;by_cases e:j=k
 ·subst e;rw[lJ (.inr rfl) hp]at hr;cases hr;exact h0
 ·have hjk:j<k:=by omega
  rw[ff,ai8 hjk hi,qS]at hr;obtain⟨r1,hr1,rfl⟩:=hr;have h1:=hd j r1 hjk hr1;split
  ·unfold ez;split
   ·exact h1
   ·rw[ew,nV];rw[ew]at h1;cases h2:r1[j]? with
    | none=>rw[h2]at h1;exact absurd rfl h1
    | some a=>rw[h2]at h1;rw[cJ,aH (by omega)];exact h1
  ·exact h1
theorem XE(k:Nat)(p r:List Rat)(h0:r.getD k 0≠0):nm k p (r.getD k 0/p.getD k 0) r r.length=ez k p r:=by rw[ez,aH h0]
theorem Od{k:Nat}{p r:List Rat}(h0:r.getD k 0=0):ez k p r=r:=by rw[ez,aD h0]
noncomputable abbrev cH(p:List Nat):Code:=aI p (aL f128)
theorem cd6{D:Nat->Prop}{w:World}{va:Value}{m:Nat}{vs:List Value}{bs:List Nat}{rk:List (List RQ)}{a:Act}{W:World}{Q:Exit->Act->World->Prop}{i k A B:Nat}{r p:List RQ}{f:Rat}(J:SJ D w va m m vs bs rk a W)(hF:bQ D W)(hbn:∀b∈bs,w.heap.size<=b)(hr:rk[i]?=some r)(hp:rk[k]?=some p)(hik:i≠k)(hrl:r.length=m+1)(hpl:p.length=m+1)(hkm:k<m)(hms:m<=1000)
  (hfr:∀j,Fit A (r.getD j RQ.nil).q) (hfp:∀j,Fit A (p.getD j RQ.nil).q) (hff:Fit B f) (t9:a.tmps.getD 9 undef=.int .i64 (k:Int)) (t11:a.tmps.getD 11 undef=.int .i64 (i:Int)) (t13:a.tmps.getD 13 undef=.int .i64 (k:Int)) (t12:(aC.aq (rC (.of f))).rep D W (a.tmps.getD 12 undef))
  (hQ:∀(a':Act)(W':World)(r':List RQ),SJ D w va m m vs bs (rk.set i r') a' W'->bQ D W'->r'.map RQ.q=nm k (p.map RQ.q) f (r.map RQ.q) (m+1)->a'.tmps.getD 9 undef=.int .i64 (k:Int)->a'.tmps.getD 11 undef=.int .i64 (i:Int)->Q .normal a' W') (hAB:B+A+A<=4294967296:=by omega):(Code.block 8 (.loop (cH [1,1,1,1,0,1,0,0,1,0,0,1,1,1,1,1,0,0,1,0,0,1,1,1,0,0]))).wp prog Q a W:=by
 have hil:=(bg.1 hr).1
 refine mn (wu (fun z a' W'=>∃(j:Nat)(r':List RQ),z=m+1-j/\k<=j/\j<=m+1/\SJ D w va m m vs bs (rk.set i r') a' W'/\bQ D W'/\r'.length=m+1/\r'.map RQ.q=nm k (p.map RQ.q) f (r.map RQ.q) j/\a'.tmps.getD 9 undef=.int .i64 (k:Int)/\a'.tmps.getD 11 undef=.int .i64 (i:Int)/\a'.tmps.getD 13 undef=.int .i64 (j:Int)/\(aC.aq (rC (.of f))).rep D W' (a'.tmps.getD 12 undef)) (m+1-k)
  ⟨k,r,rfl,aY _,by omega,by rw[yE hr];exact J,hF,hrl,by rw[DF],t9,t11,t13,t12⟩ ?_)
 clear J hF t9 t11 t13 t12 a W;rintro z a2 W2 ⟨j,r',rfl,hkj,hjm,J2,hF2,hrl2,he,t9,t11,t13,t12⟩;show(Code.seq (Code.seq (cH [1,1,1,1,0,1,0,0,1,0,0,1,1,1,1,1,0,0,1,0,0,1,1,1,0,0,0,0]) (.cond (.tmp 113) .skip (.exit 8))) (.seq (.block 9 (.region 24 dz true)) (cH [1,1,1,1,0,1,0,0,1,0,0,1,1,1,1,1,0,0,1,0,0,1,1,1,0,0,1,1]))).wp prog _ _ _;refine bD (bD (J2.pc hF2 (ins:=[(6,.v none),(13,.v none)]) (xs:=[.v (.one (.int .i64 (m:Int))),.v (.one (.int .i64 (j:Int)))]) ⟨rfl,rfl,trivial⟩ (bU6 m j) rfl (by kernel_rfl) ⟨⟨J2.t6,rfl⟩,⟨t13,rfl⟩,trivial⟩ ?_));intro a3 W3 hag J3 hb3 hrep;have q:a3.tmps.getD 113 undef=.bool (decide ((j:Int)<=(m:Int))):=hrep.1.1;replace t9:=(aP hag 9 (by kernel_rfl)).trans t9;replace t11:=(aP hag 11 (by kernel_rfl)).trans t11;replace t13:=(aP hag 13 (by kernel_rfl)).trans t13;replace t12:(aC.aq (rC (.of f))).rep D W3 (a3.tmps.getD 12 undef):=by rw[aP hag 12 (by kernel_rfl)];exact aC.mono _ (ao.below hb3) t12
 replace hF2:=aa hF2 hb3;clear hag hb3 hrep J2;refine qW (t:=decide ((j:Int)<=(m:Int))) q ?_;by_cases hlt:(j:Int)<=(m:Int)
 ·rw[cS hlt];refine pz ?_;have hv:(r'.getD j RQ.nil).q=(r.getD j RQ.nil).q:=by rw[<-gM,<-gM,he,TO _ _ _ _ (aY j)]
  refine bD (mn (VU hF2 J3.tb (i:=i) (j:=j) (k:=k) (A:=A) (B:=B) (r:=r') (p:=p) (f:=f) (iV hil) (by rw[kI hik];exact hp) (by omega) (by omega) (by rw[hv];exact hfr j) (hfp j) hff hAB J3.sz J3.df J3.t7 t9 t11 t13 t12 ?_));intro a4 W4 b hsz4 hdf4 hag4 hbm hg4 hF4 T4;rw[Nk]at T4;have hbb:=hbn b hbm;have J4:SJ D w va m m vs bs (rk.set i (r'.set j (.of ((r'.getD j RQ.nil).q-f*(p.getD j RQ.nil).q)))) a4 W4:=⟨hsz4,hdf4,(hag4 6 (by omega)).trans J3.t6,(hag4 7 (by omega)).trans J3.t7,T4,hg4.os.trans J3.bel.os,hg4.tape.trans J3.bel.tape,hg4.output.trans J3.bel.output,bF J3.bel.size hg4.size,fun q hq=>(hg4.block q (br hq J3.bel.size) fun e=>by have:=bh e;omega).trans (J3.bel.block q hq)⟩
  refine J4.pc hF4 (ins:=[(13,.v none)]) (xs:=[.v (.one (.int .i64 (j:Int)))]) ⟨rfl,trivial⟩ (cc7 j) rfl (by kernel_rfl) ⟨⟨(hag4 13 (by omega)).trans t13,rfl⟩,trivial⟩ ?_;intro a5 W5 hag5 J5 hb5 hrep5;refine⟨m+1-(j+1),by omega,j+1,_,rfl,by omega,by omega,J5,aa hF4 hb5,by rw[bH];exact hrl2,?_,(aP hag5 9 (by kernel_rfl)).trans ((hag4 9 (by omega)).trans t9),(aP hag5 11 (by kernel_rfl)).trans ((hag4 11 (by omega)).trans t11),hrep5.1.1,?_⟩
  ·rw[qD,RQ.Jn,hv,he,<-gM,<-gM,LO _ _ _ _ hkj]
  ·rw[aP hag5 12 (by kernel_rfl),hag4 12 (by omega)];exact aC.mono _ (ao.below hb5) (aC.mono _ (gY (J3.tb.db b hbm) hg4) t12)
 ·rw[dh hlt];obtain rfl:j=m+1:=by omega
  exact tB (jr (hQ _ _ r' J3 hF2 he t9 t11))
theorem bR8{D M:Nat->Prop}{w:World}{va:Value}{m:Nat}{vs:List Value}{bs:List Nat}{rk:List (List RQ)}{a:Act}{W:World}{Q:Exit->Act->World->Prop}{k G:Nat}{p:List RQ}(J:SJ D w va m m vs bs rk a W)(hF:bQ D W)(hbn:∀b∈bs,w.heap.size<=b)(hMD:∀q,M q->D q)(hMn:∀q,(q∈bs\/va.ownBlock=some q)->¬M q)(hp:rk[k]?=some p)(hp0:(p.getD k RQ.nil).q≠0)(hT:yM m (m+1) G (qs rk))(hG1:1<=G)(hG:G<=1000000000)(hkm:k<m)(hms:m<=1000)
  (t9:a.tmps.getD 9 undef=.int .i64 (k:Int)) (t11:a.tmps.getD 11 undef=.int .i64 ((0:Nat):Int))
  (hQ:∀(a':Act)(W':World)(rk':List (List RQ)),SJ D w va m m vs bs rk' a' W'->bQ D W'->qs rk'=cu k (qs rk) m->a'.tmps.getD 9 undef=.int .i64 (k:Int)->Q .normal a' W'):(Code.block 6 (.loop (cH [1,1,1,1,0,1,0,0,1,0,0,1,1,1,1,1,0,0]))).wp prog Q a W:=by
 refine mn (wu (fun z a' W'=>∃(i:Nat)(rk':List (List RQ)),z=m-i/\i<=m/\SJ D w va m m vs bs rk' a' W'/\bQ D W'/\qs rk'=cu k (qs rk) i/\a'.tmps.getD 9 undef=.int .i64 (k:Int)/\a'.tmps.getD 11 undef=.int .i64 (i:Int)) (m-0)
  ⟨0,rk,rfl,cL _,J,hF,by rw[vh],t9,t11⟩ ?_)
 clear J hF t9 t11 a W;rintro z a2 W2 ⟨i,rk',rfl,him,J2,hF2,he,t9,t11⟩;show(Code.seq (Code.seq (cH [1,1,1,1,0,1,0,0,1,0,0,1,1,1,1,1,0,0,0,0]) (.cond (.tmp 78) .skip (.exit 6))) (.seq (.block 7 (.seq (.seq (cH [1,1,1,1,0,1,0,0,1,0,0,1,1,1,1,1,0,0,1,0,0,0,0]) (.cond (.tmp 94) (.exit 7) .skip)) (.seq (.region 20 gO true) (.seq (cH [1,1,1,1,0,1,0,0,1,0,0,1,1,1,1,1,0,0,1,0,0,1,1,0]) (.block 8 (.loop (cH [1,1,1,1,0,1,0,0,1,0,0,1,1,1,1,1,0,0,1,0,0,1,1,1,0,0]))))))) (cH [1,1,1,1,0,1,0,0,1,0,0,1,1,1,1,1,0,0,1,1]))).wp prog _ _ _;refine bD (bD (J2.pc hF2 (ins:=[(6,.v none),(11,.v none)]) (xs:=[.v (.one (.int .i64 (m:Int))),.v (.one (.int .i64 (i:Int)))]) ⟨rfl,rfl,trivial⟩ (bR0 m i) rfl (by kernel_rfl) ⟨⟨J2.t6,rfl⟩,⟨t11,rfl⟩,trivial⟩ ?_));intro a3 W3 hag J3 hb3 hrep;have q:a3.tmps.getD 78 undef=.bool (decide ((i:Int)<(m:Int))):=hrep.1.1;replace t9:=(aP hag 9 (by kernel_rfl)).trans t9;replace t11:=(aP hag 11 (by kernel_rfl)).trans t11;replace hF2:=aa hF2 hb3;clear hag hb3 hrep J2;refine qW (t:=decide ((i:Int)<(m:Int))) q ?_;by_cases hlt:(i:Int)<(m:Int)
 rotate_left
 ·rw[dh hlt];obtain rfl:i=m:=by omega
  exact tB (jr (hQ _ _ rk' J3 hF2 he t9))
 rw[cS hlt];refine pz ?_;have hlr:=J3.tb.lr;obtain⟨r,hr⟩:∃r,rk'[i]?=some r:=⟨_,bB (by omega)⟩
 obtain⟨p',hp'⟩:∃p',rk'[k]?=some p':=⟨_,bB (by omega)⟩
 have hqp:=qe hp
 have hpq:p'.map RQ.q=p.map RQ.q:=by
  have:=qe hp';rw[he,lJ (.inr rfl) hqp]at this;exact(bh this).symm
 have hqr:(qs rk)[i]?=some (r.map RQ.q):=by
  have h1:=qe hr;rw[he,ff]at h1;cases h2:(qs rk)[i]? with
  | none=>rw[h2]at h1;cases h1
  | some x=>rw[h2,cJ,aH (by omega)]at h1;exact h1
 have hkp:(qs rk).getD k []=p.map RQ.q:=AM hp;obtain⟨hrl,hrf⟩:=hT.row _ (cq hqr);obtain⟨hpl,hpf⟩:=hT.row _ (cq hqp);have hpl':p'.length=m+1:=by rw[<-hpq,aJ]at hpl;exact hpl
 rw[aJ]at hrl hpl;have hp0':(p'.getD k RQ.nil).q≠0:=by rw[<-gM,hpq,gM];exact hp0
 have hfr:∀j,Fit G (r.getD j RQ.nil).q:=fun j=>by rw[<-gM];exact sO hG1 hrf j
 have hfp:∀j,Fit G (p'.getD j RQ.nil).q:=fun j=>by rw[<-gM,hpq];exact sO hG1 hpf j
 refine wp_seq_k fun K hK=>mn ?_
 have hend:∀(a':Act)(W':World)(rk2:List (List RQ)),SJ D w va m m vs bs rk2 a' W'->bQ D W'->qs rk2=cu k (qs rk) (i+1)->a'.tmps.getD 9 undef=.int .i64 (k:Int)->a'.tmps.getD 11 undef=.int .i64 (i:Int)->K a' W':=by
  intro a4 W4 rk2 J4 hF4 he4 q9 q11;refine hK _ _ (J4.pc hF4 (ins:=[(11,.v none)]) (xs:=[.v (.one (.int .i64 (i:Int)))]) ⟨rfl,trivial⟩ (bZ9 i) rfl (by kernel_rfl) ⟨⟨q11,rfl⟩,trivial⟩ ?_);intro a5 W5 hag5 J5 hb5 hrep5;exact⟨m-(i+1),by omega,i+1,rk2,rfl,by omega,J5,aa hF4 hb5,he4,(aP hag5 9 (by kernel_rfl)).trans q9,hrep5.1.1⟩
 clear hK;have t7r:(eR rk').rep M W3 (a3.tmps.getD 7 undef):=by rw[J3.t7];exact J3.tb.eR hMD hMn
 refine bD (bD (J3.pc (N:=M) (hU hF2 hMD) (ins:=[(7,.v none),(9,.v none),(11,.v none)]) (xs:=[.v (.one (eR rk')),.v (.one (.int .i64 (k:Int))),.v (.one (.int .i64 (i:Int)))]) ⟨rfl,rfl,rfl,trivial⟩ (bN4 rk' k i r hr) rfl (by kernel_rfl) ⟨t7r,⟨t9,rfl⟩,⟨t11,rfl⟩,trivial⟩ ?_));intro a4 W4 hag4 J4 hb4 hrep4;have q4:a4.tmps.getD 94 undef=.bool (decide (i=k\/(r.getD k RQ.nil).q=0)):=hrep4.1.1;replace t9:=(aP hag4 9 (by kernel_rfl)).trans t9;replace t11:=(aP hag4 11 (by kernel_rfl)).trans t11;replace hF2:=aa hF2 hb4;clear hag4 hb4 hrep4 J3 q t7r;refine qW (t:=decide (i=k\/(r.getD k RQ.nil).q=0)) q4 ?_;by_cases hor:i=k\/(r.getD k RQ.nil).q=0
 ·rw[cS hor];refine tB (DY (hend _ _ rk' J4 hF2 ?_ t9 t11));by_cases hik:i=k
  ·rw[vw k (qs rk) hik];exact he
  ·have h0:=hor.resolve_left hik;rw[<-oC hik hqr,hkp,Od (by rw[gM];exact h0),<-he,yE (qe hr)]
 rw[dh hor];refine pz ?_;have hik:i≠k:=fun e=>hor (.inl e);have hr0:(r.getD k RQ.nil).q≠0:=fun e=>hor (.inr e);refine bD (WX hF2 J4.tb (i:=i) (k:=k) (A:=G) (r:=r) (p:=p') hr hp' (by omega) (by omega) (hfr k) (hfp k) hp0' (by omega) J4.sz J4.df J4.t7 t9 t11 ?_);intro a5 W5 hsz5 hdf5 hag5 hb5 t12;have J5:SJ D w va m m vs bs rk' a5 W5:=⟨hsz5,hdf5,(hag5 6 (by omega)).trans J4.t6,(hag5 7 (by omega)).trans J4.t7,J4.tb.below hb5,J4.bel.trans (hb5.mono J4.bel.size)⟩
 replace t9:=(hag5 9 (by omega)).trans t9;replace t11:=(hag5 11 (by omega)).trans t11;replace hF2:=aa hF2 hb5;clear hag5 hb5 J4 q4;refine bD (J5.pc hF2 (ins:=[(9,.v none)]) (xs:=[.v (.one (.int .i64 (k:Int)))]) ⟨rfl,trivial⟩ (bQ5 k) rfl (by kernel_rfl) ⟨⟨t9,rfl⟩,trivial⟩ ?_);intro a6 W6 hag6 J6 hb6 hrep6;refine cd6 J6 (aa hF2 hb6) hbn hr hp' hik hrl hpl' hkm hms hfr hfp ((hfr k).div (hfp k)) ((aP hag6 9 (by kernel_rfl)).trans t9) ((aP hag6 11 (by kernel_rfl)).trans t11) hrep6.1.1 (by rw[aP hag6 12 (by kernel_rfl)];exact aC.mono _ (ao.below hb6) t12) ?_;intro a7 W7 r' J7 hF7 he7 q9 q11;refine hend _ _ _ J7 hF7 ?_ q9 q11;rw[XF,he7,he,hpq,<-oC hik hqr,hkp,<-XE k _ _ (by rw[gM];exact hr0),aJ,hrl,gM,gM,<-gM p',hpq,gM]
theorem ZA{D:Nat->Prop}{W:World}:∀{vs:List Value},(∀u∈vs,u.oneCell'=true)->ah D W (vs.map xV).flatten vs
 | [],_=>trivial
 | v::vs,h=>⟨⟨rfl,h v dJ⟩,ZA fun u hu=>h u (dS _ hu)⟩
theorem bM5{D M:Nat->Prop}{w:World}{va:Value}{m B:Nat}{vs:List Value}{bs:List Nat}{rk:List (List RQ)}{rs:List (List Rat)}{a:Act}{W:World}{Q:Exit->Act->World->Prop}(J:SJ D w va m m vs bs rk a W)(hF:bQ D W)(hbn:∀b∈bs,w.heap.size<=b)(hMD:∀q,M q->D q)(hMw:∀q,M q->q<w.heap.size)(hvn:∀g,va.ownBlock=some g->w.heap.size<=g)(hT:yM m (m+1) B (qs rk))(hB1:1<=B)(hgB:∀k,k<=m->gA B k<=1000000000)(hms:m<=1000)(hsv:ga m 0 (qs rk)=some rs)
  (t9:a.tmps.getD 9 undef=.int .i64 ((0:Nat):Int))
  (hQ:∀(a':Act)(W':World)(vs':List Value)(bs':List Nat)(rk':List (List RQ)),SJ D w va m m vs' bs' rk' a' W'->bQ D W'->(∀b∈bs',w.heap.size<=b)->qs rk'=rs->yM m (m+1) (gA B m) rs->DG m rs->Q .normal a' W'):(Code.block 2 (.loop (cH [1,1,1,1,0,1,0,0]))).wp prog Q a W:=by
 refine mn (wu (fun z a' W'=>∃(k:Nat)(vs':List Value)(bs':List Nat)(rk':List (List RQ)),z=m-k/\k<=m/\SJ D w va m m vs' bs' rk' a' W'/\bQ D W'/\(∀b∈bs',w.heap.size<=b)/\yM m (m+1) (gA B k) (qs rk')/\DG k (qs rk')/\ga (m-k) k (qs rk')=some rs/\a'.tmps.getD 9 undef=.int .i64 (k:Int)) (m-0)
  ⟨0,vs,bs,rk,rfl,cL _,J,hF,hbn,hT,fun j r h=>absurd h (Nat.not_lt_zero j),hsv,t9⟩ ?_)
 clear J hF hbn hT hsv t9 a W vs bs rk;rintro z a2 W2 ⟨k,vs,bs,rk,rfl,hkm,J2,hF,hbn,hT,hd,hsv,t9⟩;show(Code.seq (Code.seq (cH [1,1,1,1,0,1,0,0,0,0]) (.cond (.tmp 39) .skip (.exit 2))) (.seq (.block 3 (.seq (cH [1,1,1,1,0,1,0,0,1,0,0,0]) (.seq (cH [1,1,1,1,0,1,0,0,1,0,0,1,0]) (.seq (.seq (cH [1,1,1,1,0,1,0,0,1,0,0,1,1,0,0]) (.cond (.tmp 61) (cH [1,1,1,1,0,1,0,0,1,0,0,1,1,0,1,0]) .skip)) (.seq (cH [1,1,1,1,0,1,0,0,1,0,0,1,1,1,0]) (.seq (cH [1,1,1,1,0,1,0,0,1,0,0,1,1,1,1,0]) (.block 6 (.loop (cH [1,1,1,1,0,1,0,0,1,0,0,1,1,1,1,1,0,0]))))))))) (cH [1,1,1,1,0,1,0,0,1,1]))).wp prog _ _ _;refine bD (bD (J2.pc hF (ins:=[(6,.v none),(9,.v none)]) (xs:=[.v (.one (.int .i64 (m:Int))),.v (.one (.int .i64 (k:Int)))]) ⟨rfl,rfl,trivial⟩ (bY5 m k) rfl (by kernel_rfl) ⟨⟨J2.t6,rfl⟩,⟨t9,rfl⟩,trivial⟩ ?_));intro a3 W3 hag J3 hb3 hrep;have q:a3.tmps.getD 39 undef=.bool (decide ((k:Int)<(m:Int))):=hrep.1.1;replace t9:=(aP hag 9 (by kernel_rfl)).trans t9;replace hF:=aa hF hb3;clear hag hb3 hrep J2;refine qW (t:=decide ((k:Int)<(m:Int))) q ?_;by_cases hlt:(k:Int)<(m:Int)
 rotate_left
 ·rw[dh hlt];obtain rfl:k=m:=by omega
  rw[eV,ga]at hsv;have hsv:=bh hsv;rw[hsv]at hT hd;exact tB (jr (hQ _ _ vs bs rk J3 hF hbn hsv hT hd))
 rw[cS hlt];refine pz ?_;have hkm':k<m:=by omega
 have hA1:=bF hB1 (TL (A:=B) k);have hA:=hgB k hkm;have hlr:=J3.tb.lr;have hlv:=J3.tb.lv;have hll:(qs rk).length=m:=hT.len;refine wp_seq_k fun K hK=>mn ?_
 have hMn:∀q,(q∈bs\/va.ownBlock=some q)->¬M q:=fun q hq hm=>by
  have:=hMw q hm;rcases hq with h | h
  ·have:=hbn q h;omega
  ·have:=hvn q h;omega
 obtain⟨f,hf⟩:∃f,m-k=f+1:=⟨m-k-1,by omega⟩
 rw[hf,ga]at hsv;cases hpv:Lj k (qs rk)with
 | none=>rw[hpv]at hsv;cases hsv
 | some i=>
 rw[hpv]at hsv;dsimp only at hsv;obtain⟨pq,hp1,hp2,hp3⟩:=ay9 hpv;have hki:k+i<m:=by have:=(bg.1 hp1).1;omega
 obtain⟨y,hy⟩:∃y,rk[k+i]?=some y:=⟨_,bB (by omega)⟩
 have hyq:pq=y.map RQ.q:=bh (hp1.symm.trans (qe hy));subst hyq;rw[gM]at hp2;have t7r:∀{a':Act}{W':World},SJ D w va m m vs bs rk a' W'->(eR rk).rep M W' (a'.tmps.getD 7 undef):=fun J=>by rw[J.t7];exact J.tb.eR hMD hMn
 have hL:∀r∈rk,k<r.length/\r.length<1099511627776:=fun r hr=>by
  obtain⟨j,hj⟩:=jn hr;have:=(hT.row _ (cq (qe hj))).1;rw[aJ]at this;omega
 refine bD (J3.pc hF (ins:=[(9,.v none)]) (xs:=[.v (.one (.int .i64 (k:Int)))]) ⟨rfl,trivial⟩ (bY8 k) rfl (by kernel_rfl) ⟨⟨t9,rfl⟩,trivial⟩ ?_);intro a4 W4 hag J4 hb4 hrep;have t10:a4.tmps.getD 10 undef=.int .i64 (k:Int):=hrep.1.1;replace t9:=(aP hag 9 (by kernel_rfl)).trans t9;replace hF:=aa hF hb4;clear hag hb4 hrep J3 q;refine bD (J4.pc (N:=M) (hU hF hMD) (ins:=[(6,.v none),(7,.v none),(9,.v none),(10,.v none)]) (xs:=[.v (.one (.int .i64 (m:Int))),.v (.one (eR rk)),.v (.one (.int .i64 (k:Int))),.v (.one (.int .i64 (k:Int)))]) ⟨rfl,rfl,rfl,rfl,trivial⟩ (bK6 rk k i m y hlr hL (fun j r hj hr=>by have:=hp3 j _ hj (qe hr);rwa[gM]at this) hy hp2) rfl (by kernel_rfl) ⟨⟨J4.t6,rfl⟩,t7r J4,⟨t9,rfl⟩,⟨t10,rfl⟩,trivial⟩ ?_);intro a5 W5 hag J5 hb5 hrep;replace t10:a5.tmps.getD 10 undef=.int .i64 ((k+i:Nat):Int):=hrep.1.1;replace t9:=(aP hag 9 (by kernel_rfl)).trans t9;replace hF:=aa hF hb5;clear hag hb5 hrep J4;refine bD (bD (J5.pc hF (ins:=[(6,.v none),(10,.v none)]) (xs:=[.v (.one (.int .i64 (m:Int))),.v (.one (.int .i64 ((k+i:Nat):Int)))]) ⟨rfl,rfl,trivial⟩ (bX7 m (k+i)) rfl (by kernel_rfl) ⟨⟨J5.t6,rfl⟩,⟨t10,rfl⟩,trivial⟩ ?_));intro a6 W6 hag J6 hb6 hrep;have q6:a6.tmps.getD 61 undef=.bool (decide (((k+i:Nat):Int)=(m:Int))):=hrep.1.1;replace t9:=(aP hag 9 (by kernel_rfl)).trans t9;replace t10:=(aP hag 10 (by kernel_rfl)).trans t10;replace hF:=aa hF hb6;clear hag hb6 hrep J5;refine qW (t:=decide (((k+i:Nat):Int)=(m:Int))) q6 ?_;rw[dh (by omega)];refine pz ?_;obtain⟨g,cap,bx,x,px,hx,hbx,hpx,Tx⟩:=J6.tb.at hkm';obtain⟨g',cap',by',v,py,hv,hby,hpy,_⟩:=J6.tb.at hki;rw[hy]at hpy;cases hpy;have hob:va.ownBlock=some g:=by rw[Tx.e];rfl
 obtain⟨cur,hgc,h1,h2,h3,h4⟩:∃cur:Array Value,W6.heap[g]?=some (.cells cur 32 (0,0))/\m<=cap/\cap<=maxLen/\cur.size=cap*1/\cur.toList.take (m*1)=vs:=by
  rcases J6.tb.own.2 with⟨e,_⟩ | ⟨g0,cap0,cur,e,_,hg,h⟩
  ·rw[Tx.e]at e;cases e
  ·rw[Tx.e]at e;simp only[iB,aU,fy,cT,lW]at e;obtain⟨rfl,rfl⟩:=e;exact⟨cur,hg,h⟩
 have hxl:(vs.map xV).length=m:=by rw[aJ];exact hlv
 have hone:∀u∈vs,u.oneCell'=true:=fun u hu=>by
  obtain⟨j,hj⟩:=jn hu;obtain⟨_,_,b,u',r,e1,_,_,T⟩:=J6.tb.at (j:=j) (by have:=(bg.1 hj).1;omega);rw[hj]at e1;cases e1;exact T.row.one
 have hvr:ah D W6 (vs.map xV).flatten vs:=ZA hone;refine bD (xo jO.wp (M:=D) (g:=g) (cap:=cap) (cur:=cur) (N:=163) (t0:=7) (E:=32) (sz:=1) (ts:=vs.map xV) (ins:=[(9,.v none),(10,.v none)]) (xs:=[.v (.one (.int .i64 (k:Int))),.v (.one (.int .i64 ((k+i:Nat):Int)))]) fo ⟨rfl,rfl,trivial⟩ (bU9 vs k (k+i) x v hx hv) (by kernel_rfl) hF Tx.dg J6.sz J6.df (fun t ht=>by obtain⟨v,_,rfl⟩:=dn.1 ht;rfl) ⟨⟨t9,rfl⟩,⟨t10,rfl⟩,trivial⟩ (by rw[hxl];exact J6.t7.trans Tx.e) hgc (by rw[hxl];omega) (by rw[hxl];exact h1) h2 (by rw[hxl,h4];exact hvr) ?_);intro a7 W7 us7 cur7 hag hg7 hsz7 hdf7 hr7 hgc7 hcs7 _ _ hrep7;rw[hxl,de]at hrep7;have T7:=J6.tb.swap Tx.e hx hv hbx hby hpx hy hg7 hgc hgc7 hcs7 hrep7;have hvg:=hvn g hob;have J7:SJ D w va m m (fu vs (k+i) k v x) (fu bs (k+i) k by' bx) (fu rk (k+i) k y px) a7 W7:=⟨hsz7,hdf7,(aP hag 6 (by kernel_rfl)).trans J6.t6,(aP hag 7 (by kernel_rfl)).trans J6.t7,T7,hg7.os.trans J6.bel.os,hg7.tape.trans J6.bel.tape,hg7.output.trans J6.bel.output,bF J6.bel.size hg7.size,fun q hq=>(hg7.block q (br hq J6.bel.size) fun e=>by have:=bh e;omega).trans (J6.bel.block q hq)⟩
 have hbs7:∀b∈fu bs (k+i) k by' bx,b∈bs:=fun b hb=>by
  obtain⟨j,hj⟩:=jn hb;rw[ek hby hbx]at hj;exact cq hj
 replace hF:bQ D W7:=⟨fun q hq=>br (hF.1 q hq) hg7.size,hF.2.dC (gY Tx.dg hg7)⟩
 replace t9:=(aP hag 9 (by kernel_rfl)).trans t9;have hqs:=bb4 hpx hy
 have hrow:(fu rk (k+i) k y px)[k]?=some y:=by
  rw[ek hy hpx,sg];by_cases e:k=k
  ·rw[aD e];exact hy
  ·exact absurd rfl e
 clear hag hg7 hr7 hgc7 hcs7 hrep7 T7 J6 hvr hone hgc h1 h2 h3 h4 hx hv hbx hby q6 t10;refine bD (J7.pc hF (ins:=[]) (xs:=[]) trivial bP4 rfl (by kernel_rfl) trivial ?_);intro a8 W8 hag J8 hb8 hrep;have t11:a8.tmps.getD 11 undef=.int .i64 ((0:Nat):Int):=hrep.1.1;replace t9:=(aP hag 9 (by kernel_rfl)).trans t9;replace hF:=aa hF hb8;have hT8:yM m (m+1) (gA B k) (qs (fu rk (k+i) k y px)):=by rw[hqs];exact hT.swap hkm' hki
 refine bR8 (M:=M) J8 hF (fun b hb=>hbn b (hbs7 b hb)) hMD (fun q hq=>hMn q (hq.imp (hbs7 q) id)) hrow hp2 hT8 hA1 hA hkm' hms t9 t11 ?_;intro a9 W9 rk9 J9 hF9 he9 q9;refine hK _ _ (J9.pc hF9 (ins:=[(9,.v none)]) (xs:=[.v (.one (.int .i64 (k:Int)))]) ⟨rfl,trivial⟩ (bX0 k) rfl (by kernel_rfl) ⟨⟨q9,rfl⟩,trivial⟩ ?_);intro b1 V1 hag1 J1 hb1 hrep1;refine⟨m-(k+1),by omega,k+1,_,_,rk9,rfl,by omega,J1,aa hF9 hb1,fun b hb=>hbn b (hbs7 b hb),?_,?_,?_,hrep1.1.1⟩
 ·rw[he9];exact hT8.elim hA1 hkm' m
 ·rw[he9,hqs];exact aV6 hd (vH _ _) (by rw[<-hqs];exact qe hrow) (by rw[gM];exact hp2)
 ·rw[he9,hqs,<-hsv,show m-(k+1)=f by omega,hll]
theorem bT9{M:Nat->Prop}{w:World}{v0 v1:Value}{n:Nat}{A:List (List RQ)}{C:List RQ}{a:Act}{W:World}{Q:Exit->Act->World->Prop}(hM:bQ M w)(e0:(eR A).rep M w v0)(e1:(sR C).rep M w v1)(hA:A.length=n)(hC:C.length=n)(hAr:∀r∈A,r.length=n)(hn:n<=1000)(J:SJ (fun k=>M k\/w.heap.size<=k) w (.slice none 0 0) n 0 [] [] [] a W)
  (t0:a.tmps.getD 0 undef=v0) (t1:a.tmps.getD 1 undef=v1) (t8:a.tmps.getD 8 undef=.int .i64 ((0:Nat):Int))
  (hQ:∀(a':Act)(W':World)(va:Value)(vs:List Value)(bs:List Nat),SJ (fun k=>M k\/w.heap.size<=k) w va n n vs bs (xE A C) a' W'->(∀g,va.ownBlock=some g->w.heap.size<=g)->(∀b∈bs,w.heap.size<=b)->Q .normal a' W'):(Code.block 0 (.loop (cH [1,1,1,0,1,0,0]))).wp prog Q a W:=by
 refine mn (wu (fun z a' W'=>∃(i:Nat)(va:Value)(vs:List Value)(bs:List Nat),z=n-i/\i<=n/\SJ (fun k=>M k\/w.heap.size<=k) w va n i vs bs ((xE A C).take i) a' W'/\W'.ownsRow w.heap.size 32 1 va i vs/\(∀b∈bs,w.heap.size<=b)/\a'.tmps.getD 0 undef=v0/\a'.tmps.getD 1 undef=v1/\a'.tmps.getD 8 undef=.int .i64 (i:Int)) (n-0)
  ⟨0,_,[],[],rfl,cL _,J,na _ _ _ _,(fun b h=>by cases h),t0,t1,t8⟩ ?_)
 clear J t0 t1 t8 a W;rintro z a2 W2 ⟨i,va,vs,bs,rfl,hin,J2,hown,hbs,t0,t1,t8⟩;show(Code.seq (Code.seq (cH [1,1,1,0,1,0,0,0,0]) (.cond (.tmp 20) .skip (.exit 0))) (.seq (.block 1 (.region 6 iE true)) (cH [1,1,1,0,1,0,0,1,1]))).wp prog _ _ _;refine bD (bD (J2.pc (aa hM J2.bel) (ins:=[(6,.v none),(8,.v none)]) (xs:=[.v (.one (.int .i64 (n:Int))),.v (.one (.int .i64 (i:Int)))]) ⟨rfl,rfl,trivial⟩ (bK1 n i) rfl (by kernel_rfl) ⟨⟨J2.t6,rfl⟩,⟨t8,rfl⟩,trivial⟩ ?_));intro a3 W3 hag J3 hb3 hrep;have q:a3.tmps.getD 20 undef=.bool (decide ((i:Int)<(n:Int))):=hrep.1.1;replace t0:=(aP hag 0 (by kernel_rfl)).trans t0;replace t1:=(aP hag 1 (by kernel_rfl)).trans t1;replace t8:=(aP hag 8 (by kernel_rfl)).trans t8;replace hown:W3.ownsRow w.heap.size 32 1 va i vs:=qE hown fun k o hk _ ho=>(hb3.block k (bt.1 ho).1).trans ho;clear hag hb3 hrep J2;refine qW (t:=decide ((i:Int)<(n:Int))) q ?_;by_cases hlt:(i:Int)<(n:Int)
 rotate_left
 ·rw[dh hlt];obtain rfl:i=n:=by omega
  rw[dD (by rw[xE,aJ,List.length_zip];omega)]at J3;exact tB (jr (hQ _ _ va vs bs J3 (fun g hg=>(hown.lt g hg).1) hbs))
 rw[cS hlt];refine pz ?_;obtain⟨r,hr⟩:∃r,A[i]?=some r:=⟨_,bB (by omega)⟩
 obtain⟨x,hx⟩:∃x,C[i]?=some x:=⟨_,bB (by omega)⟩
 have hrl:=hAr r (cq hr);refine bD (mn (XB hM J3.bel e0 e1 hr hx hown J3.sz J3.df t0 t1 J3.t7 t8 ?_));intro a4 W4 v' u b hsz4 hdf4 hag4 h7 hg4 hown4 hb4 hrow4 hv4;have hvg:∀g,va.ownBlock=some g->w.heap.size<=g:=fun g hg=>(hown.lt g hg).1;have hk:ao (fun k=>M k\/w.heap.size<=k) W3 (fun k=>M k\/w.heap.size<=k) W4:=fun k o hk ho _=>⟨hk,(hg4.block k (bt.1 ho).1 fun e=>hk (.inr (hvg k e.symm))).trans ho⟩
 have hs3:=J3.bel.size;have T4:=J3.tb.snoc hg4 (fun k h=>.inr h) hs3 hk hown4 hb4 hrow4 hv4;have hsn:(xE A C).take i++[r++[x]]=(xE A C).take (i+1):=by rw[jb,aO2 hr hx];rfl
 rw[hsn]at T4;have J4:SJ (fun k=>M k\/w.heap.size<=k) w v' n (i+1) (vs++[u]) (bs++[b]) ((xE A C).take (i+1)) a4 W4:=⟨hsz4,hdf4,(hag4 6 (by omega) (by omega)).trans J3.t6,h7,T4,hg4.os.trans J3.bel.os,hg4.tape.trans J3.bel.tape,hg4.output.trans J3.bel.output,bF hs3 hg4.size,fun q hq=>(hg4.block q (by omega) fun e=>by have:=hvg q e.symm;omega).trans (J3.bel.block q hq)⟩
 refine J4.pc (aa hM J4.bel) (ins:=[(8,.v none)]) (xs:=[.v (.one (.int .i64 (i:Int)))]) ⟨rfl,trivial⟩ (bY9 i) rfl (by kernel_rfl) ⟨⟨(hag4 8 (by omega) (by omega)).trans t8,rfl⟩,trivial⟩ ?_;intro a5 W5 hag5 J5 hb5 hrep5;refine⟨n-(i+1),by omega,i+1,v',_,_,rfl,by omega,J5,qE hown4 fun k o hk _ ho=>(hb5.block k (bt.1 ho).1).trans ho,fun b' hb'=>?_,(aP hag5 0 (by kernel_rfl)).trans ((hag4 0 (by omega) (by omega)).trans t0),(aP hag5 1 (by kernel_rfl)).trans ((hag4 1 (by omega) (by omega)).trans t1),hrep5.1.1⟩;rcases eL.1 hb' with h | h
 ·exact hbs b' h
 ·rw[dR.1 h];omega
theorem VQ:xC:=by
 intro A C sol n B hA hC hAr hT hB1 hgB hn hsol;refine⟨bA (by kernel_rfl),fun M w0 ws hM0 hv=>?_⟩;rw[<-aT2]at hT hsol
 obtain⟨rs,hsv,hsl⟩:∃rs,ga n 0 (qs (xE A C))=some rs/\(List.range rs.length).map (kx rs)=sol:=by
  rw[il,hT.len]at hsol;exact qS.1 hsol
 match ws,hv with
 | [v0,v1],hv=>
   refine kM func128 rfl ?_;simp only[ntmps128,cb,ak,bX,Nat.reduceAdd,Nat.reduceSub,dk,dp,du,dr,List.nil_append,List.cons_append];refine Yc (n:=2) (N:=163) (ins:=[(0,.v none),(1,.v none)]) (xs:=[.v (.one (eR A)),.v (.one (sR C))]) fo ⟨rfl,rfl,trivial⟩ (cc3 A C) (by kernel_rfl) hM0 rfl rfl hv ?_ (by intro c v a' w' h;cases h);intro e a1 w us us' hrs hex hb0 hsz1 hdf1 hr1 hrep1;cases hrs;cases e with
   | exit id=>cases hex
   | ret=>cases hex
   | normal=>
   have huse:=bJ hr1;subst huse;obtain⟨e0,e1,e6,e7,_⟩:=hrep1;have e0:(eR A).rep M w (a1.tmps.getD 0 undef):=e0;have e1:(sR C).rep M w (a1.tmps.getD 1 undef):=e1;have t6:a1.tmps.getD 6 undef=.int .i64 (n:Int):=by rw[<-hA];exact e6.1
   have hM:bQ M w:=aa hM0 hb0;have J1:SJ (fun k=>M k\/w.heap.size<=k) w (.slice none 0 0) n 0 [] [] [] a1 w:=⟨hsz1,hdf1,t6,e7.1,⟨na _ _ _ _,rfl,rfl,(fun i j b h=>by simp at h),(fun j v b r h=>by simp at h),(fun b h=>by cases h),(fun g h=>by cases h)⟩,cM _ _⟩
   clear hr1 hex e6 e7 hv hsz1 hdf1 t6;show(Code.seq (Code.seq (cH [1,1,1,0,0]) (.block 0 (.loop (cH [1,1,1,0,1,0,0])))) (.seq (.seq (cH [1,1,1,1,0,0]) (.block 2 (.loop (cH [1,1,1,1,0,1,0,0])))) (cH [1,1,1,1,1]))).wp prog _ _ _;refine bD (bD (J1.pc hM (ins:=[]) (xs:=[]) trivial bU5 rfl (by kernel_rfl) trivial ?_));intro a2 W2 hag2 J2 hb2 hrep2;refine bT9 hM e0 e1 hA hC hAr hn J2 (aP hag2 0 (by kernel_rfl)) (aP hag2 1 (by kernel_rfl)) hrep2.1.1 ?_;clear hag2 hb2 hrep2 J1 J2 e0 e1;intro a3 W3 va vs bs J3 hvn hbn;obtain⟨D,hD⟩:∃D:Nat->Prop,D=fun k=>M k\/k∈bs\/va.ownBlock=some k:=⟨_,rfl⟩
   have hMD:∀q,M q->D q:=fun q h=>by rw[hD];exact .inl h
   have hDn:∀q,D q->M q\/w.heap.size<=q:=fun q h=>by
    rw[hD]at h;exact h.imp id fun h=>h.elim (hbn q) (hvn q)
   have T3:Tb D va n vs bs (xE A C) W3:=J3.tb.dC (fun k o hk ho _=>⟨fun h=>hk (hDn k h),ho⟩) fun k hk=>⟨by rw[hD];exact .inr hk,rfl⟩
   have J3':SJ D w va n n vs bs (xE A C) a3 W3:=⟨J3.sz,J3.df,J3.t6,J3.t7,T3,J3.bel⟩
   have hF3:bQ D W3:=⟨fun k hk=>by
    rw[hD]at hk;exact hk.elim (fun h=>br (hM.1 k h) J3.bel.size) J3.tb.lt,hM.2.dC fun k o hk ho _=>by
    have hlt:=(bt.1 ho).1;exact⟨fun h=>(hDn k h).elim hk (by omega),(J3.bel.block k hlt).trans ho⟩⟩
   refine bD (bD (J3'.pc hF3 (ins:=[]) (xs:=[]) trivial bU2 rfl (by kernel_rfl) trivial ?_));intro a4 W4 hag4 J4 hb4 hrep4;refine bM5 J4 (aa hF3 hb4) hbn hMD hM.1 hvn hT hB1 hgB hn hsv hrep4.1.1 ?_;intro a5 W5 vs5 bs5 rk5 J5 hF5 hbn5 hq5 hT5 hd5;have hA1:=bF hB1 (TL (A:=B) n);have hA9:=hgB n (aY n)
   have t7r:(eR rk5).rep M W5 (a5.tmps.getD 7 undef):=by
    rw[J5.t7]
    exact J5.tb.eR hMD fun q hq hm=>by
     have:=hM.1 q hm;rcases hq with h | h
     ·have:=hbn5 q h;omega
     ·have:=hvn q h;omega
   have hlr:=J5.tb.lr;subst hq5
   have hres5:((List.range n).map (pC rk5 n))=sol:=by
    rw[<-hsl,hT5.len];refine jJ fun i hi=>?_;have hi:=gE.1 hi;obtain⟨r,hr⟩:∃r,rk5[i]?=some r:=⟨_,bB (by omega)⟩
    have hrl:=(hT5.row _ (cq (qe hr))).1;rw[pC,kx,AM hr,hrl,kU,gM,gM,ew (l:=rk5),hr];rfl
   refine wB jO.wp (n0:=W5.heap.size) (N:=163) (ins:=[(6,.v none),(7,.v none)]) (xs:=[.v (.one (.int .i64 (n:Int))),.v (.one (eR rk5))]) fo ⟨rfl,rfl,trivial⟩ (tR (ca4 rk5 n (gA B n) hlr (fun r hr=>?_) (fun j r hr=>?_) hA1)) (by kernel_rfl) (aY _) (hU hF5 hMD) J5.sz J5.df ⟨⟨J5.t6,rfl⟩,t7r,trivial⟩ ?_
   ·obtain⟨j,hj⟩:=jn hr;obtain⟨h1,h2⟩:=hT5.row _ (cq (qe hj));exact⟨by rw[aJ]at h1;exact h1,fun a ha=>h2 _ (vE ha)⟩
   ·have:=hd5 j _ (by have:=(bg.1 hr).1;omega) (qe hr)
    rwa[gM]at this
   ·intro e a6 w6 us6 he hb6 hsz6 hdf6 hr6 hrep6;rw[hres5]at hrep6;have hpost:Below w0.heap.size w0 w6/\pX M w6 (.ret [.one (sR (sol.map RQ.of)),.one (.bool true)]) (.returned (pack us6)):=⟨hb0.trans ((J5.bel.trans (hb6.mono J5.bel.size)).mono hb0.size),us6,rfl,hrep6⟩
    have hres:=fQ f128 a6.tmps us6 hr6;cases e with
    | exit id=>cases he
    | normal=>exact Ax hres hdf6 hpost
    | ret=>exact gC hres hdf6 hpost
 | [],h=>exact h.elim
 | [_],h=>exact h.2.elim
 | _::_::_::_,h=>exact h.2.2.elim
end Go.Sy
