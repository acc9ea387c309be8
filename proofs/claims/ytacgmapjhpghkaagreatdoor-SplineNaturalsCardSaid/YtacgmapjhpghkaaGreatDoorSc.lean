/- Part. -/
import Derived.Test.YtacgmapjhpghkaaGreatDoorSa
import Derived.Great.BuildSlice
set_option linter.all false
namespace Go.Sy
def RT:=@Go.run_buildSlice
def as6:=@Go.Great.fill_whole
open Go.RowKit (Below)
section
variable{P:j5}{M0:eu}{w0 w w':World}{N:Nat}{s:St}{τ:Env}{ρ ρ':Nat->Gh}{a:Act}{o:Oper}{e:il}{nd:eV}{nb ni:Nat}{Qp:iN}
theorem az.zg{α β γ:Type}{R:α->β->Prop}{S:α->γ->Prop}(f:β->γ)(hf:∀x y,R x y->S x (f y)):∀{xs ys},az R xs ys->az S xs (ys.map f)
 | [],[],_=>trivial
 | _::_,_::_,⟨a,b⟩=>⟨hf _ _ a,b.zg f hf⟩
 | [],_::_,k=>k.elim
 | _::_,[],k=>k.elim
theorem az.map_eq{α β γ:Type}{R:α->β->Prop}(f:α->γ)(g:β->γ)(hf:∀x y,R x y->f x=g y):∀{xs ys},az R xs ys->xs.map f=ys.map g
 | [],[],_=>rfl
 | _::_,_::_,⟨a,b⟩=>by rw[fj,fj,hf _ _ a,b.map_eq f g hf]
 | [],_::_,k=>k.elim
 | _::_,[],k=>k.elim
theorem az.flatMap{α β γ δ:Type}{R:α->β->Prop}{S:γ->δ->Prop}(f:α->List γ)(g:β->List δ)(hf:∀x y,R x y->az S (f x) (g y)):∀{xs ys},az R xs ys->az S (xs.flatMap f) (ys.flatMap g)
 | [],[],_=>trivial
 | _::_,_::_,⟨a,b⟩=>by rw[uU,uU];exact(hf _ _ a).append (b.flatMap f g hf)
 | [],_::_,k=>k.elim
 | _::_,[],k=>k.elim
theorem Au{α β:Type}{f:α->List β}{n:Nat}:∀{xs:List α},(∀x∈xs,(f x).length=n)->(xs.flatMap f).length=xs.length*n
 | [],_=>aT
 | x::xs,h=>by
   rw[uU,cF,h x cE,Au fun y hy=>h y (cg _ hy),bB,bt,ee,gp]
def mJ{x:j6}{ad:Addr}(ho:o.op=.nilCheck x)(hx:a.eval x=.pointer (some ad)):(execOp a.eval o).run P w=.ok (.value (.pointer (some ad))) w:=by
 simp[execOp,ho,hx]
def bV2(h:Sat M0 w0 N s τ ρ a w)(hd:cw N o=true){x:j6}(ho:o.op=.nilCheck x)
  (hq:(am5 P o ni x).run s=some (e,nd)) (hn:jv P τ o.op o.type nd ni):o.wp P a w (lG M0 w0 N s e τ) Qp:=by
 obtain⟨c,h1,h2⟩:=Q.bind_some hq;have hx:=eX h h1;cases c with
 | p b off=>
   simp only[Q.run_pure,aZ]at h2;obtain⟨rfl,rfl⟩:=dG h2;exact fK h hd (mJ ho hx.2) ⟨hx.1,rfl⟩
 | ref off cs=>
   simp only[Q.run_pure,aZ]at h2;obtain⟨rfl,rfl⟩:=dG h2;obtain⟨b,o',cur,T',fz,he,hm,hh,hrep⟩:=hx;exact fK h hd (mJ ho he) ⟨b,o',cur,T',fz,rfl,hm,hh,hrep⟩
 | gv f cs=>
   simp only[Q.run_pure,aZ]at h2;obtain⟨rfl,rfl⟩:=dG h2;obtain⟨vs,he,hr⟩:=hx;refine fK h hd (v:=a.eval x) ?_ ⟨vs,he,hr⟩;simp[execOp,ho,he]
 | rp b sz i off=>
   simp only[Q.run_pure,aZ]at h2;obtain⟨rfl,rfl⟩:=dG h2;obtain⟨hb,g,o0,len,cap,k,n,e1,e2,e3,e4⟩:=hx;exact fK h hd (mJ ho e4) ⟨hb,g,o0,len,cap,k,n,e1,e2,e3,rfl⟩
 | c y=>exact dD h hd h2 hn
 | rs _ _ _ _=>exact dD h hd h2 hn
 | r b=>exact dD h hd h2 hn
def aZ5(off:Nat)(l:iS)(cs:iS)(hle:off+l.size<=cs.size:=by omega) :
  (l.zipIdx.foldl (fun cs (x:Value×Nat)=>cs.setIfInBounds (off+x.2) x.1) cs)=(cs.toList.take off++l.toList++cs.toList.drop (off+l.size)).toArray:=by
 obtain⟨h1,h2⟩:=Go.Great.foldl_set off l.toList 0 cs
 have e:(l.zipIdx.foldl (fun cs (x:Value×Nat)=>cs.setIfInBounds (off+x.2) x.1) cs)=(l.toList.zipIdx 0).foldl (fun cs (x:Value×Nat)=>cs.setIfInBounds (off+x.2) x.1) cs:=by
  rw[<-Array.foldl_toList,Array.toList_zipIdx]
 rw[e];apply Array.ext_getElem?;intro k;rw[h2 k];simp only[wQ,pZ,eh,fG,cF,bh,cK,cV,kU]
 grind
def al0{ex:c6}{M:c6}{place:Nat->Option (Nat×Nat)}:∀{ps:List (Nat×SW)}{xs:List (Nat×Value)}{cells cs:List SC}{vs:iS},
  XN place cells ps=some cs->az (eB ex τ ρ M w) cells vs.toList->az (fun p x=>p.1=x.1/\gg ex τ ρ M w p.2 x.2) ps xs ->
  ∃vs',Instr.fill place vs xs=some vs'/\az (eB ex τ ρ M w) cs vs'.toList
 | [],[],cells,cs,vs,hf,hv,_=>by
   simp only[XN,aZ]at hf;subst hf;exact⟨vs,rfl,hv⟩
 | (i,p)::ps,(i',x)::xs,cells,cs,vs,hf,hv,⟨⟨hii,hp⟩,hps⟩=>by
   obtain rfl:i=i':=hii;have hp:gg ex τ ρ M w p x:=hp;have hc:=hp.GO;have hlen:=hc.length;have hlv:=hv.length;simp only[XN]at hf;unfold Instr.fill;simp only;cases hpl:place i with
   | none=>simp[hpl]at hf
   | some q=>
     obtain⟨off,size⟩:=q;simp only[hpl]at hf;split at hf
     .cases hf
     .rename_i hno;simp only[na,jr,not_or,nX,ne_eq,wz]at hno;simp only[cK]at hlen hlv
      have hcond:(decide (x.cells.size≠size) || decide (off+x.cells.size>vs.size))=false:=by
       simp only[lL,uW,nX,ne_eq,wz,gt_iff_lt];omega
      simp only[hcond,eN,ck];rw[aZ5 off x.cells vs];refine al0 hf ?_ hps;show az _ _ (vs.toList.take off++x.cells.toList++vs.toList.drop (off+x.cells.size));have:=((hv.take off).append hc).append (hv.drop (off+p.cells.length));rw[hlen]at this;rw[hlen];exact this
 | [],_::_,_,_,_,_,_,h=>h.elim
 | _::_,[],_,_,_,_,_,h=>h.elim
def UJ{T:Nat}{pl:List (Nat×Nat)}(h:Uy P T=some pl):∃fs,P.underlying T=some (.struct fs)/\fs.toList.mapM (fun f=>(P.info? f.type).map fun i=>(f.offset,i.size))=some pl:=by
 unfold Uy at h;split at h
 .rename_i fs hf;exact⟨fs,hf,h⟩
 .cases h
def aL2(h:Sat M0 w0 N s τ ρ a w)(hd:cw N o=true){T:Nat}{parts:Array (Nat×Operand)}(ho:o.op=.build T parts)
  (hq:(Ok P o T parts.toList).run s=some (e,nd)):o.wp P a w (lG M0 w0 N s e τ) Qp:=by
 obtain⟨pl,h1,h2⟩:=Q.bind_some hq;obtain⟨z,h3,h4⟩:=Q.bind_some h2;obtain⟨ps,h5,h6⟩:=Q.bind_some h4;obtain⟨cs,h7,h8⟩:=Q.bind_some h6;rw[eU]at h1 h3 h7;simp only[Q.run_pure,aZ]at h8;obtain⟨rfl,rfl⟩:=dG h8;obtain⟨fs,hu,hp⟩:=UJ h1;obtain⟨i,zv,hi,hz,hzc,hone,_⟩:=ed h3;have hps:=Df h h5;have hxs:az (fun p x=>p.1=x.1/\gg (oB s) τ ρ (Ms M0 ρ s) w p.2 x.2) ps (parts.toList.map fun x=>(x.1,a.eval x.2)):=hps.zg (fun x:Nat×Operand=>(x.1,a.eval x.2)) fun _ _ h=>h;obtain⟨vs',hf,hall⟩:=al0 (vs:=zv.cells) h7 (by rw[hzc];exact az.wh hone) hxs;refine fK h hd (v:=.agg vs') ?_ ⟨vs'.toList,aT,hall⟩
 have hb:P.built T (parts.map fun x=>(x.1,a.eval x.2)).toList=some vs':=by
  simp only[Program.built,hi,hu,hz,hp,Array.toList_map,wQ];exact hf
 have:=run_build (P:=P) w T _ _ hb;simp only[execOp,ho,gC,this,js,gq]
def br{T E sz by_:Nat}(h:dZ P T=some (E,sz,by_)):∃i,P.underlying T=some (.slice E)/\P.info? E=some i/\i.size=sz/\i.bytes=by_:=by
 unfold dZ at h;split at h
 .rename_i E' hu;cases hi:P.info? E' with
  | none=>simp[hi]at h
  | some i=>
    simp only[hi,cZ,aZ,cX]at h;obtain⟨rfl,rfl,rfl⟩:=h;exact⟨i,hu,hi,rfl,rfl⟩
 .cases h
def Sat.aE9(h:Sat M0 w0 N s τ ρ a w){nb E sz ni n cap:Nat}{sl:c7}{ts:List (List aC)}{cs:iS}(hd:cw N o=true)(hnb:s.b nb=none)
  (hτ:τ[ni]?=some (.rows ts)) (htl:ts.length=n) (hts:∀t∈ts,t.length=sz) (hcs:cs.size=cap*sz) (hn:n<=cap) (hcap:cap<=maxLen)
  (hrep:∀M',cy M0 ρ s sl M'->an M' w ts.flatten (cs.toList.take (n*sz))) :
  ∃ρ',Sat M0 w0 N (s.app ⟨put o (.w (.one (.r nb))),[(nb,.row E sz ni)],sl⟩) τ ρ' (a.put o.dst (.slice (some ⟨w.heap.size,0,none⟩) n cap)) (w.alloc (.cells cs E)):=by
 refine⟨fun b=>if b=nb then⟨0,.slice (some ⟨w.heap.size,0,none⟩) n cap,#[]⟩else ρ b,?_⟩;have hne:∀b,b≠nb->(fun b=>if b=nb then(⟨0,.slice (some ⟨w.heap.size,0,none⟩) n cap,#[]⟩:Gh)else ρ b) b=ρ b:=fun b hb=>by simp[hb]
 have hown:∀x y z,own (fun b=>if b=nb then(⟨0,.slice (some ⟨w.heap.size,0,none⟩) n cap,#[]⟩:Gh)else ρ b) nb (.row x y z)=some w.heap.size:=fun x y z=>by simp[own,Value.ownBlock]
 refine h.ae0 (kill:=[]) hd hnb (fun _ _ _ h=>by cases h) (.inl rfl) hne (zu h _) aT (fun k hk _=>dB w _ k hk) ?_ ?_ ?_
 .intro g hg;rw[hown]at hg;cases hg;exact⟨.inl h.below.size,aT,.inl (ah _)⟩
 .intro _;refine⟨?_,aT,rfl⟩;rw[oB,St.iL];simp[look]
 .intro hkeep;generalize hρ':(fun b=>if b=nb then(⟨0,.slice (some ⟨w.heap.size,0,none⟩) n cap,#[]⟩:Gh)else ρ b)=ρ' at *;generalize hM':Ms M0 ρ' (s.app ⟨put o (.w (.one (.r nb))),[(nb,.row E sz ni)],sl⟩)=M' at *
  have hback:∀k,M' k->k<w.heap.size->M0.M k\/∃b x,s.b b=some x/\(sl.contains b || s.s b)=false/\own ρ b x=some k:=by
   intro k hk hlt;rw[<-hM']at hk;rcases hk with hk | ⟨b,x,h1,h2,h3⟩
   .exact .inl hk
   .rw[St.iL]at h1;rw[St.so]at h2;simp only[look]at h1;by_cases e:nb=b
    .subst e;simp only[bg,aZ]at h1;subst h1;rw[hown]at h3;cases h3;omega
    .simp only[e,ck]at h1;rw[oM (hne b (fun h=>e h.symm))]at h3;exact .inr ⟨b,x,h1,h2,h3⟩
  have hS:cy M0 ρ s sl (fun k=>M' k/\k<w.heap.size):=by
   constructor
   .rintro k ⟨hk,hlt⟩;rcases hback k hk hlt with hk | ⟨b,x,h1,h2,h3⟩
    .exact .inl hk
    .simp only[lL]at h2;exact .inr ⟨b,x,h1,h2.2,h3⟩
   .rintro b x k h1 h2 h3 ⟨hk,hlt⟩;rcases hback k hk hlt with hk | ⟨b',x',h4,h5,h6⟩
    .exact h.old k hk (h.lo b x k h1 h2).1
    .have:=h.inj b b' x x' k h1 h4 h2 h6;subst this;simp only[lL]at h5;rcases h3 with h3 | h3
     .rw[h3]at h5;simp at h5
     .have:sl.contains b=true:=by simpa using h3
      rw[this]at h5;simp at h5
  have hr:=hrep _ hS
  have hk2:av (fun k=>M' k/\k<w.heap.size) w M' (w.alloc (.cells cs E)):=by
   intro k ob hk hob _;have hlt:k<w.heap.size:=(cJ.1 hob).1;exact⟨fun hm=>hk ⟨hm,hlt⟩,by rw[dB w _ k hlt];exact hob⟩
  refine⟨ts,cs.toList.take (n*sz),hτ,⟨?_,.inr ⟨w.heap.size,cap,cs,?_,dM _,cr w _,?_,hcap,hcs,by rw[htl]⟩⟩,hts,hr.mono hk2⟩
  .have e1:cs.toList.length=cap*sz:=by rw[cK,hcs]
   rw[bh,e1,htl];exact de (cY _ hn)
  .rw[<-hρ',htl];simp
  .rw[htl];exact hn
theorem zy{α:Type}(sz:Nat):∀(len:Nat)(xs:List α),xs.length=len*sz->((List.range len).map fun i=>(xs.drop (i*sz)).take sz).flatten=xs
 | 0,xs,h=>by simp at h;subst h;rfl
 | len+1,xs,h=>by
   rw[ah8,fj,ey,gX];have h1:=zy sz len (xs.drop sz) (by rw[dF,h,bt,ee];omega)
   have h2:(List.range len).map ((fun i=>(xs.drop (i*sz)).take sz) ∘ Nat.succ)=(List.range len).map fun i=>((xs.drop sz).drop (i*sz)).take sz:=by
    apply kY;intro i _;simp only[Function.comp,gu,uP];rw[gp]
   rw[h2,h1];simp
def bC8(h:Sat M0 w0 N s τ ρ a w)(hd:cw N o=true){T len:Nat}{parts:Array (Nat×Operand)}(ho:o.op=.buildSlice T len parts)
  (hq:(aq0 P o nb ni T len parts.toList).run s=some (e,nd)) (hn:jv P τ o.op o.type nd ni):o.wp P a w (lG M0 w0 N s e τ) Qp:=by
 obtain⟨⟨E,sz,by_⟩,h1,h2⟩:=Q.bind_some hq;obtain⟨ps,h3,h4⟩:=Q.bind_some h2;obtain⟨_,h5,h6⟩:=Q.bind_some h4;obtain⟨z,h7,h8⟩:=Q.bind_some h6;obtain⟨⟨xs,sl⟩,h9,h10⟩:=Q.bind_some h8;obtain⟨_,h11,h12⟩:=Q.bind_some h10;rw[eU]at h1 h7;obtain⟨hix,hsz,hsmall,hpos⟩:=du h5;obtain⟨hb,hs⟩:=oq h11;simp only[Q.run_pure,aZ]at h12;obtain⟨rfl,rfl⟩:=dG h12;obtain⟨ie,hu,hie,hies,_⟩:=br h1;obtain⟨i,zv,hi,hz,hzc,hone,_⟩:=ed h7;rw[hie]at hi;simp only[aZ]at hi;subst hi;obtain⟨news,rfl,_,hτ⟩:=hn;have hτ0:=hτ 0 _ rfl;rw[cV]at hτ0;have hps:=Df h h3;clear hq h2 h4 h6 h8 h10;have hv:az (fun p x=>gg (oB s) τ ρ (Ms M0 ρ s) w p.2 x) ps (parts.toList.map fun x=>a.eval x.2):=hps.zg _ fun _ _ h=>h.2;have hix2:ps.map (·.1)=parts.toList.map (·.1):=hps.map_eq _ _ fun _ _ h=>h.1;have hcells:az (eB (oB s) τ ρ (Ms M0 ρ s) w) (ps.flatMap fun p=>p.2.cells) ((parts.toList.map fun x=>a.eval x.2).flatMap fun v=>v.cells.toList):=hv.flatMap _ _ fun _ _ h=>h.GO;have hpl:ps.length=len:=by have:=congrArg List.length hix;simpa using this
 have hvl:(parts.toList.map fun x=>a.eval x.2).length=len:=by rw[<-hv.length];exact hpl
 have hvs:∀v∈(parts.toList.map fun x=>a.eval x.2),v.cells.size=sz:=by
  intro v hvm;obtain⟨p,hp,hr⟩:=hv.mem v hvm;have:=hr.GO.length;have h2:=fS.1 hsz p hp;simp only[eH]at h2;simp only[cK]at this;omega
 have hparts:(parts.map fun x=>(x.1,a.eval x.2)).toList=((parts.toList.map fun x=>a.eval x.2).zipIdx 0).map fun x=>(x.2,x.1):=by
  apply gU;intro j;have hj:=congrArg (fun l=>l[j]?) (hix2.symm.trans hix);simp only[dR]at hj;simp only[Array.toList_map,dR,au0,bW];cases hpj:parts.toList[j]? with
  | none=>rfl
  | some x=>
    rw[hpj]at hj
    have hjl:j<len:=by
     have:=(cL.1 hpj).1;rw[aL]at hvl;omega
    rw[kC hjl]at hj;simp only[cZ,aZ]at hj;simp[hj]
 have hfill:=as6 hpos _ ((Array.range (len*sz)).map (zv.cells[· % zv.cells.size]!)) hvs (by rw[hvl];simp);rw[<-hparts]at hfill
 have hrun:(Instr.buildSlice T len (parts.map fun x=>(x.1,a.eval x.2))).run P w=.ok (.slice (some ⟨w.heap.size,0,none⟩) len len) (w.alloc (.cells ((parts.toList.map fun x=>a.eval x.2).flatMap fun v=>v.cells.toList).toArray E)):=by
  by_cases hlen:len=0
  .have hp0:parts=#[]:=by
    have:parts.toList=[]:=by rw[<-BW];rw[aL]at hvl;omega
    exact Array.toList_eq_nil_iff.1 this
   subst hlen hp0
   have h0:∀f:Nat->Value,(Array.range 0).map f=#[]:=fun f=>by
    apply Array.ext
    .simp
    .intro i h1 h2;simp at h2
   simp[Instr.buildSlice,er hu,sizeOf,typeInfo,hie,Instr.fill,newRow,h0]
  .have hne0:¬len*sz=0:=fun h0=>by
    rcases Nat.mul_eq_zero.1 h0 with h0 | h0<;>omega
   have hrun:=RT (P:=P) w T E len (parts.map fun x=>(x.1,a.eval x.2)) _ ie zv hu hie hz (by rw[hies];omega) (by rw[hies];exact hne0) (by rw[hies];exact hfill);exact hrun
 have hclen:((parts.toList.map fun x=>a.eval x.2).flatMap fun v=>v.cells.toList).length=len*sz:=by
  rw[Au (n:=sz) (fun v hvm=>by rw[cK];exact hvs v hvm),hvl]
 have hr:(execOp a.eval o).run P w=.ok (.value (.slice (some ⟨w.heap.size,0,none⟩) len len)) (w.alloc (.cells ((parts.toList.map fun x=>a.eval x.2).flatMap fun v=>v.cells.toList).toArray E)):=by
  simp only[execOp,ho,gC,hrun,js,gq]
 have hxl:xs.length=len*sz:=by rw[wC h9,hcells.length,hclen]
 refine bF hr (h.aE9 hd hb hτ0 aT ?_ (by rw[cq,hclen]) (ah _) ?_ ?_)
 .intro t ht;simp only[ey,dm,fO,Function.comp]at ht;obtain⟨i,hi,rfl⟩:=ht;have:=cY sz (show i+1<=len by omega);rw[bt,ee]at this;simp only[aL,bh,dF];omega
 .have:len*1<=len*sz:=dz _ hpos;simp only[maxLen];omega
 .intro M' hS;have:=qp h h9 hS hcells;rw[dL (by rw[hclen];exact ah _)]
  have e1:(((List.range len).map fun i=>(xs.drop (i*sz)).take sz).map fun t=>t.map (c0 τ)).flatten=xs.map (c0 τ):=by
   rw[<-List.map_flatten,zy sz len xs hxl]
  rw[e1];exact this
end
open Go.RowKit (Below)
section
variable{P:j5}{M0:eu}{w0 w w':World}{N:Nat}{s:St}{τ:Env}{ρ ρ':Nat->Gh}{a:Act}{o:Oper}{e:il}{nd:eV}{nb ni:Nat}{Qp:iN}
theorem GB{α:Type}(f:Nat->α)(sz:Nat)(hf:∀i,f (sz+i)=f i):∀l,(List.range (l*sz)).map f=(List.replicate l ((List.range sz).map f)).flatten
 | 0=>aT
 | l+1=>by
   rw[bt,ee,gp,List.range_add,cG,ey,kP,gX,<-GB f sz hf l]
   congr 1
   apply kY;intro i _;exact hf i
def OZ{z:iS}{sz c l:Nat}(hz:z.size=sz)(hl:l<=c):(madeCells z (c*sz)).toList.take (l*sz)=(List.replicate l z.toList).flatten:=by
 have h1:(madeCells z (c*sz)).toList=(List.range (c*sz)).map (z[· % z.size]!):=by simp[madeCells]
 rw[h1,<-kD,List.take_range,de (cY _ hl)];rw[GB _ sz (fun i=>by rw[<-hz,Nat.add_mod_left])]
 congr 2
 apply gU;intro j;rw[dR];by_cases hj:j<sz
 .rw[kC hj];simp[hz,fL hj,hj]
 .rw[jQ (by simpa using hj),jQ (by simpa[hz]using hj)];rfl
theorem an.replicate{M:c6}{t:List aC}{vs:j0}(h:an M w t vs):∀l,an M w (List.replicate l t).flatten (List.replicate l vs).flatten
 | 0=>trivial
 | l+1=>by
   rw[kP,kP,gX,gX];exact h.append (an.replicate h l)
theorem an.exact{M:c6}:∀{vs:j0},vs.all (·.oneCell')=true->an M w (vs.map .exact) vs
 | [],_=>trivial
 | v::vs,h=>by
   simp only[PF,bR]at h;exact⟨⟨rfl,h.1⟩,an.exact h.2⟩
def br1(h:Sat M0 w0 N s τ ρ a w)(hd:cw N o=true){T:Nat}{l c:j6}(ho:o.op=.makeSlice T l c)
  (hq:(Vj P o nb ni T l c).run s=some (e,nd)) (hn:jv P τ o.op o.type nd ni):o.wp P a w (lG M0 w0 N s e τ) Qp:=by
 obtain⟨⟨E,sz,by_⟩,h1,h2⟩:=Q.bind_some hq;obtain⟨cl,h3,h4⟩:=Q.bind_some h2;have hl:=eX h h3;cases cl with
 | c x=>
   obtain⟨cc,h5,h6⟩:=Q.bind_some h4;have hc:=eX h h5;cases cc with
   | c y=>
     obtain⟨z,h7,h8⟩:=Q.bind_some h6;obtain⟨_,h9,h10⟩:=Q.bind_some h8;obtain⟨_,h11,h12⟩:=Q.bind_some h10;rw[eU]at h1 h7;have hpos:=du h9;obtain⟨hb,hs⟩:=oq h11;simp only[Q.run_pure,aZ]at h12;obtain⟨rfl,rfl⟩:=dG h12;obtain⟨ie,hu,hie,hies,hieb⟩:=br h1;obtain⟨i,zv,hi,hz,hzc,hone,hzs⟩:=ed h7;rw[hie]at hi;simp only[aZ]at hi;subst hi;obtain⟨news,⟨nl,nc,k,k',e1,e2,hlc,hby,hm,rfl⟩,_,hτ⟩:=hn;have hτ0:=hτ 0 _ rfl;rw[cV]at hτ0;have hl':(c0 τ x).rep (Ms M0 ρ s) w (a.eval l):=hl;have hc':(c0 τ y).rep (Ms M0 ρ s) w (a.eval c):=hc;rw[e1]at hl';rw[e2]at hc';have hm':nc<=9223372036854775807:=by simpa[maxLen]using hm
     have hby':(ie.bytes:Int)*(nc:Int)<=281474976710656:=by
      have:((ie.bytes*nc:Nat):Int)<=281474976710656:=by rw[hieb];omega
      rwa[jH]at this
     have hr:=run_make (P:=P) w T E ie zv hu hie hz k k' nl nc O O hby' O;simp only[bI]at hr
     have hr':(execOp a.eval o).run P w=.ok (.value (.slice (some ⟨w.heap.size,0,none⟩) nl nc)) (w.alloc (.cells (madeCells zv.cells (nc*ie.size)) E)):=by
      simp only[execOp,ho,hl'.1,hc'.1,gC,hr,js,gq]
     have hzl:z.length=sz:=by rw[hzc]at hzs;simpa[hies]using hzs
     refine bF hr' (h.aE9 hd hb hτ0 aT ?_ (by rw[UI,hies]) hlc hm ?_)
     .intro t ht;obtain⟨_,rfl⟩:=kL.1 ht
      simpa using hzl
     .intro M' hS;rw[hies,OZ (by rw[hzs,hies]) hlc,hzc];exact(an.exact hone).replicate nl
   | _=>cases h6
 | _=>cases h4
def Ah{T f ft fo fs:Nat}(h:tj P T f=some (ft,fo,fs)):∃fls fl i,P.underlying T=some (.struct fls)/\fls[f]?=some fl/\fl.type=ft/\fl.offset=fo/\P.info? ft=some i/\i.size=fs:=by
 unfold tj at h;split at h
 .rename_i fls hu;split at h
  .rename_i fl hf;cases hi:P.info? fl.type with
   | none=>simp[hi]at h
   | some i=>
     simp only[hi,cZ,aZ,cX]at h;obtain⟨rfl,rfl,rfl⟩:=h;exact⟨fls,fl,i,hu,hf,rfl,rfl,hi,rfl⟩
  .cases h
 .cases h
def qX{T:Nat}{x:j6}{f ft fo fs g off:Nat}(ho:o.op=.fieldAddr T x f)(hx:a.eval x=.pointer (some ⟨g,off,none⟩))(hf:tj P T f=some (ft,fo,fs))(hpos:0<fs) :
  (execOp a.eval o).run P w=.ok (.value (.pointer (some ⟨g,off+fo,none⟩))) w:=by
 obtain⟨fls,fl,i,hu,hfl,rfl,rfl,hi,rfl⟩:=Ah hf;have hne:¬i.size=0:=O
 simp[execOp,ho,hx,Instr.fieldAt,er hu,hfl,Instr.sureAddr,fieldPlace,sizeOf,typeInfo,hi,hne,lO]
def SZ(h:Sat M0 w0 N s τ ρ a w)(hd:cw N o=true){T:Nat}{x:j6}{f:Nat}(ho:o.op=.fieldAddr T x f)
  (hq:(vG P o ni T x f).run s=some (e,nd)) (hn:jv P τ o.op o.type nd ni):o.wp P a w (lG M0 w0 N s e τ) Qp:=by
 obtain⟨c,h1,h2⟩:=Q.bind_some hq;have hx:=eX h h1;cases c with
 | p b off=>
   obtain⟨⟨ft,fo,fs⟩,h3,h4⟩:=Q.bind_some h2;rw[eU]at h3;obtain⟨_,h5,h6⟩:=Q.bind_some h4;have hpos:=du h5;simp only[Q.run_pure,aZ]at h6;obtain⟨rfl,rfl⟩:=dG h6;exact fK h hd (qX ho hx.2 h3 hpos) ⟨hx.1,rfl⟩
 | ref off cs=>
   obtain⟨⟨ft,fo,fs⟩,h3,h4⟩:=Q.bind_some h2;rw[eU]at h3;obtain⟨_,h5,h6⟩:=Q.bind_some h4;have hpos:=du h5;simp only[Q.run_pure,aZ]at h6;obtain⟨rfl,rfl⟩:=dG h6;obtain⟨b,o',cur,T',fz,he,hm,hh,hrep⟩:=hx;refine fK h hd (qX ho he h3 hpos) ⟨b,o'+fo,cur,T',fz,rfl,hm,hh,?_⟩;have:=hrep.drop fo;rw[gu,mg,gu]at this;rw[dF]at this|-;have e1:(cs.map (c0 τ)).length-(off+fo)=(cs.map (c0 τ)).length-off-fo:=O
   rw[e1];exact this
 | rp b sz i off=>
   obtain⟨⟨ft,fo,fs⟩,h3,h4⟩:=Q.bind_some h2;rw[eU]at h3;obtain⟨_,h5,h6⟩:=Q.bind_some h4;have hpos:=du h5;simp only[Q.run_pure,aZ]at h6;obtain⟨rfl,rfl⟩:=dG h6;obtain⟨hb,g,o0,len,cap,k,n,e1,e2,e3,e4⟩:=hx;exact fK h hd (qX ho e4 h3 hpos) ⟨hb,g,o0,len,cap,k,n,e1,e2,e3,by rw[lf]⟩
 | c y=>exact dD h hd h2 hn
 | rs _ _ _ _=>exact dD h hd h2 hn
 | r b=>exact dD h hd h2 hn
 | gv f cs=>exact dD h hd h2 hn
def aM1(h:Sat M0 w0 N s τ ρ a w)(hd:cw N o=true){T:Nat}{x:j6}{f:Nat}(ho:o.op=.field T x f)
  (hq:(OV P o T x f).run s=some (e,nd)):o.wp P a w (lG M0 w0 N s e τ) Qp:=by
 obtain⟨c,h1,h2⟩:=Q.bind_some hq;have hx:=rf h h1;cases c with
 | one c=>cases h2
 | agg cs=>
   obtain⟨⟨ft,fo,fs⟩,h3,h4⟩:=Q.bind_some h2;rw[eU]at h3;obtain⟨⟨ag,n⟩,h5,h6⟩:=Q.bind_some h4;rw[eU]at h5;obtain⟨cs',h7,h8⟩:=Q.bind_some h6;rw[eU]at h7;obtain⟨sv,h9,h10⟩:=Q.bind_some h8;rw[eU]at h9;simp only[Q.run_pure,aZ]at h10;obtain⟨rfl,rfl⟩:=dG h10;obtain⟨hlen,rfl⟩:=uF h7;obtain⟨vs,hv,hall⟩:=hx;obtain⟨fls,fl,i,hu,hfl,rfl,rfl,hi,rfl⟩:=Ah h3;have hl:=hall.length;obtain⟨ha,hs⟩:=Dr (w:=w) h5;have hone:=yY h9;cases ag with
   | true=>
     refine fK h hd (v:=.agg ((vs.drop fl.offset).take n).toArray) ?_ (wV h9 ((hall.drop fl.offset).take n) aT)
     have:vs.toArray.extract fl.offset (fl.offset+n)=((vs.drop fl.offset).take n).toArray:=by
      apply ur;simp[as8]
     simp[execOp,ho,hv,Instr.field,er hu,hfl,asAgg,part,ha,hs,this]
   | false=>
     have hn1:n=1:=by
      rcases hone with hone | hone
      .cases hone
      .simp at hone;omega
     subst hn1;have hlt:fl.offset<vs.length:=O
     refine fK h hd (v:=vs[fl.offset]) ?_ (wV h9 ((hall.drop fl.offset).take 1) ?_)
     .simp[execOp,ho,hv,Instr.field,er hu,hfl,asAgg,part,ha,hlt]
     .simp only[eN,ck];rw[List.take_one,List.head?_drop];simp[hlt]
def ZF(h:Sat M0 w0 N s τ ρ a w)(hd:cw N o=true){x:j6}{i:Nat}(ho:o.op=.extract x i)
  (hq:(zx o x i).run s=some (e,nd)):o.wp P a w (lG M0 w0 N s e τ) Qp:=by
 obtain⟨c,h1,h2⟩:=Q.bind_some hq;have hx:=zF h h1;cases c with
 | tup xs=>
   obtain⟨v,h3,h4⟩:=Q.bind_some h2;rw[eU]at h3;simp only[Q.run_pure,aZ]at h4;obtain⟨rfl,rfl⟩:=dG h4;obtain⟨vs,hv,hall⟩:=hx;obtain⟨y,hy,hrep⟩:=hall.get i v h3;refine fK h hd (v:=y) ?_ hrep;simp[execOp,ho,hv,Instr.extract,hy]
 | junk=>cases h2
 | undef=>cases h2
 | w x=>cases h2
theorem aX2(h:Sat M0 w0 N s τ ρ a w){M':c6}:∀{c:SC}{x:CR}{l:c7}{v:Value},(bc3 c).run s=some (x,l)->cy M0 ρ s l M'->eB (oB s) τ ρ (Ms M0 ρ s) w c v->(ZD τ x).rep M' w v
 | .p b off,x,l,v,hr,hS,hv=>by
   cases off with
   | succ n=>
     obtain⟨⟨y,l'⟩,h1,h2⟩:=Q.bind_some hr;simp[rM]at h1
   | zero=>
     obtain⟨bx,h1,h2⟩:=Q.bind_some hr;simp only[jS,aZ]at h1;cases bx with
     | none=>simp at h2
     | some bx=>cases bx with
       | row=>simp at h2
       | part=>simp at h2
       | dead=>simp at h2
       | var T cells=>
         obtain⟨⟨xs,l'⟩,h3,h4⟩:=Q.bind_some h2;simp only[Q.run_pure,aZ,cX]at h4;obtain⟨rfl,rfl⟩:=h4;obtain⟨vs,hh,hall⟩:=h.bx b _ h1;have hrep:=qp h h3 (hS.mono fun x hx=>cg _ hx) hall;rw[hv.2];refine⟨(ρ b).blk,0,vs.toArray,T,(0,0),rfl,hS.out b _ _ h1 rfl (.inr cE),hh,?_⟩;have hlen:=hrep.length;rw[gd,gd,hlen,dL aT];exact hrep
 | .ref off cs,x,l,v,hr,hS,hv=>by
   simp only[bc3,Q.gK,aZ,cX]at hr;obtain⟨rfl,rfl⟩:=hr;exact aC.mono _ hS.dJ hv
 | .c y,x,l,v,hr,hS,hv=>by
   obtain⟨⟨y',l'⟩,h1,h2⟩:=Q.bind_some hr;simp only[Q.run_pure,aZ,cX]at h2;obtain⟨rfl,rfl⟩:=h2;exact Gw h h1 hS hv
 | .r b,x,l,v,hr,hS,hv=>by
   obtain⟨⟨y',l'⟩,h1,h2⟩:=Q.bind_some hr;simp only[Q.run_pure,aZ,cX]at h2;obtain⟨rfl,rfl⟩:=h2;exact Gw h h1 hS hv
 | .gv ..,x,l,v,hr,hS,hv=>by
   obtain⟨⟨y',l'⟩,h1,h2⟩:=Q.bind_some hr;simp[rM]at h1
 | .rp ..,x,l,v,hr,hS,hv=>by
   obtain⟨⟨y',l'⟩,h1,h2⟩:=Q.bind_some hr;simp[rM]at h1
 | .rs ..,x,l,v,hr,hS,hv=>by
   obtain⟨⟨y',l'⟩,h1,h2⟩:=Q.bind_some hr;simp[rM]at h1
theorem Ov(h:Sat M0 w0 N s τ ρ a w){M':c6}:∀{xs:List Operand}{cs:List CR}{l:c7},(Uv xs).run s=some (cs,l)->cy M0 ρ s l M'->an M' w (cs.map (ZD τ)) (xs.map a.eval)
 | [],cs,l,hr,hS=>by
   simp only[Uv,Q.gK,aZ,cX]at hr;obtain⟨rfl,rfl⟩:=hr;trivial
 | x::xs,cs,l,hr,hS=>by
   obtain⟨c,h1,h2⟩:=Q.bind_some hr;obtain⟨⟨y,l1⟩,h3,h4⟩:=Q.bind_some h2;obtain⟨⟨ys,l2⟩,h5,h6⟩:=Q.bind_some h4;simp only[Q.run_pure,aZ,cX]at h6;obtain⟨rfl,rfl⟩:=h6;exact⟨aX2 h h3 (hS.mono fun x hx=>gV _ hx) (eX h h1),Ov h h5 (hS.mono fun x hx=>ke _ hx)⟩
def bv1(h:Sat M0 w0 N s τ ρ a w)(hd:cw N o=true){f:Nat}{first caps:Array Operand}(ho:o.op=.makeFunc (.func f) first caps)
  (hq:(VV o f first caps).run s=some (e,nd)):o.wp P a w (lG M0 w0 N s e τ) Qp:=by
 obtain⟨_,h1,h2⟩:=Q.bind_some hq;have hfirst:=du h1;obtain⟨⟨cs,sl⟩,h3,h4⟩:=Q.bind_some h2;simp only[Q.run_pure,aZ]at h4;obtain⟨rfl,rfl⟩:=dG h4;have hS:=cy.ov h (tm:=put o (.w (.one (.gv f cs)))) (sl:=sl)
 have hr:(execOp a.eval o).run P w=.ok (.value (.func (.func f) #[] (caps.toList.map a.eval).toArray)) w:=by
  have:first=#[]:=by simpa using hfirst
  subst this;simp only[execOp,ho,Instr.makeFunc,gC,gq,js,Array.map_empty]
  congr 3
  apply ur;simp
 refine bF hr ⟨ρ,h.calls hd (cS _ _) ?_⟩;exact⟨caps.toList.map a.eval,rfl,Ov h h3 hS⟩
def VB{T:Nat}{x i:j6}{len es g off:Nat}{n:Int}(ho:o.op=.indexAddr T x i)(hx:a.eval x=.pointer (some ⟨g,off,none⟩))(hi:a.eval i=.int .i64 n)(hf:bX0 P T=some (len,es))(h0:0<=n/\n<(len:Int)) :
  (execOp a.eval o).run P w=.ok (.value (.pointer (some ⟨g,off+n.toNat*es,none⟩))) w:=by
 unfold bX0 at hf;split at hf
 .rename_i len' e hu;cases hie:P.info? e with
  | none=>simp[hie]at hf
  | some ie=>
    simp only[hie,cZ,aZ,cX]at hf;obtain⟨rfl,rfl⟩:=hf;simp[execOp,ho,hx,hi,Instr.indexAt,asIntOf,er hu,Instr.sureAddr,sizeOf,typeInfo,hie,h0,lO]
 .cases hf
def aO1(h:Sat M0 w0 N s τ ρ a w)(hd:cw N o=true){T:Nat}{x i:j6}(ho:o.op=.indexAddr T x i)
  (hq:(Pu P o ni T x i).run s=some (e,nd)) (hn:jv P τ o.op o.type nd ni):o.wp P a w (lG M0 w0 N s e τ) Qp:=by
 obtain⟨c,h1,h2⟩:=Q.bind_some hq;have hx:=eX h h1;cases c with
 | r b=>
   obtain⟨ci,h3,h4⟩:=Q.bind_some h2;have hi:=eX h h3;cases ci with
   | c y=>
     obtain⟨⟨pt,E,sz,cid⟩,h5,h6⟩:=Q.bind_some h4;have h5:=oN h5;obtain⟨⟨E',sz',by_⟩,h7,h8⟩:=Q.bind_some h6;rw[eU]at h7;obtain⟨_,h9,h10⟩:=Q.bind_some h8;have hsz:=du h9;subst hsz;simp only[Q.run_pure,aZ]at h10;obtain⟨rfl,rfl⟩:=dG h10;obtain⟨news,⟨ts,k,n,hcid,hi2,h0,hlt,rfl⟩,_,_⟩:=hn;obtain⟨ts',xs,hcid',⟨hxs,hown⟩,hlen,hrep⟩:=Um (h.bx b _ h5);rw[hcid]at hcid';simp only[aZ,aQ.rows.injEq]at hcid';subst hcid';have hi':(c0 τ y).rep (Ms M0 ρ s) w (a.eval i):=hi;rw[hi2]at hi';obtain⟨ie,hu,hie,hies,_⟩:=br h7;rcases hown with⟨hz,_⟩ | ⟨g,off,cap,cur,hv,hg,hnc,hcm,hcs,htake⟩
     .omega
     .refine fK h hd (v:=.pointer (some ⟨g,off+n.toNat*sz',none⟩)) ?_ ⟨hx.1,g,off,_,cap,k,n,hv,hi2,h0,rfl⟩;have hin:0<=n/\n<(ts.length:Int):=⟨h0,hlt⟩
      have hxv:a.eval x=.slice (some ⟨g,off,none⟩) ts.length cap:=by rw[hx.2.1,hv]
      simp[execOp,ho,hxv,hi'.1,Instr.indexAt,asIntOf,er hu,sizeOf,typeInfo,hie,hies,hin,lO]
   | _=>cases h4
 | c y=>exact dD h hd h2 hn
 | rs _ _ _ _=>exact dD h hd h2 hn
 | p b off=>exact dD h hd h2 hn
 | ref off cs=>exact dD h hd h2 hn
 | gv f cs=>exact dD h hd h2 hn
 | rp b sz y off=>
   obtain⟨ci,h3,h4⟩:=Q.bind_some h2;have hi:=eX h h3;split at h4
   .rename_i n;obtain⟨⟨len,es⟩,h5,h6⟩:=Q.bind_some h4;rw[eU]at h5;obtain⟨_,h7,h8⟩:=Q.bind_some h6;have hin:=du h7;simp only[Q.run_pure,aZ]at h8;obtain⟨rfl,rfl⟩:=dG h8;have hi':a.eval i=.int .i64 n:=hi.1;obtain⟨hb,g,o0,len',cap,k,n',e1,e2,e3,e4⟩:=hx;exact fK h hd (VB ho e4 hi' h5 hin) ⟨hb,g,o0,len',cap,k,n',e1,e2,e3,by rw[lf]⟩
   .cases h4
def bH0(h:Sat M0 w0 N s τ ρ a w)(hd:cw N o=true){c:Call}(ho:o.op=.call c)(hc:c.callee=.builtin .len)
  (hq:(Tj P o ni c.args.toList c.argTypes.toList).run s=some (e,nd)) (hn:jv P τ o.op o.type nd ni):o.wp P a w (lG M0 w0 N s e τ) Qp:=by
 unfold Tj at hq;split at hq
 .rename_i x T Ts hargs hts;obtain⟨v,h1,h2⟩:=Q.bind_some hq;have hx:=eX h h1;cases v with
  | r b=>
    obtain⟨⟨pt,E,sz,cid⟩,h5,h6⟩:=Q.bind_some h2;have h5:=oN h5;obtain⟨⟨E',sz',by_⟩,h7,h8⟩:=Q.bind_some h6;rw[eU]at h7;simp only[Q.run_pure,aZ]at h8;obtain⟨rfl,rfl⟩:=dG h8;obtain⟨news,⟨ts,hcid,rfl⟩,_,hτ⟩:=hn;have hτ0:=hτ 0 _ rfl;rw[cV]at hτ0;obtain⟨ts',xs,hcid',⟨hxs,hown⟩,hlen,hrep⟩:=Um (h.bx b _ h5);rw[hcid]at hcid';simp only[aZ,aQ.rows.injEq]at hcid';subst hcid';obtain⟨ie,hu,hie,hies,_⟩:=br h7
    have hv:∃ad cap,a.eval x=.slice ad ts.length cap:=by
     rw[hx.2.1];rcases hown with⟨hz,c,hv⟩ | ⟨g,off,cap,cur,hv,_⟩
     .exact⟨none,c,by rw[hv,hz]⟩
     .exact⟨_,_,hv⟩
    obtain⟨ad,cap,hv⟩:=hv;have ha:c.args=#[x]:=by apply ur;simpa using hargs
    have ht:c.argTypes[0]?=some T:=by rw[<-kU,hts];rfl
    refine fK h hd (sv:=.w (su ni none)) (v:=.int .i64 ts.length) ?_ (tM (ex:=oB s) (ρ:=ρ) (sh:=none) hτ0 rfl ⟨rfl,rfl⟩);simp[execOp,ho,resolve,hc,invoke,builtin,Builtin.len_,ha,ht,hv,er hu,goInt]
  | c y=>exact dD h hd h2 hn
  | rs _ _ _ _=>exact dD h hd h2 hn
  | p b off=>exact dD h hd h2 hn
  | ref off cs=>exact dD h hd h2 hn
  | gv f cs=>exact dD h hd h2 hn
  | rp b sz y off=>exact dD h hd h2 hn
 .cases hq
end
open Go.RowKit (Below)
section
variable{P:j5}{M0:eu}{w0 w w':World}{N:Nat}{s:St}{τ:Env}{ρ ρ':Nat->Gh}{a:Act}{o:Oper}{e:il}{nd:eV}{nb ni:Nat}{Qp:iN}
def Sat.Gj(h:Sat M0 w0 N s τ ρ a w){E sz:Nat}{ts:List (List aC)}{kill:List (Nat×Bx)}{v:Value}{xs:j0}(hd:cw N o=true)(hnb:s.b nb=none)
  (hkill:kill=[]\/∃b xb,kill=[(b,.dead)]/\s.b b=some xb/\s.s b=false)
  (hτ:τ[ni]?=some (.rows ts)) (hts:∀t∈ts,t.length=sz)
  (hbel:Kept M0 w0 w') (hsz:w.heap.size<=w'.heap.size)
  (hheap:∀k,k<w.heap.size->¬vR s ρ kill k->w'.heap[k]?=w.heap[k]?)
  (hown:w'.ownsRow 0 E sz v ts.length xs)
  (hg:∀g,v.ownBlock=some g->w.heap.size<=g\/vR s ρ kill g)
  (hrep:an (Ms M0 ρ s) w ts.flatten xs) :
  ∃ρ',Sat M0 w0 N (s.app ⟨put o (.w (.one (.r nb))),(nb,.row E sz ni)::kill,[]⟩) τ ρ' (a.put o.dst v) w':=by
 refine⟨fun b=>if b=nb then⟨0,v,#[]⟩else ρ b,?_⟩;have hne:∀b,b≠nb->(fun b=>if b=nb then(⟨0,v,#[]⟩:Gh)else ρ b) b=ρ b:=fun b hb=>by simp[hb]
 have hv1:v.oneCell'=true:=by
  rcases hown.2 with⟨hv,_⟩ | ⟨g,cap,cur,hv,_⟩<;>rw[hv]<;>rfl
 refine h.ae0 hd hnb (fun _ _ _ h=>by cases h) hkill hne hbel hsz hheap ?_ ?_ ?_
 .intro g hgo;have hgo:v.ownBlock=some g:=by simpa[own]using hgo
  obtain⟨_,h2⟩:=hown.lt g hgo;refine⟨?_,h2,hg g hgo⟩;rcases hg g hgo with h3 | ⟨b,xb,_,h4,_,h5⟩
  .exact .inl (bG h.below.size h3)
  .exact(h.lo b xb g h4 h5).1
 .intro _;refine⟨?_,aT,hv1⟩;rw[oB,St.iL];simp[look]
 .intro hkeep;refine⟨ts,xs,hτ,?_,hts,hrep.mono hkeep⟩;simp only[bg];exact hown
def xX{base base' E sz n:Nat}{v:Value}{xs:j0}(h:w.ownsRow base E sz v n xs)(hb:base'<=base):w.ownsRow base' E sz v n xs:=by
 refine⟨h.1,?_⟩;rcases h.2 with hn | ⟨g,cap,cur,hv,hbg,rest⟩
 .exact .inl hn
 .exact .inr ⟨g,cap,cur,hv,bG hb hbg,rest⟩
def AL(w:World)(t ty e:TypeId)(i:TypeInfo)(ht:P.underlying t=some (.slice e))(hi:P.info? e=some i)
  (base size:Nat) (v:Value) (n c:Nat) (xs:j0) (hown:w.ownsRow base e size v n xs) :
  (Builtin.append_ #[t,t] ty #[v,.slice none 0 c]).run P w=.ok v w:=by
 rcases hown.2 with⟨rfl,rfl⟩ | ⟨g,cap,cur,rfl,_,_,hnc,_⟩
 .simp[Builtin.append_,er ht,sizeOf,typeInfo,hi,Builtin.lenOf,Builtin.firstCells]
 .simp[Builtin.append_,er ht,sizeOf,typeInfo,hi,Builtin.lenOf,Builtin.firstCells,hnc,storeCells]
inductive Src (w:World) (M:c6) (sz:Nat) (us:List (List aC)) (v:Value):Prop where
 | nil (c:Nat) (hv:v=.slice none 0 c) (hu:us=[]):Src w M sz us v
 | some (ad:Addr) (c:Nat) (news:j0) (hv:v=.slice (some ad) us.length c) (hl:news.length=us.length*sz) (hn:∀j u,news[j]?=some u->w.cell? (ad.add j)=some u) (hr:an M w us.flatten news) (hs:∀t∈us,t.length=sz):Src w M sz us v
def rE{M:c6}{sz:Nat}{us:List (List aC)}{v:Value}(h:(aC.slice sz us).rep M w v):Src w M sz us v:=by
 obtain⟨ad,cap,rfl,hc,hm,h⟩:=h;rcases h with rfl | ⟨b,off,cs,T,fz,rfl,hb,hh,hel⟩
 .cases ad with
  | none=>exact .nil cap rfl rfl
  | some ad=>exact .some ad cap [] rfl aT aT trivial aT
 .have hlen:∀t∈us,t.length=sz:=fun t ht=>by
   obtain⟨i,hi⟩:=Cu.1 ht;exact(hel i t hi).1
  have key:∀(us:List (List aC))(off:Nat),(∀i t,us[i]?=some t->t.length=sz/\an M w t ((cs.toList.drop (off+i*sz)).take sz))->an M w us.flatten ((cs.toList.drop off).take (us.length*sz)):=by
   intro us
   induction us with
   | nil=>intro off _;simp;trivial
   | cons t us ih=>
     intro off hel;rw[gX,bB,bt,ee,gp,Bz,gu];have h0:=(hel 0 t rfl).2;rw[ns,cV]at h0;refine h0.append (ih (off+sz) fun i t' hi=>?_);have:=hel (i+1) t' (by simpa using hi);rw[bt,ee]at this;refine⟨this.1,?_⟩;have e1:off+sz+i*sz=off+(i*sz+sz):=O
     rw[e1];exact this.2
  have hr:=key us off hel;refine .some ⟨b,off,none⟩ cap _ rfl ?_ ?_ hr hlen
  .rw[<-hr.length];clear hr key hel
   induction us with
   | nil=>simp
   | cons t us ih=>rw[gX,cF,hlen t cE,ih (by simp only[bB]at hc;omega) (fun t ht=>hlen t (cg _ ht)),bB,bt,ee,gp]
  .intro j u hj;rw[lO,cell_of_row w b (off+j) cs T fz hh];rw[eh]at hj;split at hj
   .rw[fG]at hj;simpa using hj
   .cases hj
def bt9{M:c6}{base E sz:Nat}{us:List (List aC)}{v:Value}{xs:j0}(hown:w.ownsRow base E sz v us.length xs)(hr:an M w us.flatten xs)(hs:∀t∈us,t.length=sz):Src w M sz us v:=by
 rcases hown.2 with⟨hv,hz⟩ | ⟨g,cap,cur,hv,_,_,_⟩
 .have:us=[]:=ep hz;subst this;exact .nil 0 hv rfl
 .exact .some ⟨g,0,none⟩ cap xs hv hown.1 (hown.cells (by rw[hv];rfl)) hr hs
def vV{y:C0}(h:isNil y=true):y=.k (.slice none 0 0):=by
 unfold isNil at h;split at h
 .rfl
 .cases h
def Et(h:Sat M0 w0 N s τ ρ a w)(hd:cw N o=true)(hnb:s.b nb=none){T E sz by_:Nat}{ie:TypeInfo}{zv:Value}(hu:P.underlying T=some (.slice E))(hie:P.info? E=some ie)(hies:ie.size=sz)(hieb:ie.bytes=by_)(hz:ie.zero=some zv)(hzs:zv.cells.size=ie.size)(hpos:0<sz)
  {v u:Value} {ts us:List (List aC)} {xs:j0} {kill:List (Nat×Bx)}
  (hkill:(kill=[]/\v=.slice none 0 0)\/∃b xb,kill=[(b,.dead)]/\s.b b=some xb/\s.s b=false/\own ρ b xb=v.ownBlock)
  (hown:w.ownsRow 0 E sz v ts.length xs) (hr:an (Ms M0 ρ s) w ts.flatten xs) (hts:∀t∈ts,t.length=sz)
  (hsrc:Src w (Ms M0 ρ s) sz us u) (hby:(ts.length+us.length)*by_<=140737488355328) (hm:ts.length+us.length<=maxLen)
  (hτ:τ[ni]?=some (.rows (ts++us)))
  (hrun:∀v' w',(Builtin.append_ #[T,T] o.type #[v,u]).run P w=.ok v' w'->(execOp a.eval o).run P w=.ok (.value v') w') :
  o.wp P a w (lG M0 w0 N s ⟨put o (.w (.one (.r nb))),(nb,.row E sz ni)::kill,[]⟩ τ) Qp:=by
 have hkill':kill=[]\/∃b xb,kill=[(b,.dead)]/\s.b b=some xb/\s.s b=false:=by
  rcases hkill with⟨h1,_⟩ | ⟨b,xb,h1,h2,h3,_⟩
  .exact .inl h1
  .exact .inr ⟨b,xb,h1,h2,h3⟩
 have hkl:∀g,v.ownBlock=some g->vR s ρ kill g:=by
  intro g hg;rcases hkill with⟨_,h1⟩ | ⟨b,xb,h1,h2,h3,h4⟩
  .rw[h1]at hg;simp[Value.ownBlock]at hg
  .exact⟨b,xb,h1,h2,h3,by rw[h4];exact hg⟩
 cases hsrc with
 | nil c hv hus=>
   subst hv hus;rw[cB]at hτ;have:=AL (P:=P) w T o.type E ie hu hie _ sz v ts.length c xs hown;exact bF (hrun _ _ this) (h.Gj hd hnb hkill' hτ hts h.below (ah _) (fun _ _ _=>rfl) hown (fun g hg=>.inr (hkl g hg)) hr)
 | some ad c news hv hl hn hrn hsn=>
   subst hv
   have hts':∀t∈ts++us,t.length=sz:=fun t ht=>by
    rcases dx.1 ht with ht | ht
    .exact hts t ht
    .exact hsn t ht
   have hr':an (Ms M0 ρ s) w (ts++us).flatten (xs++news):=by rw[lH];exact hr.append hrn
   have hone:=hrn.one
   have hours:∀k,v.ownBlock=some k->M0.ours w0 k:=fun k hk=>by
    obtain⟨b,xb,_,h4,_,h5⟩:=hkl k hk;exact(h.lo b xb k h4 h5).1
   have main:∀v' w',(Builtin.append_ #[T,T] o.type #[v,.slice (some ad) us.length c]).run P w=.ok v' w'->w'.ownsRow 0 E sz v' (ts.length+us.length) (xs++news)->w.grownBy w' v.ownBlock->(∀g,v'.ownBlock=some g->w.heap.size<=g\/vR s ρ kill g)->o.wp P a w (lG M0 w0 N s ⟨put o (.w (.one (.r nb))),(nb,.row E sz ni)::kill,[]⟩ τ) Qp:=by
    intro v' w' hrv hown' hgr hg;refine bF (hrun _ _ hrv) (h.Gj hd hnb hkill' hτ hts' (h.below.grown hgr hours) hgr.size (fun k hk hnk=>hgr.block k hk fun e=>hnk (hkl k e.symm)) ?_ hg hr');rw[cF];exact hown'
   have hzsz:zv.cells.size=sz:=by rw[hzs,hies]
   rcases hown.2 with⟨hv,hn0⟩ | ⟨g,cap,cur,hv,hbg,hg,hnc,hcm,hcs,htake⟩
   .have hown2:w.ownsRow w.heap.size E sz v ts.length xs:=⟨hown.1,.inl ⟨hv,hn0⟩⟩
    obtain⟨v',w',hr1,hr2,hr3,_⟩:=run_append_own (P:=P) w w.heap.size T o.type E ie zv sz by_ hu hie hz hies hieb hzsz hpos v ts.length xs hown2 ad us.length c news hl hn hone hm hby (ah _);exact main v' w' hr1 (xX hr2 (dM _)) hr3 (fun g hg=>.inl (hr2.lt g hg).1)
   .by_cases hroom:ts.length+us.length<=cap
    .obtain⟨w',hr1,hr2,hr3⟩:=run_append_fits (P:=P) w 0 T o.type E ie sz hu hie hies g ts.length cap xs (by rw[<-hv];exact hown) ad us.length c news hl hn hone hroom;subst hv;exact main _ w' hr1 hr2 hr3 (fun g' hg'=>.inr (hkl g' hg'))
    .have hm':ts.length+us.length<=9223372036854775807:=by simpa[maxLen]using hm
     obtain⟨v',w',hr1,hr2,hr3,_⟩:=run_append_own (P:=P) w 0 T o.type E ie zv sz by_ hu hie hz hies hieb hzsz hpos v ts.length xs hown ad us.length c news hl hn hone hm hby (dM _);have hr4:=run_append_grow (P:=P) w T o.type E ie zv hu hie hz ⟨g,0,none⟩ ts.length cap xs (by rw[hown.1,hies]) (hown.cells (by rw[hv];rfl)) ad us.length c news (by rw[hl,hies]) hn O O (growslice_fits O (by rw[hieb];exact hby));refine main v' w' hr1 hr2 hr3 (fun g' hg'=>.inl ?_);rw[hv]at hr1;rw[hr4]at hr1
     have:v'=.slice (some ⟨w.heap.size,0,none⟩) (ts.length+us.length) (grownCap w (ts.length+us.length) cap E):=by
      injection hr1 with h1 h2;exact h1.symm
     rw[this]at hg';simp only[Value.ownBlock,aZ]at hg';omega
def av9(h:Sat M0 w0 N s τ ρ a w)(hd:cw N o=true){c:Call}(ho:o.op=.call c)(hc:c.callee=.builtin .append){x y:j6}(hargs:c.args.toList=[x,y])
  (hq:(CH P o nb ni c.argTypes.toList x y).run s=some (e,nd)) (hn:jv P τ o.op o.type nd ni):o.wp P a w (lG M0 w0 N s e τ) Qp:=by
 obtain⟨⟨E,sz,by_⟩,h1,h2⟩:=Q.bind_some hq;rw[eU]at h1;obtain⟨_,h3,h4⟩:=Q.bind_some h2;obtain⟨hT,hpos⟩:=du h3;obtain⟨z,h5,h6⟩:=Q.bind_some h4;rw[eU]at h5;obtain⟨ca,h7,h8⟩:=Q.bind_some h6;obtain⟨cc,h9,h10⟩:=Q.bind_some h8;obtain⟨⟨cid,kill⟩,h11,h12⟩:=Q.bind_some h10;obtain⟨⟨src,row⟩,h13,h14⟩:=Q.bind_some h12;obtain⟨_,h15,h16⟩:=Q.bind_some h14;obtain⟨hb,hs⟩:=oq h15;simp only[Q.run_pure,aZ]at h16;obtain⟨rfl,rfl⟩:=dG h16;have hx:=eX h h7;have hy:=eX h h9;obtain⟨ie,hu,hie,hies,hieb⟩:=br h1;obtain⟨i,zv,hi,hz,hzc,hone,hzs⟩:=ed h5;rw[hie]at hi;simp only[aZ]at hi;subst hi;obtain⟨news,⟨ts,us,hdst,hsrc,hby,hm,rfl⟩,_,hτ⟩:=hn;have hτ0:=hτ 0 _ rfl;rw[cV]at hτ0;clear hq h2 h4 h6 h8 h10 h12 h14;generalize c.argTypes.toList.getD 0 0=T at *;have ha:c.args=#[x,y]:=by apply ur;simpa using hargs
 have ht:c.argTypes=#[T,T]:=by apply ur;simpa using hT
 have hrun:∀v u:Value,a.eval x=v->a.eval y=u->∀v' w',(Builtin.append_ #[T,T] o.type #[v,u]).run P w=.ok v' w'->(execOp a.eval o).run P w=.ok (.value v') w':=by
  rintro v u rfl rfl v' w' hr;simp[execOp,ho,resolve,hc,invoke,builtin,ha,ht,hr]
 have hS:Src w (Ms M0 ρ s) sz us (a.eval y):=by
  cases cc with
  | r b=>
    obtain⟨bx,h17,h18⟩:=Q.bind_some h13;simp only[jS,aZ]at h17;cases bx with
    | none=>cases h18
    | some bx=>cases bx with
      | var=>cases h18
      | part=>cases h18
      | dead=>cases h18
      | row E2 s2 cid2=>
        obtain⟨_,h19,h20⟩:=Q.bind_some h18;obtain⟨oz,_⟩:=du h19;simp only[Q.run_pure,aZ,cX]at h20;obtain⟨rfl,rfl⟩:=h20;obtain⟨ts',xs,hcid',hown,hlen,hrep⟩:=h.bx b _ h17;have hsrc:τ[cid2]?=some (.rows us):=hsrc;rw[hsrc]at hcid';simp only[aZ,aQ.rows.injEq]at hcid';subst hcid';rw[hy.2.1];subst oz;exact bt9 hown hrep hlen
  | c y'=>
    simp only[Q.run_pure,aZ,cX]at h13;obtain⟨rfl,rfl⟩:=h13;have hy':(c0 τ y').rep (Ms M0 ρ s) w (a.eval y):=hy;rcases hsrc with⟨hnil,rfl⟩ | hsl
    .rw[vV hnil]at hy';exact .nil 0 hy'.1 rfl
    .exact rE (hsl.rep hy')
  | p _ _=>cases h13
  | ref _ _=>cases h13
  | gv _ _=>cases h13
  | rs _ _ _ _=>cases h13
  | rp _ _ _ _=>cases h13
 cases ca with
 | r b=>
   obtain⟨bx,h17,h18⟩:=Q.bind_some h11;simp only[jS,aZ]at h17;cases bx with
   | none=>cases h18
   | some bx=>cases bx with
     | var=>cases h18
     | part=>cases h18
     | dead=>cases h18
     | row E1 s1 cid1=>
       obtain⟨sb,h19,h20⟩:=Q.bind_some h18;simp only[tK,aZ]at h19;obtain⟨_,h21,h22⟩:=Q.bind_some h20;have hsb:=du h21;rw[<-h19]at hsb;obtain⟨_,h23,h24⟩:=Q.bind_some h22;obtain⟨rfl,rfl⟩:=du h23;simp only[Q.run_pure,aZ,cX]at h24;obtain⟨rfl,rfl⟩:=h24;obtain⟨ts',xs,hcid',hown,hlen,hrep⟩:=h.bx b _ h17;have hdst:τ[cid1]?=some (.rows ts):=hdst;rw[hdst]at hcid';simp only[aZ,aQ.rows.injEq]at hcid';subst hcid';refine Et h hd hb hu hie hies hieb hz hzs hpos (.inr ⟨b,_,rfl,h17,hsb,rfl⟩) hown hrep hlen hS hby hm hτ0 (hrun _ _ hx.2.1 rfl)
 | c y'=>
   obtain⟨_,h17,h18⟩:=Q.bind_some h11;have hnil:=du h17;simp only[Q.run_pure,aZ,cX]at h18;obtain⟨rfl,rfl⟩:=h18;have hdst:ts=[]:=hdst;subst hdst;have hx':(c0 τ y').rep (Ms M0 ρ s) w (a.eval x):=hx;rw[vV hnil]at hx';exact Et h hd hb hu hie hies hieb hz hzs hpos (ts:=[]) (xs:=[]) (.inl ⟨rfl,rfl⟩) (pY w _ E sz) (show an _ _ [] []from trivial) aT hS hby hm hτ0 (hrun _ _ hx'.1 rfl)
 | p _ _=>cases h11
 | ref _ _=>cases h11
 | gv _ _=>cases h11
 | rs _ _ _ _=>cases h11
 | rp _ _ _ _=>cases h11
theorem xE(τ:Env):∀caps:List CR,(caps.map cd7).map (pw τ)=(caps.map (ZD τ)).map .one
 | []=>rfl
 | x::xs=>by
   simp only[fj,xE τ xs];cases x<;>rfl
def ap8(h:Sat M0 w0 N s τ ρ a w)(hd:cw N o=true){c:Call}(ho:o.op=.call c){x:j6}(hc:c.callee=.value x){f:Nat}{caps:List CR}{cvs:j0}(hx:a.eval x=.func (.func f) #[] cvs.toArray)(hcv:an (Ms M0 ρ s) w (caps.map (ZD τ)) cvs)
  (hq:(YA P o ni f c.args.toList caps).run s=some (e,nd)) (hn:jv P τ o.op o.type nd ni):o.wp P a w (lG M0 w0 N s e τ) Qp:=by
 obtain⟨⟨as,sl⟩,h1,h2⟩:=Q.bind_some hq;obtain⟨sh,h3,h4⟩:=Q.bind_some h2;obtain⟨_,h5,h6⟩:=Q.bind_some h4;simp only[Q.run_pure,aZ]at h6;obtain⟨rfl,rfl⟩:=dG h6;obtain⟨news,⟨hsh,hdo⟩,_,hτ⟩:=hn;have hS:=cy.ov h (tm:=put o (mu ni sh)) (sl:=sl);rw[cG,xE]at hdo;exact am8 h hd ho hc hx (je h h1 hS) (hcv.mono hS.dJ) hsh hτ hdo
def aG0(h:Sat M0 w0 N s τ ρ a w)(hd:cw N o=true){c:Call}(ho:o.op=.call c){x:j6}(hc:c.callee=.value x)
  (hq:(Pj P o ni x c.args.toList).run s=some (e,nd)) (hn:jv P τ o.op o.type nd ni):o.wp P a w (lG M0 w0 N s e τ) Qp:=by
 obtain⟨g,h1,h2⟩:=Q.bind_some hq;have hx:=eX h h1;cases g with
 | gv f caps=>
   obtain⟨vs,hv,hr⟩:=hx;exact ap8 h hd ho hc hv hr h2 hn
 | c y=>
   obtain⟨⟨as,sl⟩,h3,h4⟩:=Q.bind_some h2;obtain⟨sh,h5,h6⟩:=Q.bind_some h4;simp only[Q.run_pure,aZ]at h6;obtain⟨rfl,rfl⟩:=dG h6;obtain⟨news,⟨f,caps,hy,hsh,hdo⟩,_,hτ⟩:=hn;have hx':(c0 τ y).rep (Ms M0 ρ s) w (a.eval x):=hx;rw[hy]at hx';obtain⟨vs,hv,hr⟩:=hx';have hS:=cy.ov h (tm:=put o (mu ni sh)) (sl:=sl);exact am8 h hd ho hc hv (je h h3 hS) (hr.mono hS.dJ) hsh hτ hdo
 | p _ _=>cases h2
 | ref _ _=>cases h2
 | r _=>cases h2
 | rp _ _ _ _=>cases h2
 | rs _ _ _ _=>cases h2
def ok_slice(h:Sat M0 w0 N s τ ρ a w)(hd:cw N o=true){T:Nat}{x:j6}{lo hi mx:Option Operand}(ho:o.op=.slice T x lo hi mx)
  (hq:(Pn P o ni T x lo hi mx).run s=some (e,nd)) (hn:jv P τ o.op o.type nd ni):o.wp P a w (lG M0 w0 N s e τ) Qp:=by
 obtain⟨c,h1,h2⟩:=Q.bind_some hq;have hx:=eX h h1;split at h2
 .rename_i b l hh m;obtain⟨⟨pt,E,sz,cid⟩,h3,h4⟩:=Q.bind_some h2;have h3:=oN h3;obtain⟨⟨E',sz',by_⟩,h5,h6⟩:=Q.bind_some h4;rw[eU]at h5;obtain⟨_,h7,h8⟩:=Q.bind_some h6;have hsz:=du h7;subst hsz;obtain⟨cl,h9,h10⟩:=Q.bind_some h8;have hl:=eX h h9;cases cl with
  | c cl=>
    obtain⟨ch,h11,h12⟩:=Q.bind_some h10;have hhi:=eX h h11;cases ch with
    | c ch=>
      obtain⟨cm,h13,h14⟩:=Q.bind_some h12;have hmx:=eX h h13;cases cm with
      | c cm=>
        simp only[Q.run_pure,aZ]at h14;obtain⟨rfl,rfl⟩:=dG h14;obtain⟨news,⟨ts,k,k',k'',n,m',hcid,e1,e2,e3,hnm,hmt,rfl⟩,_,_⟩:=hn;have hl':(c0 τ cl).rep (Ms M0 ρ s) w (a.eval l):=hl;have hhi':(c0 τ ch).rep (Ms M0 ρ s) w (a.eval hh):=hhi;have hmx':(c0 τ cm).rep (Ms M0 ρ s) w (a.eval m):=hmx;rw[e1]at hl';rw[e2]at hhi';rw[e3]at hmx';obtain⟨ts',xs,hcid',⟨hxs,hown⟩,hlen,hrep⟩:=Um (h.bx b _ h3);rw[hcid]at hcid';simp only[aZ,aQ.rows.injEq]at hcid';subst hcid';obtain⟨ie,hu,hie,hies,_⟩:=br h5;rcases hown with⟨hz,_⟩ | ⟨g,off,cap,cur,hv,hg,hnc,hcm,hcs,htake⟩
        .omega
        .have hxv:a.eval x=.slice (some ⟨g,off,none⟩) ts.length cap:=by rw[hx.2.1,hv]
         refine fK h hd (v:=.slice (some ⟨g,off+n*sz',none⟩) (m'-n) (m'-n)) ?_ ⟨hx.1,g,off,_,cap,k,k',n,m',m'-n,hv,e1,e2,hnm,hmt,ah _,O,rfl⟩;have q1:(m':Int)<=(cap:Int):=O
         have q2:¬m'=n:=O
         have q3:(n:Int)<=(m':Int):=O
         have q4:n<=m':=O
         have q5:m'<=cap:=O
         simp[execOp,ho,hxv,hl'.1,hhi'.1,hmx'.1,Instr.sliceAt,Instr.slice,Instr.sliceBounds,Instr.sliceBound,asIntOf,er hu,sizeOf,typeInfo,hie,hies,q1,q2,q3,q4,q5,lO]
      | _=>cases h14
    | _=>cases h12
  | _=>cases h10
 .exact dD h hd h2 hn
def vd{M:c6}{sz:Nat}{ts us us':List (List aC)}{n:Nat}{l l':j0}(hts:∀t∈ts,t.length=sz)(hus:us=(ts.drop n).take us.length)(hle:n+us.length<=ts.length)(hl:us'.length=us.length)(hl':∀t∈us',t.length=sz)
  (h1:an M w ts.flatten l) (h2:an M w us'.flatten l'):an M w (ts.take n++us'++ts.drop (n+us.length)).flatten (l.take (n*sz)++l'++l.drop (n*sz+us.length*sz)):=by
 have hfl:∀(xs:List (List aC)),(∀t∈xs,t.length=sz)->xs.flatten.length=xs.length*sz:=by
  intro xs hx
  induction xs with
  | nil=>simp
  | cons x xs ih=>rw[gX,cF,hx x cE,ih fun t ht=>hx t (cg _ ht),bB,bt,ee,gp]
 have htk:(ts.take n).flatten=ts.flatten.take (n*sz):=by
  have e:ts.flatten=(ts.take n).flatten++(ts.drop n).flatten:=by rw[<-lH,oA]
  have hlen:=hfl (ts.take n) fun t ht=>hts t (mL ht);rw[bh,de O]at hlen;rw[e,<-hlen,List.take_left]
 have hdr:(ts.drop (n+us.length)).flatten=ts.flatten.drop (n*sz+us.length*sz):=by
  have e:ts.flatten=(ts.take (n+us.length)).flatten++(ts.drop (n+us.length)).flatten:=by rw[<-lH,oA]
  have hlen:=hfl (ts.take (n+us.length)) fun t ht=>hts t (mL ht);rw[bh,de O,bt]at hlen;rw[e,<-hlen,List.drop_left]
 rw[lH,lH,htk,hdr];exact((h1.take _).append h2).append (h1.drop _)
def aB0(h:Sat M0 w0 N s τ ρ a w){b E sz cid ni:Nat}{pt:Bool}{sl:c7}{tm:List (Nat×SV)}(hb:s.b b=some (lJ pt E sz cid))(hs:s.s b=false)(hsl:b ∉ sl){g:Nat}(hval:(ρ b).val.ownBlock=some g) :
  cy M0 ρ s sl (Ms M0 ρ (s.app ⟨tm,[(b,lJ pt E sz ni)],sl⟩))/\Ms M0 ρ (s.app ⟨tm,[(b,lJ pt E sz ni)],sl⟩) g:=by
 have hown:∀pt x y z,own ρ b (lJ pt x y z)=some g:=fun pt x y z=>by rw[Xh,hval]
 have hbM:Ms M0 ρ s g:=.inr ⟨b,_,hb,hs,hown ..⟩
 constructor
 .constructor
  .rintro k (hk | ⟨b',y,h1,h2,h3⟩)
   .exact .inl hk
   .rw[St.iL]at h1;rw[St.so]at h2;simp only[lL]at h2;simp only[look]at h1;by_cases e:b=b'
    .subst e;simp only[bg,aZ]at h1;subst h1;rw[hown]at h3;cases h3;exact hbM
    .simp only[e,ck]at h1;exact .inr ⟨b',y,h1,h2.2,h3⟩
  .intro b' x k h1 h2 h3 hk;rcases hk with hk | ⟨b'',y,h4,h5,h6⟩
   .exact h.old k hk (h.lo b' x k h1 h2).1
   .rw[St.iL]at h4;rw[St.so]at h5;simp only[lL]at h5;simp only[look]at h4;by_cases e:b=b''
    .subst e;simp only[bg,aZ]at h4;subst h4;rw[hown]at h6;have:=h.inj b' b x _ k h1 hb h2 (by rw[hown];exact h6);subst this;rcases h3 with h3 | h3
     .rw[hs]at h3;cases h3
     .exact hsl h3
    .simp only[e,ck]at h4;have:=h.inj b' b'' x y k h1 h4 h2 h6;subst this;rcases h3 with h3 | h3
     .rw[h3]at h5;simp at h5
     .have:sl.contains b'=true:=by simpa using h3
      rw[this]at h5;simp at h5
 .refine .inr ⟨b,lJ pt E sz ni,?_,?_,hown ..⟩
  .rw[St.iL];simp[look]
  .rw[St.so];simp[hs,hsl]
def ax9{M:c6}{sz:Nat}{ts us:List (List aC)}{n:Nat}{l:j0}(hts:∀t∈ts,t.length=sz)(hus:us=(ts.drop n).take us.length)(hle:n+us.length<=ts.length)(h:an M w ts.flatten l) :
  an M w us.flatten ((l.drop (n*sz)).take (us.length*sz)):=by
 have hfl:∀(xs:List (List aC)),(∀t∈xs,t.length=sz)->xs.flatten.length=xs.length*sz:=by
  intro xs hx
  induction xs with
  | nil=>simp
  | cons x xs ih=>rw[gX,cF,hx x cE,ih fun t ht=>hx t (cg _ ht),bB,bt,ee,gp]
 have e:ts=ts.take n++(us++ts.drop (n+us.length)):=by
  have e1:ts.drop n=us++ts.drop (n+us.length):=by
   conv=>lhs;rw[<-oA us.length (ts.drop n)]
   rw[gu,<-hus]
  rw[<-e1,oA]
 have h1:=hfl (ts.take n) fun t ht=>hts t (mL ht);rw[bh,de O]at h1;have h2:=hfl us fun t ht=>by rw[hus]at ht;exact hts t (pF (mL ht))
 have hd:=(h.drop (n*sz)).take (us.length*sz);rw[e,lH,lH,<-h1,List.drop_left,<-h2,List.take_left,h1,h2]at hd;exact hd
def aO7(h:Sat M0 w0 N s τ ρ a w)(hd:cw N o=true){c:Call}(ho:o.op=.call c){pre post:List Operand}{x:j6}(hargs:c.args.toList=pre++x::post)
  (hq:(yI P o ni pre x post).run s=some (e,nd)) (hn:jv P τ o.op o.type nd ni):o.wp P a w (lG M0 w0 N s e τ) Qp:=by
 obtain⟨⟨as,sl1⟩,h1,h2⟩:=Q.bind_some hq;obtain⟨cx,h3,h4⟩:=Q.bind_some h2;obtain⟨⟨bs,sl2⟩,h5,h6⟩:=Q.bind_some h4;obtain⟨⟨b,view⟩,h7,h8⟩:=Q.bind_some h6;obtain⟨⟨pt,E,sz,cid⟩,h9,h10⟩:=Q.bind_some h8;have h9:=oN h9;obtain⟨_,h11,h12⟩:=Q.bind_some h10;have hrsz:=du h11;obtain⟨sb,h13,h14⟩:=Q.bind_some h12;simp only[tK,aZ]at h13;obtain⟨_,h15,h16⟩:=Q.bind_some h14;have hsb:=du h15;rw[<-h13]at hsb;obtain⟨_,h17,h18⟩:=Q.bind_some h16;have hsl:=du h17;obtain⟨sh,h19,h20⟩:=Q.bind_some h18;simp only[Q.run_pure,aZ]at h20;obtain⟨rfl,rfl⟩:=dG h20;obtain⟨news,⟨ts,us,us',rs,n,hcid,hview,hne,hsh,hrow,rfl⟩,_,hτ⟩:=hn;have hx:=eX h h3;have hrl:rs.length=sh.length:=by have:=congrArg List.length hsh;simpa using this
 have hτr:∀j t,rs[j]?=some t->τ[ni+j]?=some t:=fun j t hj=>hτ j t (by rw[ek (cL.1 hj).1];exact hj);have hτ0:τ[ni+sh.length]?=some (.rows (ts.take n++us'++ts.drop (n+us.length))):=hτ sh.length _ (by rw[fi O,hrl,fE];rfl);have hsl':b ∉ sl1++sl2:=by simpa using hsl
 obtain⟨ts0,xs0,hcid0,⟨_,hown0⟩,hlen0,_⟩:=Um (h.bx b _ h9);rw[hcid]at hcid0;simp only[aZ,aQ.rows.injEq]at hcid0;subst hcid0
 have hval:∃g o0 cap capx,(ρ b).val=.slice (some ⟨g,o0,none⟩) ts.length cap/\a.eval x=.slice (some ⟨g,o0+n*sz,none⟩) us.length capx/\us.length<=capx/\capx<=maxLen/\n+us.length<=ts.length/\us=(ts.drop n).take us.length:=by
  cases cx with
  | r b'=>
    simp only[Q.run_pure,aZ,cX]at h7;obtain⟨rfl,rfl⟩:=h7;obtain⟨rfl,rfl⟩:=hview;rcases hown0 with⟨hz,_⟩ | ⟨g,off,cap,cur,hv,hg,hnc,hcm,_⟩
    .exact absurd (ep hz) hne
    .exact⟨g,off,cap,cap,hv,by rw[hx.2.1,hv,ns,cV],hnc,hcm,O,aT⟩
  | rs b' s0 lo hi=>
    simp only[Q.run_pure,aZ,cX]at h7;obtain⟨rfl,rfl⟩:=h7;have hs0:s0=sz:=by simpa[rsz]using hrsz
    subst hs0;obtain⟨k,k',m,e1,e2,hnm,hmt,rfl⟩:=hview;obtain⟨_,g,o0,len,cap,k2,k2',n2,m2,c2,hv,e3,e4,hnm2,hml,hc1,hc2,hxv⟩:=hx
    have key:∀{i:C0}{ka kb:IntKind}{p q:Nat},c0 τ i=.int ka p->c0 τ i=.int kb q->q=p:=by
     intro i ka kb p q hp hq
     have:(aC.int ka p).rep (fun _=>False) default (.int kb q):=by
      have hr:(c0 τ i).rep (fun _=>False) default (.int kb q):=by rw[hq];exact⟨rfl,rfl⟩
      rw[hp]at hr;exact hr
     have:=this.1;simp at this;omega
    have e5:=key e1 e3;have e6:=key e2 e4;subst e5 e6;have hul:((ts.take m2).drop n2).length=m2-n2:=b6
    have hlen:len=ts.length:=by
     rcases hown0 with⟨hz,c3,hv2⟩ | ⟨g3,off3,cap3,cur3,hv2,_⟩
     .rw[hv]at hv2;simp at hv2
     .rw[hv]at hv2;simp only[jB]at hv2;exact hv2.2.1
    subst hlen;refine⟨g,o0,cap,c2,hv,by rw[hul];exact hxv,by rw[hul];exact hc1,hc2,by rw[hul];omega,?_⟩;rw[hul,mg]
  | _=>cases h7
 obtain⟨g,o0,cap,capx,hv,hxv,hux,hcx,hle,hus⟩:=hval;obtain⟨ts1,cur,hcid1,hlen1,hg,hfitp,hsz,hcm,hnc,hlen,hrep⟩:=Qu (h.bx b _ h9) hv;rw[hcid]at hcid1;simp only[aZ,aQ.rows.injEq]at hcid1;subst hcid1;obtain⟨hS,hgM⟩:=aB0 h (E:=E) (sz:=sz) (ni:=ni+sh.length) (sl:=sl1++sl2) (tm:=put o (mu ni sh)) h9 hsb hsl' (g:=g) (by rw[hv];rfl);have hmul:(n+us.length)*sz<=ts.length*sz:=cY _ hle;rw[bt]at hmul
 have hup:an (Ms M0 ρ (s.app ⟨put o (mu ni sh),[(b,lJ pt E sz (ni+sh.length))],sl1++sl2⟩)) w us.flatten ((cur.toList.drop (o0+n*sz)).take (us.length*sz)):=by
  have:=ax9 hlen hus hle (hrep.mono (hS.dJ (w:=w)));rw[mg,gu,jh,de O]at this;exact this
 refine hrow.2.2 _ w a o c _ _ g (o0+n*sz) capx cur (pre.map a.eval) (post.map a.eval) rfl rfl ho (by rw[hargs,cG,fj,hxv]) (h.yi.sub hS.sub) hgM hg O hux hcx hup (je h h1 (hS.mono fun x hx=>gV _ hx)) (je h h5 (hS.mono fun x hx=>ke _ hx)) ?_;intro w' cur' vs hgr hg' hsize hout hrs hup'
 have hkeep:av (Ms M0 ρ s) w (Ms M0 ρ (s.app ⟨put o (mu ni sh),[(b,lJ pt E sz (ni+sh.length))],sl1++sl2⟩)) w':=by
  intro k ob hk hob _;refine⟨fun hm=>hk (hS.sub k hm),?_⟩;rw[hgr.block k (cJ.1 hob).1 (by rintro⟨rfl⟩;exact hk (hS.sub _ hgM))];exact hob
 refine⟨ρ,h.OW hd h9 hsb hsl' hv hg (fun j hj=>hout j O) hg' hgr hsize hfitp hcm hnc hτ0 ?_ ?_ (fun _=>FY hsh hτr hrs) fun _ _=>?_⟩
 .simp only[cF,bh,dF,hrow.1];omega
 .intro t ht;rcases dx.1 ht with ht | ht
  .rcases dx.1 ht with ht | ht
   .exact hlen t (mL ht)
   .exact hrow.2.1 t ht
  .exact hlen t (pF ht)
 .have:=vd hlen hus hle hrow.1 hrow.2.1 (hrep.mono hkeep) hup'
  have e1:((cur.toList.drop o0).take (ts.length*sz)).take (n*sz)++(cur'.toList.drop (o0+n*sz)).take (us.length*sz)++((cur.toList.drop o0).take (ts.length*sz)).drop (n*sz+us.length*sz)=(cur'.toList.drop o0).take (ts.length*sz):=by
   apply gU;intro j;have ho1:=hout (o0+j);rw[<-kU,<-kU]at ho1;have hcl:cur'.toList.length=cur.toList.length:=by rw[cK,cK,hsize]
   have hcl2:cur.toList.length=cur.size:=cK;simp only[pZ,eh,fG,cF,bh,dF];generalize n*sz=p at *;generalize us.length*sz=q at *;generalize ts.length*sz=r at *
   grind
  rw[e1]at this;exact this
def step_ok(h:Sat M0 w0 N s τ ρ a w)(hd:cw N o=true)(hq:(step P o nb ni).run s=some (e,nd))(hn:jv P τ o.op o.type nd ni):o.wp P a w (lG M0 w0 N s e τ) Qp:=by
 unfold step at hq;split at hq
 .rename_i x ho;exact ak5 h hd (.inl ho) hq
 .rename_i x ho;exact ak5 h hd (.inr ho) hq
 .rename_i T ho;exact aY3 h hd ho hq
 .rename_i T x ho;exact bH9 h hd ho hq
 .rename_i T x ho;exact bs3 h hd ho hq hn
 .rename_i T x y ho;exact aQ2 h hd ho hq hn
 .rename_i x ho;exact bV2 h hd ho hq hn
 .rename_i T parts ho;exact aL2 h hd ho hq
 .rename_i T len parts ho;exact bC8 h hd ho hq hn
 .rename_i T l c ho;exact br1 h hd ho hq hn
 .rename_i T x f ho;exact SZ h hd ho hq hn
 .rename_i T x f ho;exact aM1 h hd ho hq
 .rename_i x i ho;exact ZF h hd ho hq
 .rename_i f first caps ho;exact bv1 h hd ho hq
 .rename_i T x i ho;exact aO1 h hd ho hq hn
 .rename_i c ho;split at hq
  .rename_i f hc;split at hq
   .rename_i j hj;split at hq
    .rename_i x hx;obtain⟨_,_,hq⟩:=Q.bind_some hq;refine aO7 h hd ho ?_ hq hn;have hlt:=(cL.1 hx).1
     conv=>lhs;rw[<-oA j c.args.toList]
     rw[jW hlt,(cL.1 hx).2]
    .cases hq
   .exact ap8 h hd ho hc (caps:=[]) (cvs:=[]) rfl (show an _ _ [] []from trivial) hq hn
  .rename_i x _ hc;exact aG0 h hd ho hc hq hn
  .rename_i hc;exact bH0 h hd ho hc hq hn
  .rename_i hc;split at hq
   .rename_i x y hargs;exact aO7 h hd ho (pre:=[]) hargs hq hn
   .cases hq
  .rename_i hc;split at hq
   .rename_i x y hargs;exact av9 h hd ho hc hargs hq hn
   .cases hq
  .exact dD h hd hq hn
  .cases hq
 .rename_i T x lo hi mx ho;exact ok_slice h hd ho hq hn
 .exact dD h hd hq hn
 .exact dD h hd hq hn
 .exact dD h hd hq hn
 .exact dD h hd hq hn
 .exact dD h hd hq hn
 .cases hq
end
open Go.RowKit (Below)
def aU7:∀{a b:Value},aS7 a b=true->a=b:=by
 intro a b h;unfold aS7 at h
 split at h<;>first
  | (simp only[bR,eH]at h;obtain⟨rfl,rfl⟩:=h;rfl)
  | (simp only[eH]at h;subst h;rfl)
  | rfl
  | cases h
  | skip
 all_goals
  rename_i x y;cases x;cases y;simp only[eH]at h;subst h;rfl
theorem C0.kG:∀{a b:C0},a.same b=true->a=b
 | .u _ _,.u _ _,h=>by simp only[C0.same,bR,eH]at h;rw[h.1,h.2]
 | .k _,.k _,h=>by rw[aU7 h]
 | .sr _ _,.sr _ _,h=>by simp only[C0.same,bR,eH]at h;rw[h.1,h.2]
 | .u _ _,.k _,h=>by simp[C0.same]at h
 | .u _ _,.sr _ _,h=>by simp[C0.same]at h
 | .k _,.u _ _,h=>by simp[C0.same]at h
 | .k _,.sr _ _,h=>by simp[C0.same]at h
 | .sr _ _,.u _ _,h=>by simp[C0.same]at h
 | .sr _ _,.k _,h=>by simp[C0.same]at h
theorem se{α:Type}{f:α->α->Bool}(hf:∀a b,f a b=true->a=b):∀{xs ys:List α},lq f xs ys=true->xs=ys
 | [],[],_=>rfl
 | x::xs,y::ys,h=>by
   simp only[lq,bR]at h;rw[hf x y h.1,se hf h.2]
 | [],_::_,h=>by simp[lq]at h
 | _::_,[],h=>by simp[lq]at h
theorem CR.kG:∀{a b:CR},a.same b=true->a=b
 | .c _,.c _,h=>by rw[C0.kG h]
 | .ref _ _,.ref _ _,h=>by
   simp only[CR.same,bR,eH]at h;rw[h.1,se (fun _ _=>C0.kG) h.2]
 | .c _,.ref _ _,h=>by simp[CR.same]at h
 | .ref _ _,.c _,h=>by simp[CR.same]at h
section
variable{M0:eu}{w0 w w':World}{N:Nat}{s hs:St}{τ τ' m:Env}{ρ ρ':Nat->Gh}{a:Act}{ni:Nat}{au:List LV}{F:List (Nat×Option Nat)}
theorem az.Tp{α β γ:Type}{f:α->β->Bool}{R:β->γ->Prop}{S:α->γ->Prop}(hf:∀x y v,f x y=true->R y v->S x v):∀{xs ys vs},QO f xs ys=true->az R ys vs->az S xs vs
 | [],[],[],_,_=>trivial
 | x::xs,y::ys,v::vs,h,⟨a,b⟩=>by
   simp only[QO,bR]at h;exact⟨hf x y v h.1 a,az.Tp hf h.2 b⟩
 | [],_::_,_,h,_=>by simp[QO]at h
 | _::_,[],_,h,_=>by simp[QO]at h
 | [],[],_::_,_,k=>k.elim
 | _::_,_::_,[],_,k=>k.elim
def vT(F:List (Nat×Option Nat))(ρ:Nat->Gh)(b:Nat):Gh:=
 match mp F b with
 | some b'=>ρ b'
 | none=>⟨0,.slice none 0 0,#[]⟩
def fW{b b':Nat}(h:mp F b=some b'):vT F ρ b=ρ b':=by simp[vT,h]
def yV{b:Nat}(h:mp F b=none):vT F ρ b=⟨0,.slice none 0 0,#[]⟩:=by simp[vT,h]
def Cz{k:Nat}{l:LV}{T:Env}(hn:τ.length=ni)(hk:ni<=k)(hl:au[k-ni]?=some l):(τ++au.map (OC T))[k]?=some (OC T l):=by
 rw[fi O,hn,dR,hl];rfl
def XL(hn:τ.length=ni){M M':c6}(hk:av M w M' w){x y:SC}{v:Value}(hf:CG ni au F hs x y=true)(hv:eB (oB s) (τ++m) ρ M w y v) :
  eB (oB hs) (τ++au.map (OC (τ++m))) (vT F ρ) M' w x v:=by
 unfold CG at hf;split at hf
 .rename_i i j z;have hv:(c0 (τ++m) z).rep M w v:=hv;show(c0 _ (.u i j)).rep M' w v;split at hf
  .rename_i hlt;have:=C0.kG hf;subst this;have hok:(C0.u i j).ok ni=true:=by simpa[C0.ok]using hlt
   rw[pO hn hok]at hv|-;exact aC.mono _ hk hv
  .rename_i hlt;split at hf
   .rename_i x' hx';have hg:=Cz (T:=τ++m) hn (wY hlt) hx'
    have hc:∀j,c0 (τ++au.map (OC (τ++m))) (.u i j)=(OC (τ++m) (.w x')).cell j:=fun j=>by
     simp only[c0,fI,hg,gH]
    rw[hc];split at hf
    .simp only[bR,eH]at hf;obtain⟨rfl,hf⟩:=hf;rw[C0.kG hf];exact aC.mono _ hk hv
    .rename_i cs;split at hf
     .rename_i z' hz'
      have:(OC (τ++m) (.w (.agg cs))).cell j=c0 (τ++m) z':=by
       simp only[OC,pw,aQ.cell,aQ.cells,fI,dR,hz',cZ,gH,cty]
      rw[this,C0.kG hf];exact aC.mono _ hk hv
     .cases hf
    .cases hf
   .cases hf
 .rename_i b b';simp only[bR]at hf;obtain⟨he,hf⟩:=hf;split at hf
  .rename_i b'' hb;simp only[eH]at hf;subst hf;exact⟨he,by rw[fW hb];exact hv.2.1,hv.2.2⟩
  .cases hf
 .rename_i b z;simp only[bR,BI]at hf;obtain⟨⟨he,hz⟩,hb⟩:=hf;rw[vV hz]at hv;have hv:v=.slice none 0 0/\_:=hv;exact⟨he,by rw[yV hb];exact hv.1,by rw[hv.1];rfl⟩
 .rename_i b off b' off';simp only[bR,eH]at hf;obtain⟨⟨he,hf⟩,rfl⟩:=hf;split at hf
  .rename_i b'' hb;simp only[eH]at hf;subst hf;exact⟨he,by rw[fW hb];exact hv.2⟩
  .cases hf
 .rename_i b sz i off b' sz' i' off';simp only[bR,eH]at hf;obtain⟨⟨⟨⟨⟨he,hf⟩,rfl⟩,rfl⟩,hi⟩,hok⟩:=hf;have:=C0.kG hi;subst this;split at hf
  .rename_i b'' hb;simp only[eH]at hf;subst hf;obtain⟨_,g,o0,len,cap,k,n,e1,e2,e3⟩:=hv;refine⟨he,g,o0,len,cap,k,n,by rw[fW hb];exact e1,?_,e3⟩;rw[pO hn hok]at e2|-;exact e2
  .cases hf
 .rename_i b sz l h b' sz' l' h';simp only[bR,eH]at hf;obtain⟨⟨⟨⟨⟨⟨he,hf⟩,rfl⟩,hl⟩,hlo⟩,hh⟩,hho⟩:=hf;have:=C0.kG hl;subst this;have:=C0.kG hh;subst this;split at hf
  .rename_i b'' hb;simp only[eH]at hf;subst hf;obtain⟨_,g,o0,len,cap,k,k',n,m',c,e1,e2,e3,e4⟩:=hv;refine⟨he,g,o0,len,cap,k,k',n,m',c,by rw[fW hb];exact e1,?_,?_,e4⟩
   .rw[pO hn hlo]at e2|-;exact e2
   .rw[pO hn hho]at e3|-;exact e3
  .cases hf
 .simp only[bR]at hf;obtain⟨⟨hpl,hsame⟩,hok⟩:=hf;cases x with
  | c x=>cases y with
    | c y=>
      have:=C0.kG (a:=x) (b:=y) hsame;subst this;show(c0 _ x).rep M' w v;have hv:(c0 (τ++m) x).rep M w v:=hv;rw[pO hn hok]at hv|-;exact aC.mono _ hk hv
    | _=>simp[SC.same]at hsame
  | ref i x=>cases y with
    | ref j y=>
      simp only[SC.same,bR,eH]at hsame;obtain⟨rfl,hs⟩:=hsame;have:=se (fun _ _=>C0.kG) hs;subst this;show(cty _ (.ref i x)).rep M' w v;have hv:(cty (τ++m) (.ref i x)).rep M w v:=hv;rw[aq3 hn hok]at hv|-;exact aC.mono _ hk hv
    | _=>simp[SC.same]at hsame
  | gv f x=>cases y with
    | gv g y=>
      simp only[SC.same,bR,eH]at hsame;obtain⟨rfl,hs⟩:=hsame;have:=se (fun _ _=>CR.kG) hs;subst this;show(cty _ (.gv f x)).rep M' w v;have hv:(cty (τ++m) (.gv f x)).rep M w v:=hv;rw[aq3 hn hok]at hv|-;exact aC.mono _ hk hv
    | _=>simp[SC.same]at hsame
  | p _ _=>simp at hpl
  | r _=>simp at hpl
  | rp _ _ _ _=>simp at hpl
  | rs _ _ _ _=>simp at hpl
def Oj(hn:τ.length=ni){M M':c6}(hk:av M w M' w){xs ys:List SC}{vs:j0}(hf:QO (CG ni au F hs) xs ys=true)(hv:az (eB (oB s) (τ++m) ρ M w) ys vs) :
  az (eB (oB hs) (τ++au.map (OC (τ++m))) (vT F ρ) M' w) xs vs:=
 az.Tp (f:=CG ni au F hs) (R:=eB (oB s) (τ++m) ρ M w) (S:=eB (oB hs) (τ++au.map (OC (τ++m))) (vT F ρ) M' w) (fun x y v h1 h2=>XL hn hk h1 h2) hf hv
def UY(hn:τ.length=ni){M M':c6}(hk:av M w M' w){x y:SW}{v:Value}(hf:Ox ni au F hs x y=true)(hv:gg (oB s) (τ++m) ρ M w y v) :
  gg (oB hs) (τ++au.map (OC (τ++m))) (vT F ρ) M' w x v:=by
 cases x with
 | one x=>cases y with
   | one y=>exact XL hn hk hf hv
   | agg _=>simp[Ox]at hf
 | agg xs=>cases y with
   | one y=>simp[Ox]at hf
   | agg ys=>
     obtain⟨vs,e,h⟩:=hv;exact⟨vs,e,Oj hn hk hf h⟩
def aW7(hn:τ.length=ni){M M':c6}(hk:av M w M' w){x y:SV}{v:Value}(hf:aZ7 ni au F hs x y=true)(hv:iu (oB s) (τ++m) ρ M w y v) :
  iu (oB hs) (τ++au.map (OC (τ++m))) (vT F ρ) M' w x v:=by
 unfold aZ7 at hf;split at hf
 .trivial
 .exact hv
 .exact UY hn hk hf hv
 .obtain⟨vs,e,h⟩:=hv;exact⟨vs,e,az.Tp (f:=Ox ni au F hs) (R:=gg (oB s) (τ++m) ρ M w) (S:=gg (oB hs) (τ++au.map (OC (τ++m))) (vT F ρ) M' w) (fun x y v h1 h2=>UY hn hk h1 h2) hf h⟩
 .cases hf
def uL{b:Nat}{x:Bx}{k:Nat}(hf:zw ni au F hs s b=true)(hb:hs.b b=some x)(ho:own (vT F ρ) b x=some k) :
  ∃b' y,mp F b=some b'/\s.b b'=some y/\own ρ b' y=some k/\(hs.s b=false->s.s b'=false):=by
 unfold zw at hf;rw[hb]at hf;cases x with
 | dead=>cases ho
 | var T cs=>
   simp only at hf;split at hf
   .rename_i b' hm;simp only[bR,na,uG]at hf;obtain⟨tI,hf⟩:=hf;split at hf
    .rename_i T' cs' hb';refine⟨b',_,hm,hb',?_,fun h=>?_⟩
     .simp only[own,fW hm]at ho;exact ho
     .rcases tI with tI | tI
      .rw[h]at tI;cases tI
      .exact tI
    .cases hf
   .cases hf
 | row E sz cid=>
   simp only at hf;split at hf
   .rename_i b' hm;simp only[bR,na,uG]at hf;obtain⟨tI,hf⟩:=hf;split at hf
    .rename_i E' sz' cid' hb';refine⟨b',_,hm,hb',?_,fun h=>?_⟩
     .simp only[own,fW hm]at ho;exact ho
     .rcases tI with tI | tI
      .rw[h]at tI;cases tI
      .exact tI
    .cases hf
   .rename_i hm;simp[own,yV hm,Value.ownBlock]at ho
 | part E sz cid=>
   simp only at hf;split at hf
   .rename_i b' hm;simp only[bR,na,uG]at hf;obtain⟨tI,hf⟩:=hf;split at hf
    .rename_i E' sz' cid' hb';refine⟨b',_,hm,hb',?_,fun h=>?_⟩
     .simp only[own,fW hm]at ho;exact ho
     .rcases tI with tI | tI
      .rw[h]at tI;cases tI
      .exact tI
    .cases hf
   .cases hf
def aK0(hn:τ.length=ni){base:Nat}{M M':c6}(hk:av M w M' w){b:Nat}{x:Bx}(hf:zw ni au F hs s b=true)(hb:hs.b b=some x)
  (hv:∀b y,s.b b=some y->ow base (oB s) (τ++m) ρ M w b y):ow base (oB hs) (τ++au.map (OC (τ++m))) (vT F ρ) M' w b x:=by
 unfold zw at hf;rw[hb]at hf;cases x with
 | dead=>trivial
 | var T cs=>
   simp only at hf;split at hf
   .rename_i b' hm;simp only[bR]at hf;obtain⟨_,hf⟩:=hf;split at hf
    .rename_i T' cs' hb';simp only[bR,eH]at hf;obtain⟨rfl,hf⟩:=hf;obtain⟨vs,hh,hall⟩:=hv b' _ hb';exact⟨vs,by rw[fW hm];exact hh,Oj hn hk hf hall⟩
    .cases hf
   .cases hf
 | row E sz cid=>
   simp only at hf;split at hf
   .rename_i b' hm;simp only[bR]at hf;obtain⟨_,hf⟩:=hf;split at hf
    .rename_i E' sz' cid' hb';simp only[bR,eH]at hf;obtain⟨⟨rfl,rfl⟩,hf⟩:=hf;obtain⟨ts,xs,e,hown,hl,hr⟩:=hv b' _ hb';refine⟨ts,xs,?_,by rw[fW hm];exact hown,hl,hr.mono hk⟩;split at hf
     .rename_i hlt;simp only[eH]at hf;subst hf;rw[ek O]at e|-;exact e
     .rename_i hlt;split at hf
      .rename_i c hc;simp only[eH]at hf;subst hf;rw[Cz hn (wY hlt) hc];simp only[OC,fI,e,gH]
      .cases hf
    .cases hf
   .rename_i hm;split at hf
    .rename_i hc;simp only[jr]at hf;refine⟨[],[],Cz hn hf hc,?_,aT,trivial⟩;rw[yV hm];exact pY w _ E sz
    .cases hf
 | part E sz cid=>
   simp only at hf;split at hf
   .rename_i b' hm;simp only[bR]at hf;obtain⟨_,hf⟩:=hf;split at hf
    .rename_i E' sz' cid' hb';simp only[bR,eH]at hf;obtain⟨⟨rfl,rfl⟩,hf⟩:=hf;obtain⟨ts,xs,e,hown,hl,hr,h1⟩:=hv b' _ hb';refine⟨ts,xs,?_,by rw[fW hm];exact hown,hl,hr.mono hk,by rw[fW hm];exact h1.1,by rw[fW hm];exact h1.2⟩;split at hf
     .rename_i hlt;simp only[eH]at hf;subst hf;rw[ek O]at e|-;exact e
     .rename_i hlt;split at hf
      .rename_i c hc;simp only[eH]at hf;subst hf;rw[Cz hn (wY hlt) hc];simp only[OC,fI,e,gH]
      .cases hf
    .cases hf
   .cases hf
def aX8{b E sz cid:Nat}(hf:zw ni au F hs s b=true)(hb:hs.b b=some (.part E sz cid)):∃b' E' sz' cid',mp F b=some b'/\s.b b'=some (.part E' sz' cid'):=by
 unfold zw at hf;rw[hb]at hf;simp only at hf;split at hf
 .rename_i b' hm;simp only[bR]at hf;obtain⟨_,hf⟩:=hf;split at hf
  .rename_i E' sz' cid' hb';exact⟨b',E',sz',cid',hm,hb'⟩
  .cases hf
 .cases hf
theorem oi{α:Type}:∀{l:List (Nat×α)}{n:Nat}{x:α},look l n=some x->∃p∈l,p.1=n
 | [],_,_,h=>by cases h
 | (m,y)::l,n,x,h=>by
   simp only[look]at h;split at h
   .rename_i e;exact⟨_,cE,e⟩
   .obtain⟨p,hp,e⟩:=oi h;exact⟨p,cg _ hp,e⟩
def at2(h:Sat M0 w0 N s (τ++m) ρ a w)(hn:τ.length=ni)(hf:fits ni au F hs s=true):∃ρ',Sat M0 w0 N hs (τ++au.map (OC (τ++m))) ρ' a w:=by
 unfold fits at hf;simp only[bR,fS]at hf;obtain⟨⟨hft,hfb⟩,hfi⟩:=hf
 have hbf:∀b x,hs.b b=some x->zw ni au F hs s b=true:=fun b x hb=>by
  obtain⟨p,hp,rfl⟩:=oi hb;exact hfb p hp
 have hinj:∀b1 b2 x1 x2 b',hs.b b1=some x1->hs.b b2=some x2->x1≠.dead->x2≠.dead->mp F b1=some b'->mp F b2=some b'->b1=b2:=by
  intro b1 b2 x1 x2 b' h1 h2 hd1 hd2 hm1 hm2;obtain⟨p,hp,rfl⟩:=oi h1;obtain⟨q,hq,rfl⟩:=oi h2;have:=hfi p hp q hq;simp only[na,eH]at this;rcases this with this | this
  .exact this
  .rw[h1,h2,hm1,hm2]at this;cases x1<;>cases x2<;>simp at this hd1 hd2
 have hMs:∀k,Ms M0 (vT F ρ) hs k->Ms M0 ρ s k:=by
  rintro k (hk | ⟨b,x,h1,h2,h3⟩)
  .exact .inl hk
  .obtain⟨b',y,_,h4,h5,h6⟩:=uL (hbf b x h1) h1 h3;exact .inr ⟨b',y,h4,h6 h2,h5⟩
 have hk:av (Ms M0 ρ s) w (Ms M0 (vT F ρ) hs) w:=fun k o hk ho _=>⟨fun hm=>hk (hMs k hm),ho⟩
 refine⟨vT F ρ,h.below,h.sz,h.df,fun t=>?_,fun b x hb=>aK0 hn hk (hbf b x hb) hb h.bx,?_,?_,h.old,fun b E sz cid hb=>by
  obtain⟨b',E',sz',cid',hm,hb'⟩:=aX8 (hbf b _ hb) hb;rw[fW hm];exact h.pt b' E' sz' cid' hb'⟩
 .cases hl:look hs.tm t with
  | none=>
    have:hs.t t=.junk:=by simp[St.t,hl]
    rw[this];trivial
  | some x=>
    obtain⟨p,hp,rfl⟩:=oi hl;exact aW7 hn hk (hft p hp) (h.tm _)
 .intro b1 b2 x1 x2 k h1 h2 ho1 ho2;obtain⟨b1',y1,m1,s1,o1,_⟩:=uL (hbf b1 x1 h1) h1 ho1;obtain⟨b2',y2,m2,s2,o2,_⟩:=uL (hbf b2 x2 h2) h2 ho2;have:=h.inj b1' b2' y1 y2 k s1 s2 o1 o2;subst this;refine hinj b1 b2 x1 x2 b1' h1 h2 ?_ ?_ m1 m2
  .rintro rfl;cases ho1
  .rintro rfl;cases ho2
 .intro b x k hb ho;obtain⟨b',y,_,s1,o1,_⟩:=uL (hbf b x hb) hb ho;exact h.lo b' y k s1 o1
def Sat.congr(h:Sat M0 w0 N s τ ρ a w)(ht:∀n,hs.t n=s.t n)(hb:∀n,hs.b n=s.b n)(hs':∀n,hs.s n=s.s n):Sat M0 w0 N hs τ ρ a w:=by
 have hM:Ms M0 ρ hs=Ms M0 ρ s:=by funext k;simp only[Ms,hb,hs']
 have he:(fun b=>(hs.b b).isSome=true)=(fun b=>(s.b b).isSome=true):=by funext b;rw[hb]
 refine⟨h.below,h.sz,h.df,fun t=>?_,fun b x hx=>?_,?_,?_,h.old,fun b E sz cid hx=>h.pt b E sz cid (by rw[<-hb];exact hx)⟩
 .rw[hM,he,ht];exact h.tm t
 .rw[hM,he];rw[hb]at hx;exact h.bx b x hx
 .intro b b' x x' k h1 h2;rw[hb]at h1 h2;exact h.inj b b' x x' k h1 h2
 .intro b x k h1;rw[hb]at h1;exact h.lo b x k h1
def Sat.drew(h:Sat M0 w0 N s τ ρ a w)(n:Nat):Sat M0 w0 N s τ ρ a { w with drawn:=n }:=by
 have hk:av (Ms M0 ρ s) w (Ms M0 ρ s) { w with drawn:=n }:=fun k o hk ho _=>⟨hk,ho⟩
 refine⟨⟨h.below.os,h.below.tape,h.below.output,h.below.size,h.below.block,h.below.good⟩,h.sz,h.df,fun t=>(h.tm t).mono (fun b hb=>⟨hb,rfl⟩) hk,fun b x hx=>(h.bx b x hx).mono (fun b hb=>⟨hb,rfl⟩) hk (fun _=>rfl) (fun _ _=>rfl),h.inj,h.lo,h.old,h.pt⟩
end
open Go.RowKit (Below)
def St.apps(s:St):List il->St
 | []=>s
 | e::es=>(s.app e).apps es
def te(L:c9)(i:Nat):List il->List il
 | []=>[]
 | e::es=>if L i then e::te L (i+1) es else te L (i+1) es
def HP{α:Type}(f:il->Option α):List il->Option α
 | []=>none
 | e::es=>match HP f es with
   | some v=>some v
   | none=>f e
theorem FK(n:Nat):∀(es:List il)(s:St),(s.apps es).t n=(HP (fun e=>look e.tm n) es).getD (s.t n)
 | [],s=>rfl
 | e::es,s=>by
   simp only[St.apps,HP,FK n es (s.app e),St.aN6];cases HP (fun e=>look e.tm n) es with
   | some v=>rfl
   | none=>cases look e.tm n<;>rfl
theorem Gu(n:Nat):∀(es:List il)(s:St),(s.apps es).b n=match HP (fun e=>look e.bx n) es with | some x=>some x | none=>s.b n
 | [],s=>rfl
 | e::es,s=>by
   simp only[St.apps,HP,Gu n es (s.app e),St.iL];cases HP (fun e=>look e.bx n) es with
   | some v=>rfl
   | none=>cases look e.bx n<;>rfl
theorem Hm(n:Nat):∀(es:List il)(s:St),(s.apps es).s n=(HP (fun e=>if e.sl.contains n then some true else none) es).getD (s.s n)
 | [],s=>rfl
 | e::es,s=>by
   simp only[St.apps,HP,Hm n es (s.app e),St.so];cases HP (fun e=>if e.sl.contains n then some true else none) es with
   | some v=>rfl
   | none=>cases e.sl.contains n<;>simp
section
variable{α:Type}{f:il->Option α}
theorem VG{L:c9}:∀{es:List il}{i:Nat},(∀j e,es[j]?=some e->f e≠none->L (i+j)=false)->HP f (te L i es)=none
 | [],i,_=>rfl
 | e::es,i,h=>by
   have ih:=VG (L:=L) (es:=es) (i:=i+1) fun j e' he hf=>by
    have:=h (j+1) e' (by simpa using he) hf;rw[<-this];congr 1;omega
   simp only[te];split
   .rename_i hL;simp only[HP,ih];cases hf:f e with
    | none=>rfl
    | some v=>
      have:=h 0 e rfl (by simp[hf]);rw[cV,hL]at this;cases this
   .exact ih
theorem rN{L L':c9}:∀{es:List il}{i:Nat},(∀j e,es[j]?=some e->f e≠none->L (i+j)=L' (i+j))->HP f (te L i es)=HP f (te L' i es)
 | [],i,_=>rfl
 | e::es,i,h=>by
   have ih:=rN (L:=L) (L':=L') (es:=es) (i:=i+1) fun j e' he hf=>by
    have:=h (j+1) e' (by simpa using he) hf;have e1:i+1+j=i+(j+1):=O
    rw[e1];exact this
   simp only[te];cases hf:f e with
   | none=>cases hL:L i<;>cases hL':L' i<;>simp[HP,ih,hf]<;>cases HP f (te L' (i+1) es)<;>rfl
   | some v=>
     have:=h 0 e rfl (by simp[hf]);rw[cV]at this;rw[this];cases L' i<;>simp[HP,ih]
theorem xi{L:c9}:∀{es:List il}{i k:Nat}{e:il}{v:α},es[k]?=some e->f e=some v->L (i+k)=true->(∀j e,k<j->es[j]?=some e->f e≠none->L (i+j)=false)->HP f (te L i es)=some v
 | [],i,k,e,v,he,_,_,_=>by simp at he
 | e0::es,i,0,e,v,he,hf,hL,h=>by
   simp only[nJ,aZ]at he;subst he
   have hn:=VG (L:=L) (es:=es) (i:=i+1) fun j e' he hf=>by
    have:=h (j+1) e' O (by simpa using he) hf;rw[<-this];congr 1;omega
   rw[cV]at hL;simp only[te,hL,bg,HP,hn,hf]
 | e0::es,i,k+1,e,v,he,hf,hL,h=>by
   have ih:=xi (L:=L) (es:=es) (i:=i+1) (k:=k) (e:=e) (v:=v) (by simpa using he) hf (by rw[<-hL];congr 1;omega) fun j e' hj he hf=>by
    have:=h (j+1) e' O (by simpa using he) hf;rw[<-this];congr 1;omega
   simp only[te];split
   .simp only[HP,ih]
   .exact ih
end
theorem aF5:∀(es:List il)(i k:Nat),te (fun j=>decide (j<i+k)) i es=es.take k
 | [],i,k=>by simp[te]
 | e::es,i,0=>by
   have:te (fun j=>decide (j<i+0)) (i+1) es=[]:=by
    have key:∀(es:List il)(d:Nat),te (fun j=>decide (j<i+0)) (i+d) es=[]:=by
     intro es
     induction es with
     | nil=>intro d;rfl
     | cons e es ih=>intro d;simp only[te];rw[aG aT];exact ih (d+1)
    exact key es 1
   simp only[te,cV,Nat.lt_irrefl,nm,eN,ck,jI]
   simpa using this
 | e::es,i,k+1=>by
   have e1:(fun j=>decide (j<i+(k+1)))=(fun j=>decide (j<i+1+k)):=by funext j;congr 1;apply propext;omega
   have:decide (i<i+(k+1))=true:=aT
   simp only[te,this,bg,mS];rw[e1,aF5 es (i+1) k]
theorem aq7:∀(es:List il)(i:Nat)(L:c9),(∀j,j<es.length->L (i+j)=true)->te L i es=es
 | [],i,L,_=>rfl
 | e::es,i,L,h=>by
   have h0:=h 0 aT;rw[cV]at h0;simp only[te,h0,bg]
   rw[aq7 es (i+1) L fun j hj=>by
    have:=h (j+1) (by simpa using hj);rw[<-this];congr 1;omega]
theorem VA:∀(es:List il)(i:Nat)(L:c9),(∀j,L j=false)->te L i es=[]
 | [],i,L,_=>rfl
 | e::es,i,L,h=>by simp only[te,h i,eN,ck];exact VA es (i+1) L h
def Loc.written(e:il):Loc->Bool
 | .t n=>(look e.tm n).isSome
 | .b n=>(look e.bx n).isSome
 | .s n=>e.sl.contains n
def vf{e:il}{x:Loc}(h:x.written e=true):x∈e.wr:=by
 unfold il.wr;cases x with
 | t n=>
   simp only[Loc.written,Sl]at h;obtain⟨v,hv⟩:=h;obtain⟨p,hp,rfl⟩:=oi hv;exact gV _ (gV _ (dm.2 ⟨p,hp,rfl⟩))
 | b n=>
   simp only[Loc.written,Sl]at h;obtain⟨v,hv⟩:=h;obtain⟨p,hp,rfl⟩:=oi hv;exact gV _ (ke _ (dm.2 ⟨p,hp,rfl⟩))
 | s n=>
   simp only[Loc.written]at h;exact ke _ (dm.2 ⟨n,by simpa using h,rfl⟩)
def aw6{s:St}{L L':c9}{es:List il}{x:Loc}(h:∀j e,es[j]?=some e->x.written e=true->L j=L' j):(s.apps (te L 0 es)).agree (s.apps (te L' 0 es)) x:=by
 cases x with
 | t n=>
   show(s.apps (te L' 0 es)).t n=(s.apps (te L 0 es)).t n
   rw[FK,FK,rN (f:=fun e=>look e.tm n) (L:=L') (L':=L) fun j e he hf=>by
    rw[bW];exact(h j e he (by cases hl:look e.tm n<;>simp_all[Loc.written])).symm]
 | b n=>
   show(s.apps (te L' 0 es)).b n=(s.apps (te L 0 es)).b n
   rw[Gu,Gu,rN (f:=fun e=>look e.bx n) (L:=L') (L':=L) fun j e he hf=>by
    rw[bW];exact(h j e he (by cases hl:look e.bx n<;>simp_all[Loc.written])).symm]
 | s n=>
   show(s.apps (te L' 0 es)).s n=(s.apps (te L 0 es)).s n
   rw[Hm,Hm,rN (f:=fun e=>if e.sl.contains n then some true else none) (L:=L') (L':=L) fun j e he hf=>by
    rw[bW];exact(h j e he (by
     simp only[Loc.written];cases hc:e.sl.contains n with
     | true=>rfl
     | false=>simp only[hc]at hf;exact absurd rfl hf)).symm]
def Sat.more{M0:eu}{w0 w:World}{N:Nat}{s:St}{τ:Env}{ρ:Nat->Gh}{a:Act}{L L':c9}{es:List il}{i:Nat}{e:il}(h:Sat M0 w0 N ((s.apps (te L 0 es)).app e) τ ρ a w)(he:es[i]?=some e)(hL:L i=false)(hL':∀j,L' j=(L j || j==i))
  (hno:∀(x:Loc)j e',i<j->es[j]?=some e'->x.written e=true->x.written e'=true->L j=false):Sat M0 w0 N (s.apps (te L' 0 es)) τ ρ a w:=by
 have hi:L' i=true:=by rw[hL'];simp
 have hne:∀j,j≠i->L' j=L j:=fun j hj=>by rw[hL'];simp[hj]
 have same:∀{α:Type}(f:il->Option α),f e=none->HP f (te L' 0 es)=HP f (te L 0 es):=fun f hf=>rN fun j e' he' hf'=>by
  rw[bW];refine hne j ?_;rintro rfl;rw[he]at he';simp only[aZ]at he';subst he';exact hf' hf
 refine h.congr (fun n=>?_) (fun n=>?_) (fun n=>?_)
 .rw[FK,St.aN6,FK];cases hl:look e.tm n with
  | none=>rw[same (fun e=>look e.tm n) hl]
  | some v=>
    rw[xi (f:=fun e=>look e.tm n) (k:=i) he hl (by rw[bW];exact hi) fun j e' hj he' hf=>by
     rw[bW,hne j O];exact hno (.t n) j e' hj he' (by simp[Loc.written,hl]) (by cases hl':look e'.tm n<;>simp_all[Loc.written])]
    rfl
 .rw[Gu,St.iL,Gu];cases hl:look e.bx n with
  | none=>rw[same (fun e=>look e.bx n) hl]
  | some v=>
    rw[xi (f:=fun e=>look e.bx n) (k:=i) he hl (by rw[bW];exact hi) fun j e' hj he' hf=>by
     rw[bW,hne j O];exact hno (.b n) j e' hj he' (by simp[Loc.written,hl]) (by cases hl':look e'.bx n<;>simp_all[Loc.written])]
 .rw[Hm,St.so,Hm];cases hc:e.sl.contains n with
  | false=>
    rw[same (fun e=>if e.sl.contains n then some true else none) (by simp only[hc,eN,ck])];simp
  | true=>
    rw[xi (f:=fun e=>if e.sl.contains n then some true else none) (k:=i) he (v:=true) (by simp only[hc,bg]) (by rw[bW];exact hi) fun j e' hj he' hf=>by
     rw[bW,hne j O];refine hno (.s n) j e' hj he' (by simpa[Loc.written]using hc) ?_;cases hc':e'.sl.contains n with
     | true=>simpa[Loc.written]using hc'
     | false=>simp only[hc']at hf;exact absurd rfl hf]
    simp
inductive Bef (l:List Rec):Rec->Nat->Prop where
 | now {y:Rec} {i:Nat}:i∈y.after->Bef l y i
 | via {y:Rec} {i k:Nat} {x:Rec}:k∈y.after->l[k]?=some x->Bef l x i->Bef l y i
theorem Gb{l:List Rec}{i:Nat}:∀{n:Nat}{y:Rec},bef l n y i=true->Bef l y i
 | 0,y,h=>.now (by simpa[bef]using h)
 | n+1,y,h=>by
   rw[bef,na]at h;rcases h with h | h
   .exact .now (by simpa using h)
   .obtain⟨k,hk,hx⟩:=List.any_eq_true.1 h;cases hl:l[k]? with
    | none=>rw[hl]at hx;cases hx
    | some x=>rw[hl]at hx;exact .via hk hl (Gb hx)
def wx{l:List Rec}(h:ordered l.reverse=true):(∀(i:Nat)x,l[i]?=some x->∀j∈x.after,j<i) /\
  ∀(i j:Nat)x y,l[i]?=some x->l[j]?=some y->i≠j->∀a,a∈x.wr->(a∈y.tch\/a∈y.wr)->(i<j->Bef l y i)/\(j<i->Bef l x j):=by
 unfold ordered at h;simp only[qG,fS]at h
 have mem:∀(i:Nat)x,l[i]?=some x->(x,i)∈l.zipIdx:=fun i x hx=>by
  rw[Cu];exact⟨i,by simp[au0,hx]⟩
 constructor
 .intro i x hx j hj;have:=h (x,i) (mem i x hx);simp only[bR,fS,jr]at this;exact this.1 j hj
 .intro i j x y hx hy hij a ha hb;have:=h (x,i) (mem i x hx);simp only[bR,fS]at this;have:=this.2 (y,j) (mem j y hy);simp only[na,eH,hij,uG,false_or]at this;rcases this with this | this
  .exfalso
   rw[List.any_eq_false]at this;have:=this a ha;rcases hb with hb | hb<;>simp[hb]at this
  .split at this
   .rename_i hlt;exact⟨fun _=>Gb this,fun h'=>O⟩
   .rename_i hlt;exact⟨fun h'=>O,fun _=>Gb this⟩
open Go.RowKit (Below)
structure EX where
 e:il
 r:Rec
section
variable(P:j5)(N:Nat)(ops:j7)(Qp:iN)(M0:eu)(w0:World)(τ:Env)
def Gi(i:Nat)(s:St)(e:il)(tch:List Loc):Prop:=
 ∀s' ρ a w,(∀x∈tch,s.agree s' x)->Sat M0 w0 N s' τ ρ a w->wpOp P ops Qp i (lG M0 w0 N s' e τ) a w
def an9(i:Nat)(s:St)(tch:List Loc):Prop:=
 ∀s' ρ a w K,(∀x∈tch,s.agree s' x)->Sat M0 w0 N s' τ ρ a w->wpOp P ops Qp i K a w
def jw(z:Option Nat):Nat->St->List EX->List Oper->Prop
 | _,_,[],[]=>True
 | i,s,f::fs,o::os=>ops[i]?=some o/\f.r.after=bQ o/\f.r.wr=f.e.wr /\
   (z=some i->an9 P N ops Qp M0 w0 τ i s f.r.tch) /\
   (z≠some i->Gi P N ops Qp M0 w0 τ i s f.e f.r.tch\/∃p,z=some p/\p∈f.r.after)/\jw z (i+1) (s.app f.e) fs os
 | _,_,_,_=>False
end
section
variable{P:j5}{N:Nat}{ops:j7}{Qp:iN}{M0:eu}{w0:World}{τ:Env}{z:Option Nat}{s:St}{fs:List EX}
theorem jw.length:∀{i:Nat}{s:St}{fs:List EX}{os:j8},jw P N ops Qp M0 w0 τ z i s fs os->fs.length=os.length
 | _,_,[],[],_=>rfl
 | _,_,_::_,_::_,h=>by simp[h.2.2.2.2.2.length]
 | _,_,[],_::_,h=>h.elim
 | _,_,_::_,[],h=>h.elim
def jw.get:∀{i:Nat}{s:St}{fs:List EX}{os:j8},jw P N ops Qp M0 w0 τ z i s fs os->∀(k:Nat)(f:EX),fs[k]?=some f ->
  ∃o,ops[i+k]?=some o/\f.r.after=bQ o/\f.r.wr=f.e.wr/\(z=some (i+k)->an9 P N ops Qp M0 w0 τ (i+k) (s.apps ((fs.map (·.e)).take k)) f.r.tch) /\
   (z≠some (i+k)->Gi P N ops Qp M0 w0 τ (i+k) (s.apps ((fs.map (·.e)).take k)) f.e f.r.tch\/∃p,z=some p/\p∈f.r.after)
 | i,s,f0::fs,o::os,h,0,f,hf=>by
   simp only[nJ,aZ]at hf;subst hf;exact⟨o,h.1,h.2.1,h.2.2.1,h.2.2.2.1,h.2.2.2.2.1⟩
 | i,s,f0::fs,o::os,h,k+1,f,hf=>by
   have:=h.2.2.2.2.2.get k f (by simpa using hf);have e1:i+1+k=i+(k+1):=O
   rw[e1]at this;exact this
 | _,_,[],_,_,k,f,hf=>by simp at hf
 | _,_,_::_,[],h,_,_,_=>h.elim
def qB{o:Oper}{j:Nat}:j∈bQ o↔∃e∈o.after,Region.binds .any e=true/\e.on=j:=by
 simp only[bQ,dm,wJ,Array.mem_toList_iff]
 constructor
 .rintro⟨e,⟨h1,h2⟩,h3⟩;exact⟨e,h1,h2,h3⟩
 .rintro⟨e,h1,h2,h3⟩;exact⟨e,⟨h1,h2⟩,h3⟩
abbrev done(s:St)(fs:List EX)(L:c9):St:=s.apps (te L 0 (fs.map (·.e)))
def af0(hF:jw P N ops Qp M0 w0 τ z 0 s fs ops.toList)(hord:ordered (fs.map (·.r)).reverse=true)
  (hend:(∃j,z=some j/\j<ops.size)\/(z=none/\∀ρ a w,Sat M0 w0 N (s.apps (fs.map (·.e))) τ ρ a w->Qp .normal a w)) :
  ∀(fuel:Nat)(listed:Array Bool)ρ a w,listed.size=ops.size ->
   (∀(j:Nat)f,fs[j]?=some f->listed.getD j false=true->∀x∈f.r.after,listed.getD x false=true) ->
   (∀j,z=some j->listed.getD j false=false) ->
   ((List.range ops.size).filter fun j=>!listed.getD j true).length<=fuel ->
   Sat M0 w0 N (done s fs fun j=>listed.getD j false) τ ρ a w->wpAny P .any ops Qp fuel listed a w:=by
 have hlen:fs.length=ops.size:=by rw[hF.length];simp
 have hget:=hF.get;obtain⟨ho1,ho2⟩:=wx hord;have hrec:∀(j:Nat)f,fs[j]?=some f->(fs.map (·.r))[j]?=some f.r:=fun j f hf=>by rw[dR,hf];rfl
 have heff:∀(j:Nat)f,fs[j]?=some f->(fs.map (·.e))[j]?=some f.e:=fun j f hf=>by rw[dR,hf];rfl
 have hfs:∀j,j<ops.size->∃f,fs[j]?=some f:=fun j hj=>⟨fs[j]' O,bM O⟩
 have hdone:∀(listed:Array Bool)ρ a w,listed.size=ops.size->(∀j,z=some j->listed.getD j false=false)->Region.ready .any ops listed=[] ->
   Sat M0 w0 N (done s fs fun j=>listed.getD j false) τ ρ a w->Qp .normal a w:=by
  intro listed ρ a w hsz hst hr hsat
  have hall:∀j,j<ops.size->listed.getD j false=true:=by
   intro j
   induction j using Nat.strongRecOn with
   | _ j ih=>
     intro hj;cases hl:listed.getD j false with
     | true=>rfl
     | false=>
       exfalso
       obtain⟨f,hf⟩:=hfs j hj;obtain⟨o,hoj,haft,_⟩:=hget j f hf;rw[bW]at hoj
       have:j∈Region.ready .any ops listed:=by
        rw[uo];refine⟨?_,o,hoj,fun e he hb=>?_⟩
        .have hjs:j<listed.size:=O
         simp only[jq,ra hjs,gH]at hl|-;exact hl
        .have hm:e.on∈f.r.after:=by rw[haft];exact qB.2 ⟨e,he,hb,rfl⟩
         have hlt:=ho1 j f.r (hrec j f hf) e.on hm;exact ih e.on hlt O
       rw[hr]at this;cases this
  rcases hend with⟨j,hz,hj⟩ | ⟨_,hq⟩
  .have:=hst j hz;rw[hall j hj]at this;cases this
  .refine hq ρ a w ?_
   have:done s fs (fun j=>listed.getD j false)=s.apps (fs.map (·.e)):=by
    show s.apps _=_;rw[aq7 _ 0 _ fun j hj=>by rw[bW];exact hall j (by simpa[hlen]using hj)]
   rw[<-this];exact hsat
 intro fuel
 induction fuel with
 | zero=>
   intro listed ρ a w hsz hcl hst hfu hsat
   have hr:Region.ready .any ops listed=[]:=by
    apply aq5.2;intro j hj;rw[uo]at hj;obtain⟨h1,o,h2,_⟩:=hj;have hjs:j<ops.size:=(cJ.1 h2).1
    have hm:j∈(List.range ops.size).filter fun j=>!listed.getD j true:=by
     rw[wJ];exact⟨fO.2 hjs,by rw[h1];rfl⟩
    have hl:=ap2 hm;omega
   exact⟨hr,hdone listed ρ a w hsz hst hr hsat⟩
 | succ fuel ih=>
   intro listed ρ a w hsz hcl hst hfu hsat;refine⟨fun hr=>hdone listed ρ a w hsz hst hr hsat,fun i hi=>?_⟩;have hi0:=hi;rw[uo]at hi;obtain⟨hl,o,hoi,haft⟩:=hi;have his:i<ops.size:=(cJ.1 hoi).1;have hils:i<listed.size:=O
   have hlf:listed.getD i false=false:=by
    simp only[jq,ra hils,gH]at hl|-;exact hl
   obtain⟨f,hf⟩:=hfs i his;obtain⟨o',hoi',hbind,hwr,hpan,hitem⟩:=hget i f hf;rw[bW]at hoi' hpan hitem;rw[hoi]at hoi';simp only[aZ]at hoi';subst hoi'
   have hafl:∀x∈f.r.after,listed.getD x false=true:=by
    intro x hx;rw[hbind,qB]at hx;obtain⟨e,he,hb,rfl⟩:=hx;exact haft e he hb
   have hBr:∀(r:Rec)(j:Nat),Bef (fs.map (·.r)) r j->(∀x∈r.after,listed.getD x false=true)->listed.getD j false=true:=by
    intro r j h
    induction h with
    | now hj=>intro hg;exact hg _ hj
    | @via y i k x hk hx _ ih=>
      intro hg;rw[dR]at hx;cases hfk:fs[k]? with
      | none=>rw[hfk]at hx;cases hx
      | some g'=>
        rw[hfk]at hx;simp only[cZ,aZ]at hx;subst hx;exact ih (hcl k g' hfk (hg k hk))
   have hB:∀(j:Nat)(g:EX),(∀x∈g.r.after,listed.getD x false=true)->Bef (fs.map (·.r)) g.r j->listed.getD j false=true:=
    fun j g hg h=>hBr g.r j h hg
   have hagree:∀x∈f.r.tch,(s.apps ((fs.map (·.e)).take i)).agree (done s fs fun j=>listed.getD j false) x:=by
    intro x hx;have e1:=aF5 (fs.map (·.e)) 0 i;simp only[bW]at e1;rw[<-e1];refine aw6 fun j e he hw=>?_;rw[dR]at he;cases hfj:fs[j]? with
    | none=>rw[hfj]at he;cases he
    | some g=>
      rw[hfj]at he;simp only[cZ,aZ]at he;subst he;obtain⟨_,_,_,hwrj,_,_⟩:=hget j g hfj;have hwj:x∈g.r.wr:=by rw[hwrj];exact vf hw
      by_cases hij:j=i
      .subst hij;simp[hlf]
      .have:=ho2 j i g.r f.r (hrec j g hfj) (hrec i f hf) hij x hwj (.inl hx);rcases Nat.lt_or_gt_of_ne hij with hlt | hgt
       .simp only[hlt,pV];exact(hB j f hafl (this.1 hlt)).symm
       .have hno:¬j<i:=O
        simp only[hno,nm];cases hlj:listed.getD j false with
        | false=>rfl
        | true=>
          have:=hB i g (hcl j g hfj hlj) (this.2 hgt);rw[hlf]at this;cases this
   by_cases hz:z=some i
   .exact hpan hz _ ρ a w _ hagree hsat
   .rcases hitem hz with hit | ⟨p,hp,hpa⟩
    .refine xD ?_ (hit _ ρ a w hagree hsat);rintro a' w' ⟨ρ',hs'⟩
     have hset:∀j,(listed.setIfInBounds i true).getD j false=(listed.getD j false || j==i):=by
      intro j;by_cases hji:j=i
      .subst hji;simp[hils]
      .rw[getD_set_ne false (jg hji)];simp[hji]
     refine ih _ ρ' a' w' (by simpa using hsz) ?_ ?_ ?_ ?_
     .intro j g hg hlj x hx;rw[hset]at hlj|-;simp only[na,eH]at hlj|-;rcases hlj with hlj | rfl
      .exact .inl (hcl j g hg hlj x hx)
      .rw[hf]at hg;simp only[aZ]at hg;subst hg;exact .inl (hafl x hx)
     .intro j hj;rw[hset];have:j≠i:=by rintro rfl;exact hz hj
      simp[hst j hj,this]
     .have hlt:((List.range ops.size).filter fun j=>!(listed.setIfInBounds i true).getD j true).length<((List.range ops.size).filter fun j=>!listed.getD j true).length:=by
       have e1:((List.range ops.size).filter fun j=>!(listed.setIfInBounds i true).getD j true)=((List.range ops.size).filter fun j=>!listed.getD j true).filter fun j=>j != i:=by
        rw[List.filter_filter];apply List.filter_congr;intro j _;by_cases hji:j=i
        .subst hji;simp[hils]
        .rw[getD_set_ne true (jg hji)];simp[hji]
       rw[e1];rw[ak2];refine⟨i,?_,aT⟩;rw[wJ];exact⟨fO.2 his,by rw[hl];rfl⟩
      omega
     .refine hs'.more (heff i f hf) hlf hset ?_;intro x j e' hij he' hw1 hw2;rw[dR]at he';cases hfj:fs[j]? with
      | none=>rw[hfj]at he';cases he'
      | some g=>
        rw[hfj]at he';simp only[cZ,aZ]at he';subst he';obtain⟨_,_,_,hwrj,_,_⟩:=hget j g hfj;have:=ho2 i j f.r g.r (hrec i f hf) (hrec j g hfj) O x (by rw[hwr];exact vf hw1) (.inr (by rw[hwrj];exact vf hw2));cases hlj:listed.getD j false with
        | false=>rfl
        | true=>
          have:=hB i g (hcl j g hfj hlj) (this.1 hij);rw[hlf]at this;cases this
    .have:=hst p hp;rw[hafl p hpa]at this;cases this
theorem FA(s:St):∀x,s.agree s x
 | .t _=>rfl
 | .b _=>rfl
 | .s _=>rfl
def au3(s:St)(e:il):∀(es:List il),s.apps (es++[e])=(s.apps es).app e:=by
 intro es
 induction es generalizing s with
 | nil=>rfl
 | cons x es ih=>exact ih (s.app x)
def ac7(hF:jw P N ops Qp M0 w0 τ z 0 s fs ops.toList)(hord:ordered (fs.map (·.r)).reverse=true)
  (hend:(∃j,z=some j/\j<ops.size)\/(z=none/\∀ρ a w,Sat M0 w0 N (s.apps (fs.map (·.e))) τ ρ a w->Qp .normal a w)) :
  ∀(d k:Nat)ρ a w,k+d=ops.size->(∀j,z=some j->k<=j)->Sat M0 w0 N (s.apps ((fs.map (·.e)).take k)) τ ρ a w->wpOps P ops Qp (List.range' k d) a w:=by
 have hlen:fs.length=ops.size:=by rw[hF.length];simp
 have hget:=hF.get;obtain⟨ho1,_⟩:=wx hord;intro d
 induction d with
 | zero=>
   intro k ρ a w hk hz hsat;show Qp .normal a w;rcases hend with⟨j,hj,hlt⟩ | ⟨_,hq⟩
   .have:=hz j hj;omega
   .refine hq ρ a w ?_;rw[dL (by simp[hlen];omega)]at hsat;exact hsat
 | succ d ih=>
   intro k ρ a w hk hz hsat;rw[List.range'_succ,wpOps_cons];have hfk:fs[k]?=some (fs[k]' O):=bM O;generalize fs[k]' O=f at hfk;obtain⟨o,hoi,hbind,hwr,hpan,hitem⟩:=hget k f hfk;rw[bW]at hoi hpan hitem;by_cases hzk:z=some k
   .exact hpan hzk _ ρ a w _ (fun x _=>FA _ x) hsat
   .rcases hitem hzk with hit | ⟨p,hp,hpa⟩
    .refine xD ?_ (hit _ ρ a w (fun x _=>FA _ x) hsat);rintro a' w' ⟨ρ',hs'⟩;refine ih (k+1) ρ' a' w' O (fun j hj=>?_) ?_
     .have:=hz j hj;have:j≠k:=by rintro rfl;exact hzk hj
      omega
     .have e1:(fs.map (·.e)).take (k+1)=(fs.map (·.e)).take k++[f.e]:=by
       rw[nq,dR,hfk];rfl
      rw[e1,au3];exact hs'
    .have h1:=hz p hp;have h2:=ho1 k f.r (by rw[dR,hfk];rfl) p hpa;omega
end
open Go.RowKit (Below)
def jn(τ:Env)(dec:Bj):Prop:=∀x∈dec,c0 τ (.u x.1 x.2.1)=.bool x.2.2
def jn.ext{τ:Env}{dec:Bj}(h:jn τ dec)(m:Env):jn (τ++m) dec:=fun x hx=>dk (h x hx) rfl
def aO8{τ:Env}{dec:Bj}(h:jn τ dec){c:C0}{β:Bool}(hk:known dec c=some β):c0 τ c=.bool β:=by
 unfold known at hk;split at hk
 .simp only[aZ]at hk;subst hk;rfl
 .rename_i i j;cases hf:dec.find? fun x=>x.1==i&&x.2.1==j with
  | none=>rw[hf]at hk;cases hk
  | some x=>
    rw[hf]at hk;simp only[cZ,aZ]at hk;have h1:=List.find?_some hf;simp only[bR,eH]at h1;have h2:=h x (List.mem_of_find?_eq_some hf);rw[h1.1,h1.2,hk]at h2;exact h2
 .cases hk
def Hu{P:j5}{post:Out->Prop}{bk:List (List aQ->Prop)}{τ:Env}{dec:Bj}(h:jn τ dec){c:C0}{kk:Bool->Bj->Tr}(hv:vc P post (parts dec c kk) τ bk) :
  ∃β dec',c0 τ c=.bool β/\jn τ dec'/\vc P post (kk β dec') τ bk:=by
 unfold parts at hv;split at hv
 .rename_i β hk;exact⟨β,dec,aO8 h hk,h,hv⟩
 .obtain⟨β,hc,ht,hf⟩:=hv
  have hl:jn τ (ao3 dec β c):=by
   unfold ao3;split
   .intro x hx;rcases cp.1 hx with rfl | hx
    .exact hc
    .exact h x hx
   .exact h
  cases β with
  | true=>exact⟨true,_,hc,hl,ht rfl⟩
  | false=>exact⟨false,_,hc,hl,hf rfl⟩
section
variable{P:j5}{N:Nat}{ops:j7}{Qp:iN}{M0:eu}{w0 w:World}{τ:Env}{s s':St}{ρ:Nat->Gh}{a:Act}{o:Oper}{i:Nat}{post:Out->Prop}{bk:List (List aQ->Prop)}
def DD(h:Sat M0 w0 N s τ ρ a w){d:Nat}{c:C0}{β:Bool}(ht:oT s d=some c)(hc:c0 τ c=.bool β):a.tmps.getD d undef=.bool β:=by
 have hv:=h.tm d;unfold oT at ht;split at ht
 .rename_i c' hs;simp only[aZ]at ht;subst ht;rw[hs]at hv;have hv:(c0 τ c').rep _ w _:=hv;rw[hc]at hv;exact hv.1
 .cases ht
def An{tmps:iS}{j d:Nat}{β:Bool}(hd:(ops[j]?).bind (·.dst)=some d)(hv:tmps.getD d undef=.bool β):yielded ops tmps j=some β:=by
 unfold yielded;rw[hd];simp only[Option.bind_some];rw[jq]at hv;cases hx:tmps[d]? with
 | none=>rw[hx]at hv;simp[undef]at hv
 | some x=>rw[hx]at hv;simp only[gH]at hv;subst hv;rfl
def Ju{tmps:iS}{j d:Nat}(hd:(ops[j]?).bind (·.dst)=some d)(hv:tmps.getD d undef=undef):yielded ops tmps j=none:=by
 unfold yielded;rw[hd];simp only[Option.bind_some];rw[jq]at hv;cases hx:tmps[d]? with
 | none=>rfl
 | some x=>rw[hx]at hv;simp only[gH]at hv;subst hv;rfl
def rn{d:Nat}(h:s'.t d=s.t d):oT s' d=oT s d:=by simp only[oT,h]
def RF(ops:j7)(τ:Env)(s:St)(o:Oper)(tch:List Loc):Prop:=
 o.guard=none\/∃j want d c,o.guard=some (j,want)/\(ops[j]?).bind (·.dst)=some d/\.t d∈tch/\oT s d=some c/\c0 τ c=.bool want
def RF.ext{tch:List Loc}(h:RF ops τ s o tch)(m:Env):RF ops (τ++m) s o tch:=by
 rcases h with h | ⟨j,want,d,c,h1,h2,h3,h4,h5⟩
 .exact .inl h
 .exact .inr ⟨j,want,d,c,h1,h2,h3,h4,dk h5 rfl⟩
def RF.wanted{tch:List Loc}(h:RF ops τ s o tch)(ha:∀x∈tch,s.agree s' x)(hs:Sat M0 w0 N s' τ ρ a w):Region.wanted o (yielded ops a.tmps)=true:=by
 unfold Region.wanted;rcases h with h | ⟨j,want,d,c,h1,h2,h3,h4,h5⟩
 .rw[h]
 .rw[h1];have e:s'.t d=s.t d:=ha _ h3;simp only[An h2 (DD hs ((rn e).trans h4) h5),beq_self_eq_true]
def wo{e:il}{tch:List Loc}(hoi:ops[i]?=some o)(hr:RF ops τ s o tch)
  (h:∀s' ρ a w,(∀x∈tch,s.agree s' x)->Sat M0 w0 N s' τ ρ a w->o.wp P a w (lG M0 w0 N s' e τ) Qp):Gi P N ops Qp M0 w0 τ i s e tch:=by
 intro s' ρ a w ha hs;unfold wpOp;simp only[hoi,hr.wanted ha hs,bg];exact .inl (h s' ρ a w ha hs)
def ai6{tch:List Loc}(hoi:ops[i]?=some o)(hr:RF ops τ s o tch)
  (h:∀s' ρ a w K,(∀x∈tch,s.agree s' x)->Sat M0 w0 N s' τ ρ a w->o.wp P a w K Qp):an9 P N ops Qp M0 w0 τ i s tch:=by
 intro s' ρ a w K ha hs;unfold wpOp;simp only[hoi,hr.wanted ha hs,bg];exact .inl (h s' ρ a w K ha hs)
def aw5{tch:List Loc}(hoi:ops[i]?=some o)(hdst:cw N o=true){j d:Nat}{want:Bool}(hg:o.guard=some (j,want))(hd:(ops[j]?).bind (·.dst)=some d)(ht:.t d∈tch)
  (h:s.t d=.undef\/∃c β,oT s d=some c/\c0 τ c=.bool β/\β≠want):Gi P N ops Qp M0 w0 τ i s ⟨put o .undef,[],[]⟩ tch:=by
 intro s' ρ a w ha hs;have e:s'.t d=s.t d:=ha _ ht
 have hw:Region.wanted o (yielded ops a.tmps)=false:=by
  unfold Region.wanted;rw[hg];rcases h with h | ⟨c,β,h1,h2,h3⟩
  .have hv:=hs.tm d;rw[e,h]at hv;simp only[Ju hd hv];rfl
  .simp only[An hd (DD hs ((rn e).trans h1) h2)]
   simpa using h3
 unfold wpOp;simp only[hoi,hw,eN,ck];exact⟨ρ,hs.pure hdst rfl⟩
def LZ{ni:Nat}{pre post:List Operand}{x:j6}{e:il}{nd:eV}{c:aC}(hq:(yI P o ni pre x post).run s=some (e,nd))(hn:uq P τ nd c):False:=by
 obtain⟨_,_,h2⟩:=Q.bind_some hq;obtain⟨_,_,h4⟩:=Q.bind_some h2;obtain⟨_,_,h6⟩:=Q.bind_some h4;obtain⟨_,_,h8⟩:=Q.bind_some h6;obtain⟨_,_,h10⟩:=Q.bind_some h8;obtain⟨_,_,h12⟩:=Q.bind_some h10;obtain⟨_,_,h14⟩:=Q.bind_some h12;obtain⟨_,_,h16⟩:=Q.bind_some h14;obtain⟨_,_,h18⟩:=Q.bind_some h16;obtain⟨_,_,h20⟩:=Q.bind_some h18;simp only[Q.run_pure,aZ]at h20;obtain⟨_,rfl⟩:=dG h20;exact hn
def Dh{ni:Nat}{pre post:List Operand}{x:j6}{e:il}{f:Nat}{args:List SW}{sh:List (Option Nat)}(hq:(yI P o ni pre x post).run s=some (e,.call f args sh)):False:=by
 obtain⟨_,_,h2⟩:=Q.bind_some hq;obtain⟨_,_,h4⟩:=Q.bind_some h2;obtain⟨_,_,h6⟩:=Q.bind_some h4;obtain⟨_,_,h8⟩:=Q.bind_some h6;obtain⟨_,_,h10⟩:=Q.bind_some h8;obtain⟨_,_,h12⟩:=Q.bind_some h10;obtain⟨_,_,h14⟩:=Q.bind_some h12;obtain⟨_,_,h16⟩:=Q.bind_some h14;obtain⟨_,_,h18⟩:=Q.bind_some h16;obtain⟨_,_,h20⟩:=Q.bind_some h18;simp only[Q.run_pure,aZ]at h20;obtain⟨_,h⟩:=dG h20;cases h
def aG2(h:Sat M0 w0 N s τ ρ a w){nb ni:Nat}{e:il}{nd:eV}{c:aC}{K:j4}(hcv:ic o=true)(hq:(step P o nb ni).run s=some (e,nd))(hn:uq P τ nd c)
  (hQ:∀v w',Kept M0 w0 w'->c.rep M0.M w' v->Qp (.panic [{ v,recovered:=false }]) a w'):o.wp P a w K Qp:=by
 have hQ':∀(s':St)v w',Below w.heap.size w w'->c.rep (Ms M0 ρ s') w' v->Qp (.panic [{ v,recovered:=false }]) a w':=by
  intro s' v w' hb hr;exact hQ v w' (h.below.and hb) (aC.mono _ (fun b o hb ho _=>⟨fun hm=>hb (.inl hm),ho⟩) hr)
 have one:∀{cl:Call}{x:j6}{f:Nat}{caps:List CR}{cvs:j0},o.op=.call cl->cl.callee=.value x->a.eval x=.func (.func f) #[] cvs.toArray->an (Ms M0 ρ s) w (caps.map (ZD τ)) cvs ->
   (YA P o ni f cl.args.toList caps).run s=some (e,nd)->o.wp P a w K Qp:=by
  intro cl x f caps cvs ho hc hx hcv hq;obtain⟨⟨as,sl⟩,h1,h2⟩:=Q.bind_some hq;obtain⟨sh,h3,h4⟩:=Q.bind_some h2;obtain⟨_,h5,h6⟩:=Q.bind_some h4;simp only[Q.run_pure,aZ]at h6;obtain⟨rfl,rfl⟩:=dG h6;have hdo:aX P f ((as++caps.map cd7).map (pw τ)) (.pan c):=hn;rw[cG,xE]at hdo;have hS:=cy.ov h (tm:=put o (mu ni sh)) (sl:=sl);exact Vu h ho hc hx (je h h1 hS) (hcv.mono hS.dJ) hdo (hQ' _)
 unfold step at hq;unfold ic at hcv;split at hcv
 .rename_i cl ho;split at hcv
  .rename_i x hc;rw[ho]at hq;simp only[hc]at hq;split at hq
   .rename_i f hx';simp only[Bl]at hx';subst hx';split at hq
    .split at hq
     .obtain⟨_,_,hq⟩:=Q.bind_some hq;exact(LZ hq hn).elim
     .cases hq
    .exact one ho hc (caps:=[]) (cvs:=[]) rfl (show an _ _ [] []from trivial) hq
   .rename_i x' _ hx';obtain⟨g,h1,h2⟩:=Q.bind_some hq;simp only[Bl]at hx';subst hx';have hx:=eX h h1;cases g with
    | gv f caps=>
      obtain⟨vs,hv,hr⟩:=hx;exact one ho hc hv hr h2
    | c y=>
      obtain⟨⟨as,sl⟩,h3,h4⟩:=Q.bind_some h2;obtain⟨sh,h5,h6⟩:=Q.bind_some h4;simp only[Q.run_pure,aZ]at h6;obtain⟨rfl,rfl⟩:=dG h6;obtain⟨f,caps,hy,hdo⟩:=hn;have hx':(c0 τ y).rep (Ms M0 ρ s) w (a.eval x):=hx;rw[hy]at hx';obtain⟨vs,hv,hr⟩:=hx';have hS:=cy.ov h (tm:=put o (mu ni sh)) (sl:=sl);exact Vu h ho hc hv (je h h3 hS) (hr.mono hS.dJ) hdo (hQ' _)
    | p _ _=>cases h2
    | ref _ _=>cases h2
    | r _=>cases h2
    | rp _ _ _ _=>cases h2
    | rs _ _ _ _=>cases h2
   .rename_i hx';cases hx'
   .rename_i hx';cases hx'
   .rename_i hx';cases hx'
   .rename_i hx';cases hx'
   .rename_i hx';cases hx'
  .cases hcv
 .cases hcv
def au1{τ:Env}{last:Bool}{nd:eV}{k:Tr}(h:vc P post (Ej o last k nd) τ bk) :
  (∃news,tX P τ o.op o.type nd news/\news.length=nd.ids/\vc P post k (τ++news) bk)\/(last=true/\∃c,uq P τ nd c/\post (.pan c)) \/
   (∃f args sh news,nd=.call f args sh/\ic o=true/\news.map aQ.shape=sh.map some/\post (.DH f (args.map (pw τ)) news)/\vc P post k (τ++news) bk):=by
 have key:∀nd,vc P post (.need nd o.op o.type last k) τ bk->(∃news,tX P τ o.op o.type nd news/\news.length=nd.ids/\vc P post k (τ++news) bk)\/(last=true/\∃c,uq P τ nd c/\post (.pan c)) \/
   (∃f args sh news,nd=.call f args sh/\ic o=true/\news.map aQ.shape=sh.map some/\post (.DH f (args.map (pw τ)) news)/\vc P post k (τ++news) bk):=by
  rintro nd (h | h | ⟨f,args,sh,news,h1,⟨cl,x,h2,h3⟩,h4⟩)
  .exact .inl h
  .exact .inr (.inl h)
  .exact .inr (.inr ⟨f,args,sh,news,h1,by unfold ic;rw[h2];simp only[h3],h4⟩)
 cases nd with
 | none=>exact .inl ⟨[],rfl,rfl,by rw[cB];exact h⟩
 | _=>exact key _ h
def aF1(h:Sat M0 w0 N s τ ρ a w){nb ni f:Nat}{e:il}{args:List SW}{sh:List (Option Nat)}{news:List aQ}(hd:cw N o=true)(hcv:ic o=true)(hq:(step P o nb ni).run s=some (e,.call f args sh))
  (hsh:news.map aQ.shape=sh.map some) (hτ:∀j t,news[j]?=some t->τ[ni+j]?=some t)
  (hdo:(∀as w,(callFunc f as).run P w=.ok (.enter f as) w)/\∀(M:c6)(w:World)(vs:j0),Kept M0 w0 w->bf M w->cC M w (args.map (pw τ)) vs->Calls P f vs.toArray w fun e w'=>Below w.heap.size w w'/\oU M w' (.ret news) e):o.wp P a w (lG M0 w0 N s e τ) Qp:=by
 have one:∀{cl:Call}{x:j6}{f':Nat}{caps:List CR}{cvs:j0},o.op=.call cl->cl.callee=.value x->a.eval x=.func (.func f') #[] cvs.toArray->an (Ms M0 ρ s) w (caps.map (ZD τ)) cvs ->
   (YA P o ni f' cl.args.toList caps).run s=some (e,.call f args sh)->o.wp P a w (lG M0 w0 N s e τ) Qp:=by
  intro cl x f' caps cvs ho hc hx hcv hq;obtain⟨⟨as,sl⟩,h1,h2⟩:=Q.bind_some hq;obtain⟨sh',h3,h4⟩:=Q.bind_some h2;obtain⟨_,h5,h6⟩:=Q.bind_some h4;simp only[Q.run_pure,aZ]at h6;obtain⟨rfl,h7⟩:=dG h6;simp only[eV.call.injEq]at h7;obtain⟨rfl,rfl,rfl⟩:=h7;rw[cG,xE]at hdo;have hS:=cy.ov h (tm:=put o (mu ni sh')) (sl:=sl);unfold Oper.wp;rw[tl ho hc hx hdo.1];rw[wN];refine(hdo.2 _ w _ h.below (h.yi.sub hS.sub) ((je h h1 hS).append (cC.yN (hcv.mono hS.dJ)))).mono ?_;rintro e w' ⟨hb,vs,rfl,hr⟩;exact⟨ρ,h.calls hd hb (FY hsh hτ hr)⟩
 unfold step at hq;unfold ic at hcv;split at hcv
 .rename_i cl ho;split at hcv
  .rename_i x hc;rw[ho]at hq;simp only[hc]at hq;split at hq
   .rename_i f' hx';simp only[Bl]at hx';subst hx';split at hq
    .split at hq
     .obtain⟨_,_,hq⟩:=Q.bind_some hq;exact(Dh hq).elim
     .cases hq
    .exact one ho hc (caps:=[]) (cvs:=[]) rfl (show an _ _ [] []from trivial) hq
   .rename_i x' _ hx';obtain⟨g,h1,h2⟩:=Q.bind_some hq;simp only[Bl]at hx';subst hx';have hx:=eX h h1;cases g with
    | gv f' caps=>
      obtain⟨vs,hv,hr⟩:=hx;exact one ho hc hv hr h2
    | c y=>
      obtain⟨⟨as,sl⟩,h3,h4⟩:=Q.bind_some h2;obtain⟨sh',h5,h6⟩:=Q.bind_some h4;simp only[Q.run_pure,aZ]at h6;obtain⟨_,h7⟩:=dG h6;cases h7
    | p _ _=>cases h2
    | ref _ _=>cases h2
    | r _=>cases h2
    | rp _ _ _ _=>cases h2
    | rs _ _ _ _=>cases h2
   .rename_i hx';cases hx'
   .rename_i hx';cases hx'
   .rename_i hx';cases hx'
   .rename_i hx';cases hx'
   .rename_i hx';cases hx'
  .cases hcv
 .cases hcv
def oZ(i:Nat)(o:Oper):EX:=
 ⟨⟨if(bQ o).contains i then[]else o.dst.toList.map fun d=>(d,.junk),[],[]⟩,⟨bQ o,[],if(bQ o).contains i then[]else o.dst.toList.map .t⟩⟩
def am4{eS:List Rec}:∀{rest:j8}{k:Nat}{s:St},(∀j,rest[j]?=ops[k+j]?)->i<k->(rest.all fun o=>(bQ o).contains i || (match o.op with | .alloc T=>o.guard.isNone&&(jm P T).isSome&&cw N o | .move (.const _)=>o.guard.isNone&&cw N o | _=>false))=true ->
  jw P N ops Qp M0 w0 τ (some i) k s (rest.map (oZ i)) rest
 | [],_,_,_,_,_=>trivial
 | o::rest,k,s,hl,hk,h=>by
   simp only[PF,bR]at h;have hoi:ops[k]?=some o:=by have:=hl 0;simpa using this.symm
   refine⟨hoi,rfl,?_,fun hz=>?_,fun _=>?_,am4 (eS:=eS) (fun j=>?_) O h.2⟩
   .unfold oZ;cases hc:(bQ o).contains i
    .simp only[hc,eN,ck,il.wr,nV,cB,ey];rfl
    .simp only[hc,bg,il.wr,nV,cB]
   .simp only[aZ]at hz;omega
   .by_cases hc:(bQ o).contains i
    .exact .inr ⟨i,rfl,show i∈bQ o by simpa using hc⟩
    .left
     have h1:=h.1;simp only[hc,Bool.false_or]at h1;split at h1
     .rename_i T ho;simp only[bR,BI]at h1;obtain⟨⟨hg,hz⟩,hd⟩:=h1;obtain⟨z,hz⟩:=Sl.1 hz;obtain⟨ti,zv,hi,hz2,hzc,h1',_⟩:=ed hz
      have e1:(oZ i o).e=⟨put o .junk,[],[]⟩:=by
       unfold oZ put;simp only[hc,eN,ck];cases o.dst<;>rfl
      rw[e1];refine wo hoi (.inl hg) fun s' ρ a w _ hs=>?_
      have hr:(execOp a.eval o).run P w=.ok (.value (.pointer (some ⟨w.heap.size,0,none⟩))) (w.alloc (.cells z.toArray T)):=by
       simp[execOp,ho,Instr.alloc,zeroValue,typeInfo,hi,hz2,newVar,newRow,hzc]
      exact bF hr ⟨ρ,hs.calls hd ((cS _ w).alloc (ah _) _) trivial⟩
     .rename_i x ho;simp only[bR,BI]at h1
      have e1:(oZ i o).e=⟨put o .junk,[],[]⟩:=by
       unfold oZ put;simp only[hc,eN,ck];cases o.dst<;>rfl
      rw[e1];refine wo hoi (.inl h1.1) fun s' ρ a w _ hs=>?_
      have hr:(execOp a.eval o).run P w=.ok (.value x) w:=by
       simp[execOp,ho,Act.eval]
      exact bF hr ⟨ρ,hs.calls h1.2 (cS _ w) trivial⟩
     .cases h1
   .have:=hl (j+1);rw[show k+1+j=k+(j+1) by omega,<-this];rfl
def aX4{t:Nat}{x y:j6}{β:Bool}(ho:o.op=.pick (.tmp t) x y)(ht:a.tmps.getD t undef=.bool β):(execOp a.eval o).run P w=.ok (.value (a.eval (if β then x else y))) w:=by
 have:a.eval (.tmp t)=.bool β:=ht;cases β<;>simp[execOp,ho,this,asBool]
def aA9{x:j6}{T:Nat}{u:Value}(ho:o.op=.panic x)(hx:a.eval x=.iface T u):(execOp a.eval o).run P w=.halt (.panic (.iface T u)) w:=by
 simp[execOp,ho,hx,Instr.panic,goPanic,Sem.run]
def Dz{k:Nat->Nat->St->Bj->List Rec->Tr}
  (hpan:∀c v a w,post (.pan c)->c.rep M0.M w v->Kept M0 w0 w->a.defers=[]->Qp (.panic [{ v,recovered:=false }]) a w)
  (horc:∀f args news,post (.DH f args news)->(∀as w,(callFunc f as).run P w=.ok (.enter f as) w)/\∀(M:c6)(w:World)(vs:j0),Kept M0 w0 w->bf M w->cC M w args vs->Calls P f vs.toArray w fun e w'=>Below w.heap.size w w'/\oU M w' (.ret news) e) :
  ∀(l:j8)(i nb ni:Nat)(s:St)(dec:Bj)(eS:List Rec)(τ:Env),vc P post (lk P N ops l i nb ni s dec eS k) τ bk->τ.length=ni->jn τ dec->(∀j,l[j]?=ops[i+j]?) ->
   (∃m fs nb' dec',jw P N ops Qp M0 w0 (τ++m) none i s fs l/\jn (τ++m) dec'/\vc P post (k nb' (τ++m).length (s.apps (fs.map (·.e))) dec' ((fs.map (·.r)).reverse++eS)) (τ++m) bk) \/
   (∃m fs z,jw P N ops Qp M0 w0 (τ++m) (some z) i s fs l/\i<=z/\z<i+l.length/\ordered ((fs.map (·.r)).reverse++eS)=true)
 | [],i,nb,ni,s,dec,eS,τ,h,hn,hd,hl=>by
   refine .inl ⟨[],[],nb,dec,trivial,by rw[cB];exact hd,?_⟩;rw[cB,hn];exact h
 | o::rest,i,nb,ni,s,dec,eS,τ,h,hn,hd,hl=>by
   have hoi:ops[i]?=some o:=by have:=hl 0;simpa using this.symm
   have hrest:∀j,rest[j]?=ops[i+1+j]?:=fun j=>by
    have:=hl (j+1);rw[show i+1+j=i+(j+1) by omega,<-this];rfl
   have cons:∀(m1:Env)(f:EX)(nb1:Nat)(dec1:Bj),f.r.after=bQ o->f.r.wr=f.e.wr->(∀m',Gi P N ops Qp M0 w0 ((τ++m1)++m') i s f.e f.r.tch)->jn (τ++m1) dec1 ->
     vc P post (lk P N ops rest (i+1) nb1 (τ++m1).length (s.app f.e) dec1 (f.r::eS) k) (τ++m1) bk ->
     (∃m fs nb' dec',jw P N ops Qp M0 w0 (τ++m) none i s fs (o::rest)/\jn (τ++m) dec'/\vc P post (k nb' (τ++m).length (s.apps (fs.map (·.e))) dec' ((fs.map (·.r)).reverse++eS)) (τ++m) bk) \/
     (∃m fs z,jw P N ops Qp M0 w0 (τ++m) (some z) i s fs (o::rest)/\i<=z/\z<i+(o::rest).length/\ordered ((fs.map (·.r)).reverse++eS)=true):=by
    intro m1 f nb1 dec1 hb hwr hit hd1 hv;rcases Dz hpan horc rest (i+1) nb1 _ (s.app f.e) dec1 (f.r::eS) (τ++m1) hv rfl hd1 hrest with⟨m,fs,nb',dec',h1,h2,h3⟩ | ⟨m,fs,z,h1,h2,h3,h4⟩
    .refine .inl ⟨m1++m,f::fs,nb',dec',?_,?_,?_⟩
     .rw[<-dy];exact⟨hoi,hb,hwr,(fun hz=>by cases hz),fun _=>.inl (hit m),h1⟩
     .rw[<-dy];exact h2
     .rw[<-dy];simp only[fj,xn,dy,BN]at h3|-;exact h3
    .refine .inr ⟨m1++m,f::fs,z,?_,O,by simp only[bB];omega,?_⟩
     .rw[<-dy];refine⟨hoi,hb,hwr,fun hz=>?_,fun _=>.inl (hit m),h1⟩;simp only[aZ]at hz;omega
     .simp only[fj,xn,dy,BN]at h4|-;exact h4
   have pan:∀(f:EX),f.r.after=bQ o->f.r.wr=f.e.wr->an9 P N ops Qp M0 w0 τ i s f.r.tch->tY P N i rest (f.r::eS)=true ->
     (∃m fs nb' dec',jw P N ops Qp M0 w0 (τ++m) none i s fs (o::rest)/\jn (τ++m) dec'/\vc P post (k nb' (τ++m).length (s.apps (fs.map (·.e))) dec' ((fs.map (·.r)).reverse++eS)) (τ++m) bk) \/
     (∃m fs z,jw P N ops Qp M0 w0 (τ++m) (some z) i s fs (o::rest)/\i<=z/\z<i+(o::rest).length/\ordered ((fs.map (·.r)).reverse++eS)=true):=by
    intro f hb hwr hp hlast;unfold tY at hlast;simp only[bR]at hlast;refine .inr ⟨[],f::rest.map (oZ i),i,?_,ah _,aT,?_⟩
    .rw[cB];exact⟨hoi,hb,hwr,fun _=>hp,fun hz=>absurd rfl hz,am4 (eS:=eS) hrest (yD i) hlast.1⟩
    .have:=hlast.2;simp only[fj,xn,dy,BN,ey]at this|-;exact this
   have skip:∀(j d:Nat)(want:Bool)(dec1:Bj),o.guard=some (j,want)->(ops[j]?).bind (·.dst)=some d->jn τ dec1->(s.t d=.undef\/∃c β,oT s d=some c/\c0 τ c=.bool β/\β≠want) ->
     vc P post (if cw N o then lk P N ops rest (i+1) nb ni (s.app ⟨put o .undef,[],[]⟩) dec1 (⟨bQ o,[.t d],(put o .undef).map fun x=>.t x.1⟩::eS) k else .fail i) τ bk ->
     (∃m fs nb' dec',jw P N ops Qp M0 w0 (τ++m) none i s fs (o::rest)/\jn (τ++m) dec'/\vc P post (k nb' (τ++m).length (s.apps (fs.map (·.e))) dec' ((fs.map (·.r)).reverse++eS)) (τ++m) bk) \/
     (∃m fs z,jw P N ops Qp M0 w0 (τ++m) (some z) i s fs (o::rest)/\i<=z/\z<i+(o::rest).length/\ordered ((fs.map (·.r)).reverse++eS)=true):=by
    intro j d want dec1 hg hj hd1 hc hv;split at hv
    .rename_i hdst;refine cons [] ⟨⟨put o .undef,[],[]⟩,⟨bQ o,[.t d],(put o .undef).map fun x=>.t x.1⟩⟩ nb dec1 rfl (by simp[il.wr]) (fun m'=>?_) (by rw[cB];exact hd1) (by rw[cB,hn];exact hv);refine aw5 hoi hdst hg hj aT ?_;rcases hc with hc | ⟨c,β,h1,h2,h3⟩
     .exact .inl hc
     .exact .inr ⟨c,β,h1,dk (dk h2 rfl) rfl,h3⟩
    .exact hv.elim
   have go:∀(gl:List Loc)(dec1:Bj)(q:Q (il×eV)),jn τ dec1->RF ops τ s o gl ->
     (∀τ' s' ρ a w e nd,(∃m,τ'=τ++m)->(∀x∈gl,s.agree s' x)->q.run s'=some (e,nd)->cw N o=true->jv P τ' o.op o.type nd ni->Sat M0 w0 N s' τ' ρ a w->o.wp P a w (lG M0 w0 N s' e τ') Qp) ->
     (∀s' ρ a w e nd c K,(∀x∈gl,s.agree s' x)->ic o=true->q.run s'=some (e,nd)->uq P τ nd c->post (.pan c)->Sat M0 w0 N s' τ ρ a w->o.wp P a w K Qp) ->
     (∀τ' s' ρ a w e f args sh news,(∀x∈gl,s.agree s' x)->ic o=true->q.run s'=some (e,.call f args sh)->cw N o=true->news.map aQ.shape=sh.map some->(∀j t,news[j]?=some t->τ'[ni+j]?=some t)->post (.DH f (args.map (pw τ')) news)->Sat M0 w0 N s' τ' ρ a w->o.wp P a w (lG M0 w0 N s' e τ') Qp) ->
     vc P post (match q.run s with
      | none=>.fail i
      | some (e,nd)=>if cw N o&&nd.ok ni then
        let eS:=⟨bQ o,gl++q.log s,e.wr⟩::eS
        Ej o (ic o&&tY P N i rest eS) (lk P N ops rest (i+1) (nb+1) (ni+nd.ids) (s.app e) dec1 eS k) nd else .fail i) τ bk ->
     (∃m fs nb' dec',jw P N ops Qp M0 w0 (τ++m) none i s fs (o::rest)/\jn (τ++m) dec'/\vc P post (k nb' (τ++m).length (s.apps (fs.map (·.e))) dec' ((fs.map (·.r)).reverse++eS)) (τ++m) bk) \/
     (∃m fs z,jw P N ops Qp M0 w0 (τ++m) (some z) i s fs (o::rest)/\i<=z/\z<i+(o::rest).length/\ordered ((fs.map (·.r)).reverse++eS)=true):=by
    intro gl dec1 q hd1 hruns hsem hsemp hsemo hv;cases hq:q.run s with
    | none=>rw[hq]at hv;exact hv.elim
    | some ends=>
      obtain⟨e,nd⟩:=ends;rw[hq]at hv;simp only at hv;split at hv
      .rename_i hok;simp only[bR]at hok;rcases au1 hv with⟨news,hno,hnl,hv⟩ | ⟨hlast,c,hnp,hpc⟩ | ⟨f,args,sh,news,rfl,hcv,hsh,horc1,hv⟩
       .refine cons news ⟨e,⟨bQ o,gl++q.log s,e.wr⟩⟩ (nb+1) dec1 rfl rfl (fun m'=>?_) (hd1.ext news) (by rw[cF,hn,hnl];exact hv);refine wo hoi ?_ fun s' ρ a w ha hs=>?_
        .have:=(hruns.ext news).ext m';rcases this with h | ⟨j,want,d,c,h1,h2,h3,h4,h5⟩
         .exact .inl h
         .exact .inr ⟨j,want,d,c,h1,h2,gV _ h3,h4,h5⟩
        .have hq':q.run s'=some (e,nd):=by rw[q.congr fun x hx=>ha x (ke _ hx)];exact hq
         refine hsem _ s' ρ a w e nd ⟨news++m',by rw[dy]⟩ (fun x hx=>ha x (gV _ hx)) hq' hok.1 ⟨news,?_,hnl,fun j t hj=>?_⟩ hs
         .rw[dy];exact hno.ext hn hok.2
         .rw[dy,fi O,hn,am7,ek (cL.1 hj).1];exact hj
       .simp only[bR]at hlast;refine pan ⟨e,⟨bQ o,gl++q.log s,e.wr⟩⟩ rfl rfl ?_ hlast.2;refine ai6 hoi ?_ fun s' ρ a w K ha hs=>?_
        .rcases hruns with h | ⟨j,want,d,c,h1,h2,h3,h4,h5⟩
         .exact .inl h
         .exact .inr ⟨j,want,d,c,h1,h2,gV _ h3,h4,h5⟩
        .have hq':q.run s'=some (e,nd):=by rw[q.congr fun x hx=>ha x (ke _ hx)];exact hq
         exact hsemp s' ρ a w e nd c K (fun x hx=>ha x (gV _ hx)) hlast.1 hq' hnp hpc hs
       .have hnl:news.length=sh.length:=by have:=congrArg List.length hsh;simpa using this
        refine cons news ⟨e,⟨bQ o,gl++q.log s,e.wr⟩⟩ (nb+1) dec1 rfl rfl (fun m'=>?_) (hd1.ext news) (by rw[cF,hn,hnl];exact hv);refine wo hoi ?_ fun s' ρ a w ha hs=>?_
        .have:=(hruns.ext news).ext m';rcases this with h | ⟨j,want,d,c,h1,h2,h3,h4,h5⟩
         .exact .inl h
         .exact .inr ⟨j,want,d,c,h1,h2,gV _ h3,h4,h5⟩
        .have hq':q.run s'=some (e,.call f args sh):=by rw[q.congr fun x hx=>ha x (ke _ hx)];exact hq
         refine hsemo _ s' ρ a w e f args sh news (fun x hx=>ha x (gV _ hx)) hcv hq' hok.1 hsh (fun j t hj=>?_) ?_ hs
         .rw[dy,fi O,hn,am7,ek (cL.1 hj).1];exact hj
         .rw[dy,zL hn hok.2];exact horc1
      .exact hv.elim
   have run:∀(gl:List Loc)(dec1:Bj),jn τ dec1->RF ops τ s o gl->(gl=[]->o.guard=none) ->
     vc P post (match o.op with
      | .pick (.tmp t) x y=>match oT s t with
        | some c=>parts dec1 c fun β dec=>(match(do let v <-Nx (if β then x else y);return lP o v:Q (il×eV)).run s with
          | none=>.fail i
          | some (e,nd)=>if cw N o&&nd.ok ni then
            let eS:=⟨bQ o,(.t t::gl)++(do let v <-Nx (if β then x else y);return lP o v:Q (il×eV)).log s,e.wr⟩::eS
            Ej o (ic o&&tY P N i rest eS) (lk P N ops rest (i+1) (nb+1) (ni+nd.ids) (s.app e) dec eS k) nd else .fail i)
        | none=>.fail i
      | .panic x=>match(Nx x).run s with
        | some (.w (.one (.c c)))=>if tY P N i rest (⟨bQ o,(Nx x).log s,[]⟩::eS)&&o.guard.isNone then .pan c else .fail i
        | _=>.fail i
      | _=>(match(step P o nb ni).run s with
         | none=>.fail i
         | some (e,nd)=>if cw N o&&nd.ok ni then
           let eS:=⟨bQ o,gl++(step P o nb ni).log s,e.wr⟩::eS
           Ej o (ic o&&tY P N i rest eS) (lk P N ops rest (i+1) (nb+1) (ni+nd.ids) (s.app e) dec1 eS k) nd else .fail i)) τ bk ->
     (∃m fs nb' dec',jw P N ops Qp M0 w0 (τ++m) none i s fs (o::rest)/\jn (τ++m) dec'/\vc P post (k nb' (τ++m).length (s.apps (fs.map (·.e))) dec' ((fs.map (·.r)).reverse++eS)) (τ++m) bk) \/
     (∃m fs z,jw P N ops Qp M0 w0 (τ++m) (some z) i s fs (o::rest)/\i<=z/\z<i+(o::rest).length/\ordered ((fs.map (·.r)).reverse++eS)=true):=by
    intro gl dec1 hd1 hruns hgl hv;split at hv
    .rename_i t x y ho;split at hv
     .rename_i c ht;obtain⟨β,dec2,hc,hd2,hv⟩:=Hu hd1 hv;refine go (.t t::gl) dec2 _ hd2 ?_ ?_ ?_ ?_ hv
      .rcases hruns with h | ⟨j,want,d,c,h1,h2,h3,h4,h5⟩
       .exact .inl h
       .exact .inr ⟨j,want,d,c,h1,h2,cg _ h3,h4,h5⟩
      .rintro τ' s' ρ a w e nd ⟨m,rfl⟩ ha hq hdst _ hs;obtain⟨v,h1,h2⟩:=Q.bind_some hq;simp only[Q.run_pure,aZ]at h2;obtain⟨rfl,rfl⟩:=dG h2;have hst:s'.t t=s.t t:=ha _ cE;have:=DD hs ((rn hst).trans ht) (dk hc rfl);exact fK hs hdst (aX4 ho this) (zF hs h1)
      .intro s' ρ a w e nd c K ha hcv;unfold ic at hcv;rw[ho]at hcv;cases hcv
      .intro τ' s' ρ a w e f args sh news ha hcv;unfold ic at hcv;rw[ho]at hcv;cases hcv
     .exact hv.elim
    .rename_i x ho;split at hv
     .rename_i c hx;split at hv
      .rename_i hl2;simp only[bR,BI]at hl2;obtain⟨hpc,hif⟩:=hv;refine pan ⟨⟨[],[],[]⟩,⟨bQ o,(Nx x).log s,[]⟩⟩ rfl rfl ?_ hl2.1;refine ai6 hoi (.inl hl2.2) fun s' ρ a w K ha hs=>?_;have hx':(Nx x).run s'=some (.w (.one (.c c))):=by rw[(Nx x).congr ha];exact hx
       have hr:(c0 τ c).rep (Ms M0 ρ s') w (a.eval x):=zF hs hx';obtain⟨T,u,he⟩:=hif _ _ _ hr;unfold Oper.wp;rw[aA9 ho he,Oper.upon_panic,<-he];exact hpan _ _ a w hpc (aC.mono _ (fun b o hb ho _=>⟨fun hm=>hb (.inl hm),ho⟩) hr) hs.below hs.df
      .exact hv.elim
     .exact hv.elim
    .refine go gl dec1 _ hd1 hruns ?_ ?_ ?_ hv
     .rintro τ' s' ρ a w e nd _ ha hq hdst hna hs;exact step_ok hs hdst hq hna
     .intro s' ρ a w e nd c K ha hcv hq hnp hpc hs;exact aG2 hs hcv hq hnp fun v w' hb hr=>hpan c v a w' hpc hr hb hs.df
     .intro τ' s' ρ a w e f args sh news ha hcv hq hdst hsh hτ ho hs;exact aF1 hs hdst hcv hq hsh hτ (horc f _ news ho)
   unfold lk at h;simp only at h;split at h
   .rename_i hg;exact run [] dec hd (.inl hg) (fun _=>hg) h
   .rename_i j want hg;split at h
    .exact h.elim
    .rename_i d hj;split at h
     .rename_i hu;exact skip j d want dec hg hj hd (.inl hu) h
     .rename_i hu;split at h
      .rename_i c ht;obtain⟨β,dec2,hc,hd2,hv⟩:=Hu hd h;split at hv
       .rename_i hβ;subst hβ;exact run [.t d] dec2 hd2 (.inr ⟨j,β,d,c,hg,hj,aT,ht,hc⟩) (fun h=>by cases h) hv
       .rename_i hβ;exact skip j d want dec2 hg hj hd2 (.inr ⟨c,β,ht,hc,hβ⟩) hv
      .exact h.elim
end
def aC.Sub.refl(c:aC):c.Sub c:=.inl rfl
def aC.Sub.same{c:aC}:c.Sub c:=.inl rfl
def aC.Sub.trans{c d e:aC}(h:c.Sub d)(k:d.Sub e):c.Sub e:=by
 rcases h with rfl | ⟨h1,h2⟩
 .exact k
 .exact .inr ⟨h1,fun M w v hv=>k.rep (h2 M w v hv)⟩
def aC.Sub.eq{v:Value}{d:aC}(h:(aC.exact v).Sub d)(h1:v.oneCell'=true)(hv:∀a l k,v≠.slice a l k):d=.exact v:=by
 rcases h with h | ⟨h,_⟩
 .exact h.symm
 .obtain⟨a,l,k,e⟩:=h (fun _=>False) default v ⟨rfl,h1⟩;exact(hv a l k e).elim
theorem az.Dw{α:Type}{R:α->α->Prop}(h:∀a,R a a):∀xs,az R xs xs
 | []=>trivial
 | x::xs=>⟨h x,az.Dw h xs⟩
theorem aQ.Sub.refl:∀t:aQ,t.Sub t
 | .one _=>.inl rfl
 | .agg cs=>az.Dw aC.Sub.refl cs
 | .rows ts=>az.Dw (az.Dw aC.Sub.refl) ts
def aQ.Sub.same{t:aQ}:t.Sub t:=aQ.Sub.refl t
def aQ.Sub.of_eq{t u:aQ}(h:t=u):t.Sub u:=h▸aQ.Sub.refl t
def ai.refl(l:List aQ):ai l l:=az.Dw aQ.Sub.refl l
def ai.rfl{l:List aQ}:ai l l:=ai.refl l
def ai.of_eq{l m:List aQ}(h:l=m):ai l m:=h▸ai.refl l
def ai.app{a b c d:List aQ}(h:ai a b)(k:ai c d):ai (a++c) (b++d):=az.append h k
theorem an.sub{M:c6}{w:World}:∀{cs ds:List aC}{vs},az aC.Sub cs ds->an M w cs vs->an M w ds vs
 | [],[],[],_,_=>trivial
 | _::_,_::_,_::_,⟨a,b⟩,⟨c,d⟩=>⟨a.rep c,an.sub b d⟩
 | [],_::_,_,k,_=>k.elim
 | _::_,[],_,k,_=>k.elim
 | [],[],_::_,_,k=>k.elim
 | _::_,_::_,[],_,k=>k.elim
def aQ.Sub.rep{t u:aQ}(h:t.Sub u){M:c6}{w:World}{v:Value}(hv:t.rep M w v):u.rep M w v:=by
 cases t<;>cases u<;>first | exact h.elim | skip
 .exact aC.Sub.rep h hv
 .obtain⟨vs,e,hr⟩:=hv;exact⟨vs,e,hr.sub h⟩
 .exact hv
theorem cC.sub{M:c6}{w:World}:∀{cs ds:List aQ}{vs},ai cs ds->cC M w cs vs->cC M w ds vs
 | [],[],[],_,_=>trivial
 | _::_,_::_,_::_,⟨a,b⟩,⟨c,d⟩=>⟨a.rep c,cC.sub b d⟩
 | [],_::_,_,k,_=>k.elim
 | _::_,[],_,k,_=>k.elim
 | [],[],_::_,_,k=>k.elim
 | _::_,_::_,[],_,k=>k.elim
theorem az.flat{R:aC->aC->Prop}:∀{ts us:List (List aC)},az (az R) ts us->az R ts.flatten us.flatten
 | [],[],_=>trivial
 | _::_,_::_,⟨a,b⟩=>by
   rw[gX,gX];exact az.append a (az.flat b)
 | [],_::_,k=>k.elim
 | _::_,[],k=>k.elim
theorem az.get'{α β:Type}{R:α->β->Prop}:∀{xs:List α}{ys:List β},az R xs ys->∀(j:Nat)(y:β),ys[j]?=some y->∃x,xs[j]?=some x/\R x y
 | [],[],_,j,y,h=>by simp at h
 | x0::xs,y0::ys,⟨a,b⟩,j,y,h=>by
   cases j with
   | zero=>simp at h;subst h;exact⟨x0,rfl,a⟩
   | succ j=>simpa using az.get' b j y (by simpa using h)
 | [],_::_,k,_,_,_=>k.elim
 | _::_,[],k,_,_,_=>k.elim
def aC.Sub.slice{sz:Nat}{ts us:List (List aC)}(h:az (az aC.Sub) ts us):(aC.slice sz ts).Sub (.slice sz us):=by
 refine .inr ⟨?_,?_⟩
 .rintro M w v ⟨a,cap,rfl,_⟩;exact⟨a,ts.length,cap,rfl⟩
 .rintro M w v ⟨a,cap,rfl,hc,hm,hel⟩;have hl:ts.length=us.length:=h.length;refine⟨a,cap,by rw[hl],O,hm,?_⟩;rcases hel with rfl | ⟨b,off,cs,T,fz,rfl,hb,hh,hr⟩
  .left;cases us with
   | nil=>rfl
   | cons _ _=>exact h.elim
  .refine .inr ⟨b,off,cs,T,fz,rfl,hb,hh,fun i t ht=>?_⟩;obtain⟨t0,h0,hs⟩:=az.get' h i t ht;obtain⟨h1,h2⟩:=hr i t0 h0;exact⟨by rw[<-h1];exact(az.length hs).symm,h2.sub hs⟩
def aC.Sub.nil{sz:Nat}:(aC.exact (.slice none 0 0)).Sub (.slice sz []):=by
 refine .inr ⟨?_,?_⟩
 .rintro M w v ⟨rfl,_⟩;exact⟨none,0,0,rfl⟩
 .rintro M w v ⟨rfl,_⟩;exact⟨none,0,rfl,aT,by simp[maxLen],.inl rfl⟩
def af9{τ τ':Env}(h:∀x,(c0 τ x).Sub (c0 τ' x)){x:C0}{k:IntKind}{n:Int}(hx:c0 τ x=.int k n):c0 τ' x=.int k n:=by
 have:=h x;rw[hx]at this;exact this.eq rfl (by intro a l k h;cases h)
def zi{τ τ':Env}(h:ai τ τ')(x:C0):(c0 τ x).Sub (c0 τ' x):=by
 cases x with
 | k v=>exact .inl rfl
 | u i j=>
   simp only[c0,fI];cases hx:τ[i]? with
   | none=>
     have:τ'[i]?=none:=by
      have h1:=fA.1 hx;have h2:=az.length h;exact fA.2 O
     rw[this];exact .inl rfl
   | some t=>
     obtain⟨u,hu,hs⟩:=az.get h i t hx;rw[hu];simp only[gH];cases t<;>cases u<;>first | exact hs.elim | skip
     .simp only[aQ.cell,aQ.cells];cases j with
      | zero=>exact hs
      | succ j=>exact .inl rfl
     .rename_i cs ds;have hs:az aC.Sub cs ds:=hs;simp only[aQ.cell,aQ.cells,fI];cases hc:cs[j]? with
      | none=>
        have:ds[j]?=none:=by
         have h1:=fA.1 hc;have h2:=az.length hs;exact fA.2 O
        rw[this];exact .inl rfl
      | some c=>
        obtain⟨d,hd,hcd⟩:=az.get hs j c hc;rw[hd];exact hcd
     .exact .inl rfl
 | sr sz cid=>
   simp only[c0];cases hx:τ[cid]? with
   | none=>
     have:τ'[cid]?=none:=by
      have h1:=fA.1 hx;have h2:=az.length h;exact fA.2 O
     rw[this];exact .inl rfl
   | some t=>
     obtain⟨u,hu,hs⟩:=az.get h cid t hx;rw[hu];cases t<;>cases u<;>first | exact hs.elim | exact .inl rfl | skip
     exact aC.Sub.slice hs
theorem Tc{τ τ':Env}(h:ai τ τ'):∀cells:List C0,az aC.Sub (cells.map (c0 τ)) (cells.map (c0 τ'))
 | []=>trivial
 | x::xs=>⟨zi h x,Tc h xs⟩
def VH{cs ds:List aC}(h:az aC.Sub cs ds){M:c6}{w:World}{v:Value}(hv:(aC.aw cs).rep M w v):(aC.aw ds).rep M w v:=by
 obtain⟨b,off,vs,T,fz,rfl,hm,hh,hr⟩:=hv;have:=az.length h;exact⟨b,off,vs,T,fz,rfl,hm,hh,by rw[<-this];exact hr.sub h⟩
theorem bn7{τ τ':Env}(h:ai τ τ'){M:c6}{w:World}{v:Value}:∀(x:CR),(ZD τ x).rep M w v->(ZD τ' x).rep M w v
 | .c x,hv=>(zi h x).rep hv
 | .ref off cells,hv=>VH ((Tc h cells).drop off) hv
section
variable{ex:c6}{τ τ':Env}{ρ:Nat->Gh}{M:c6}{w:World}
theorem yy(h:ai τ τ'):∀{c:SC}{v},eB ex τ ρ M w c v->eB ex τ' ρ M w c v
 | .p b off,v,hv=>hv
 | .r b,v,hv=>hv
 | .rp b sz i off,v,⟨h1,g,o0,len,cap,k,n,h2,h3,h4,h5⟩=>⟨h1,g,o0,len,cap,k,n,h2,af9 (zi h) h3,h4,h5⟩
 | .rs b sz lo hi,v,⟨h1,g,o0,len,cap,k,k',n,m,c,h2,h3,h4,h5⟩=>⟨h1,g,o0,len,cap,k,k',n,m,c,h2,af9 (zi h) h3,af9 (zi h) h4,h5⟩
 | .c x,v,hv=>(zi h x).rep hv
 | .ref off cells,v,hv=>VH ((Tc h cells).drop off) hv
 | .gv f caps,v,⟨vs,e,hr⟩=>⟨vs,e,hr.imp fun x _=>bn7 h x⟩
theorem OK(h:ai τ τ'):∀{c:SW}{v},gg ex τ ρ M w c v->gg ex τ' ρ M w c v
 | .one c,v,hv=>yy h hv
 | .agg cs,v,⟨vs,e,hr⟩=>⟨vs,e,hr.imp fun _ _=>yy h⟩
theorem aw1(h:ai τ τ'):∀{c:SV}{v},iu ex τ ρ M w c v->iu ex τ' ρ M w c v
 | .junk,v,hv=>trivial
 | .undef,v,hv=>hv
 | .w x,v,hv=>OK h hv
 | .tup xs,v,⟨vs,e,hr⟩=>⟨vs,e,hr.imp fun _ _=>OK h⟩
def Yp(h:ai τ τ'){cid:Nat}{ts:List (List aC)}(hc:τ[cid]?=some (.rows ts)):∃us,τ'[cid]?=some (.rows us)/\az (az aC.Sub) ts us:=by
 obtain⟨u,hu,hs⟩:=az.get h cid _ hc;cases u<;>first | exact hs.elim | skip
 exact⟨_,hu,hs⟩
def at3{ts us:List (List aC)}{sz:Nat}(h:az (az aC.Sub) ts us)(hs:∀t∈ts,t.length=sz):∀u∈us,u.length=sz:=fun u hu=>by
 obtain⟨t,ht,hr⟩:=az.mem h u hu;rw[<-hs t ht];exact(az.length hr).symm
theorem aB1(h:ai τ τ'){base b:Nat}:∀{x:Bx},ow base ex τ ρ M w b x->ow base ex τ' ρ M w b x
 | .var T cells,⟨vs,h1,h2⟩=>⟨vs,h1,h2.imp fun _ _=>yy h⟩
 | .row E sz cid,⟨ts,xs,h1,h2,h3,h4⟩=>by
   obtain⟨us,hu,hs⟩:=Yp h h1;exact⟨us,xs,hu,by rw[<-az.length hs];exact h2,at3 hs h3,h4.sub hs.flat⟩
 | .part E sz cid,⟨ts,xs,h1,h2,h3,h4,h5⟩=>by
   obtain⟨us,hu,hs⟩:=Yp h h1;exact⟨us,xs,hu,by rw[<-az.length hs];exact h2,at3 hs h3,h4.sub hs.flat,h5⟩
 | .dead,_=>trivial
end
def Sat.sub{M0:eu}{w0:World}{N:Nat}{s:St}{τ τ':Env}{ρ:Nat->Gh}{a:Act}{w:World}(h:Sat M0 w0 N s τ ρ a w)(hs:ai τ τ'):Sat M0 w0 N s τ' ρ a w:=
 ⟨h.below,h.sz,h.df,fun t=>aw1 hs (h.tm t),fun b x hb=>aB1 hs (h.bx b x hb),h.inj,h.lo,h.old,h.pt⟩
def aX.sub{P:j5}{f:FuncId}{as bs:List aQ}{out:Out}(h:aX P f bs out)(hs:ai as bs):aX P f as out:=
 ⟨h.1,fun M w vs hM hv=>h.2 M w vs hM (cC.sub hs hv)⟩
def ao.sub{P:j5}{op:Op}{ty:TypeId}{as bs:List aQ}{t:aQ}(h:ao P op ty bs t)(hs:ai as bs):ao P op ty as t:=
 fun M w ρ o h1 h2 hv=>h M w ρ o h1 h2 (cC.sub hs hv)
end Go.Sy
