/- Part. -/
import Derived.Test.YtacgmapjhpghkaaGreatDoorXg
set_option linter.all false
set_option maxHeartbeats 1000000
set_option maxRecDepth 100000
namespace Go.Sy
open Go Go.Proofs Go.RowKit Tryz Ord
def XD{α:Type}{l:List α}{p n k:Nat}(h:p+k<=n:=by omega):((l.take n).drop p).take k=(l.drop p).take k:=by
 rw[mg,jh,de O]
def an5{i L sz:Nat}(h:i<L):i*sz+sz<=L*sz:=by
 have:=cY sz (show i+1<=L from h)
 rwa[bt,ee]at this
theorem ON{sz:Nat}:∀{ts:List (List aC)}(j:Nat),(∀t∈ts,t.length=sz)->ts.flatten.take (j*sz)=(ts.take j).flatten
 | ts,0,_=>aT
 | [],j+1,_=>aT
 | t::ts,j+1,h=>by
   have ht:=h t cE;rw[gX,mS,gX,<-ON j fun u hu=>h u (cg _ hu),List.take_append,uP,ht,lW,dL O]
theorem On{sz:Nat}:∀{ts:List (List aC)}(j:Nat),(∀t∈ts,t.length=sz)->ts.flatten.drop (j*sz)=(ts.drop j).flatten
 | ts,0,_=>aT
 | [],j+1,_=>aT
 | t::ts,j+1,h=>by
   have ht:=h t cE;rw[gX,ak3,<-On j fun u hu=>h u (cg _ hu),List.drop_append,uP,ht,lW,RP O,List.nil_append]
def aD6{sz j:Nat}{ts:List (List aC)}{c:List aC}(h:∀t∈ts,t.length=sz)(hj:j<ts.length):(ts.set j c).flatten=ts.flatten.take (j*sz)++c++ts.flatten.drop ((j+1)*sz):=by
 rw[ON j h,On (j+1) h,List.set_eq_take_append_cons_drop,aF hj,lH,gX,dy]
structure oe(E sz:Nat)(ts:List (List aC))(N:c6)(W:World)(v:Value)(b:Nat):Prop where
 len:∀t∈ts,t.length=sz
 ex:∃(cap:Nat)(cur:iS),v=.slice (some ⟨b,0,none⟩) ts.length cap/\W.heap[b]?=some (.cells cur E (0,0))/\ts.length<=cap/\cap<=maxLen/\cap*sz=cur.size/\an N W ts.flatten (cur.toList.take (ts.length*sz))
section
variable{P:j5}{o:Oper}{a:Act}{E sz b j:Nat}{ts:List (List aC)}{N N' D:c6}{W W':World}{v:Value}{c:List aC}
def oe.mono(h:oe E sz ts N W v b)(hk:av N W N' W')(hb:W'.heap[b]?=W.heap[b]?):oe E sz ts N' W' v b:=by
 obtain⟨cap,cur,h1,h2,h3,h4,h5,h6⟩:=h.ex;exact⟨h.len,cap,cur,h1,hb.trans h2,h3,h4,h5,h6.mono hk⟩
def oe.at(h:oe E sz ts N W v b)(hc:ts[j]?=some c):∃(cap:Nat)(cur:iS),v=.slice (some ⟨b,0,none⟩) ts.length cap/\W.heap[b]?=some (.cells cur E (0,0))/\j*sz+sz<=cur.size/\c.length=sz/\an N W c ((cur.toList.drop (j*sz)).take sz):=by
 obtain⟨cap,cur,h1,h2,h3,h4,h5,h6⟩:=h.ex;have hm:=an5 (sz:=sz) (cL.1 hc).1;have hm2:=cY sz h3;obtain⟨g1,g2⟩:=BG h.len h6 j c hc;rw[XD hm]at g2;exact⟨cap,cur,h1,h2,O,g1,g2⟩
def oe.lt(h:oe E sz ts N W v b):b<W.heap.size:=by
 obtain⟨_,_,_,h2,_⟩:=h.ex;exact(cJ.1 h2).1
def oe.one(h:oe E sz ts N W v b):v.oneCell'=true:=by
 obtain⟨_,_,h,_⟩:=h.ex;subst h;rfl
def oe.s(h:oe E sz ts N W v b)(hN:∀k,N' k->N k)(hb:¬N' b):(aC.slice sz ts).rep N' W v:=by
 have h':=h.mono (N':=N') (W':=W) (fun k o hk ho _=>⟨fun h=>hk (hN k h),ho⟩) rfl;obtain⟨cap,cur,h1,h2,h3,h4,_⟩:=h'.ex;refine⟨_,cap,h1,h3,h4,.inr ⟨b,0,cur,E,(0,0),rfl,hb,h2,fun i t ht=>?_⟩⟩;obtain⟨cap2,cur2,_,k2,_,k4,k5⟩:=h'.at ht;rw[h2]at k2;simp only[aZ,jj,cu]at k2;subst k2;exact⟨k4,by rwa[bW]⟩
def Ac{T:Nat}{x i:j6}{es z g off L cap:Nat}{n:Int}(ho:o.op=.indexAddr T x i)(hx:a.eval x=.slice (some ⟨g,off,none⟩) L cap)(hi:a.eval i=.int .i64 n)(hf:dZ P T=some (E,es,z))(h0:0<=n/\n<(L:Int)) :
  (execOp a.eval o).run P W=.ok (.value (.pointer (some ⟨g,off+n.toNat*es,none⟩))) W:=by
 unfold dZ at hf;split at hf
 .rename_i e hu;cases hie:P.info? e with
  | none=>simp[hie]at hf
  | some ie=>
    simp only[hie,cZ,aZ,cX]at hf;obtain⟨rfl,rfl,_⟩:=hf;simp[execOp,ho,hx,hi,Instr.indexAt,asIntOf,er hu,Instr.sureAddr,sizeOf,typeInfo,hie,h0,lO]
 .cases hf
def ak6{T:Nat}{x:j6}(ho:o.op=.load T x)(hx:a.eval x=.pointer (some ⟨b,j*sz,none⟩))(h:oe E sz ts D W v b)(hc:ts[j]?=some c)(hag:mF P T=some (true,sz)) :
  ∃u,(execOp a.eval o).run P W=.ok (.value u) W/\(aQ.agg c).rep D W u:=by
 obtain⟨cap,cur,_,hb,hle,_,hr⟩:=h.at hc;obtain⟨u,hu,hv⟩:=ff (w:=W) hag hb (off:=j*sz) hle (.inl rfl);rw[aF rfl]at hv;exact⟨u,nB ho hx hu,_,hv,hr⟩
def bn8{T:Nat}{x y:j6}(ho:o.op=.store T x y)(hx:a.eval x=.pointer (some ⟨b,j*sz,none⟩))(h:oe E sz ts D W v b)(hD:D b)(hj:j<ts.length)(hcl:c.length=sz)(hag:mF P T=some (true,sz))(hy:(aQ.agg c).rep D W (a.eval y)) :
  ∃w',(execOp a.eval o).run P W=.ok .skip w'/\W.grownBy w' (some b)/\oe E sz (ts.set j c) D w' v b:=by
 obtain⟨cap,cur,rfl,hb,h3,h4,hcap,hr⟩:=h.ex;obtain⟨us,hu,hur⟩:=hy;have hul:us.length=sz:=by have:=hur.length;omega
 have hm:=an5 (sz:=sz) hj;have hm2:=cY sz h3;have hst:=kK (w:=W) hag hb (off:=j*sz) (v:=a.eval y) (by rw[hu];simpa[Value.cells]using hul) (by rw[hu];simpa[Value.cells]using hur.one);have hcells:(a.eval y).cells.toList=us:=by rw[hu];simp[Value.cells]
 rw[hcells]at hst;obtain⟨cs',hcs⟩:∃cs',cs'=(cur.toList.take (j*sz)++us++cur.toList.drop (j*sz+sz)).toArray:=⟨_,rfl⟩
 rw[<-hcs]at hst
 have hsize:cs'.size=cur.size:=by
  rw[hcs];simp only[cq,cF,bh,dF,cK];omega
 have hk:av D W D (W.setRow b cs'):=fun k q hk hq _=>⟨hk,by rw[ew W b k cs' (fun e=>hk (e▸hD))];exact hq⟩
 refine⟨W.setRow b cs',oF ho hx hst,⟨rfl,rfl,rfl,by simp[World.setRow],fun k _ hne=>ew W b k cs' fun e=>hne (e▸rfl)⟩,fun t ht=>?_,cap,cs',by rw[al],iV W b cur cs' E (0,0) hb,by rw[al];exact h3,h4,by rw[hsize];exact hcap,?_⟩
 .rcases pU ht with h' | h'
  .exact h.len t h'
  .rw[h'];exact hcl
 .have e2:cs'.toList.take (ts.length*sz)=(cur.toList.take (ts.length*sz)).take (j*sz)++us++(cur.toList.take (ts.length*sz)).drop (j*sz+sz):=by
   have hl:(cur.toList.take (j*sz)++us).length=j*sz+sz:=by rw[cF,bh,cK,hul];omega
   rw[hcs];show List.take _ (_++us++_)=_;rw[List.take_append,dL O,hl,jh,de O,mg]
  rw[al,aD6 h.len hj,e2,uP];exact((hr.take (j*sz)).append hur |>.append (hr.drop (j*sz+sz))).mono hk
end
def ad8{α:Type}{l:List α}{j:Nat}{x:α}(h:l[j]?=some x):(l.drop j).take 1=[x]:=by
 obtain⟨hlt,hv⟩:=cL.1 h;rw[jW hlt,hv];rfl
def vM{r:List RQ}{j:Nat}(h:j<r.length):r[j]?=some (r.getD j RQ.nil):=by rw[fI,bM h];rfl
def by4{r:List RQ}{j:Nat}(h:j<r.length):(rR r)[j]?=some (rC (r.getD j RQ.nil)):=by rw[dR,vM h];rfl
structure Tb(D:c6)(va:Value)(m:Nat)(vs:j0)(bs:c7)(rk:List (List RQ))(W:World):Prop where
 own:W.ownsRow 0 32 1 va m vs
 lr:rk.length=m
 lb:bs.length=m
 inj:∀(i j b:Nat),bs[i]?=some b->bs[j]?=some b->i=j
 row:∀(j:Nat)(v:Value)(b:Nat)(r:List RQ),vs[j]?=some v->bs[j]?=some b->rk[j]?=some r->oe 51 4 (rR r) D W v b
 db:∀b∈bs,D b
 dg:∀g,va.ownBlock=some g->D g/\g ∉ bs
section
variable{D N:c6}{va:Value}{m:Nat}{vs:j0}{bs:c7}{rk:List (List RQ)}{W W':World}{o:Oper}{a:Act}
def Tb.lv(h:Tb D va m vs bs rk W):vs.length=m:=by have:=h.own.1;omega
structure aa4(D:c6)(va:Value)(m:Nat)(bs:c7)(W:World)(j:Nat)(g cap b:Nat)(v:Value)(r:List RQ):Prop where
 e:va=.slice (some ⟨g,0,none⟩) m cap
 c:∃cur:Array Value,W.heap[g]?=some (.cells cur 32 (0,0))/\j+1<=cur.size/\(cur.toList.drop j).take 1=[v]
 row:oe 51 4 (rR r) D W v b
 db:D b
 dg:D g
 ng:g≠b
def Tb.at(h:Tb D va m vs bs rk W){j:Nat}(hj:j<m):∃g cap b v r,vs[j]?=some v/\bs[j]?=some b/\rk[j]?=some r/\aa4 D va m bs W j g cap b v r:=by
 have h1:=h.lv;have h2:=h.lb;have h3:=h.lr;have e1:vs[j]?=some (vs[j]' O):=bM O;have e2:bs[j]?=some (bs[j]' O):=bM O;have e3:rk[j]?=some (rk[j]' O):=bM O;rcases h.own.2 with⟨_,h0⟩ | ⟨g,cap,cur,e,_,hc,hn,hm,hcs,ht⟩
 .omega
 have hd:=h.dg g (by rw[e];rfl);refine⟨g,cap,_,_,_,e1,e2,e3,e,⟨cur,hc,O,?_⟩,h.row j _ _ _ e1 e2 e3,h.db _ (dc e2),hd.1,fun e=>hd.2 (e▸dc e2)⟩;rw[eG]at ht;rw[<-XD (n:=m),ht];exact ad8 e1
def Tb.dJ(h:Tb D va m vs bs rk W)(hk:av D W N W')(hN:∀k,(k∈bs\/va.ownBlock=some k)->N k/\W'.heap[k]?=W.heap[k]?):Tb N va m vs bs rk W':=by
 refine⟨⟨h.own.1,?_⟩,h.lr,h.lb,h.inj,fun j v b r h1 h2 h3=>(h.row j v b r h1 h2 h3).mono hk (hN b (.inl (dc h2))).2,fun b hb=>(hN b (.inl hb)).1,fun g hg=>⟨(hN g (.inr hg)).1,(h.dg g hg).2⟩⟩;rcases h.own.2 with hn | ⟨g,cap,cur,e,hbg,hg,rest⟩
 .exact .inl hn
 .exact .inr ⟨g,cap,cur,e,hbg,(hN g (.inr (by rw[e];rfl))).2.trans hg,rest⟩
def Tb.lt(h:Tb D va m vs bs rk W){k:Nat}(hk:k∈bs\/va.ownBlock=some k):k<W.heap.size:=by
 rcases hk with hk | hk
 .obtain⟨j,hj⟩:=kJ hk;have:=(cL.1 hj).1;have h1:=h.lv;have h2:=h.lb;have h3:=h.lr;exact(h.row j _ k _ (bM (show j<vs.length by omega)) hj (bM (show j<rk.length by omega))).lt
 .exact(h.own.lt k hk).2
def Tb.below(h:Tb D va m vs bs rk W)(hb:Below W.heap.size W W'):Tb D va m vs bs rk W':=
 h.dJ (av.below hb) fun k hk=>⟨hk.elim (h.db k) fun h'=>(h.dg k h').1,hb.block k (h.lt hk)⟩
def Tb.set(h:Tb D va m vs bs rk W)(hF:bf D W){i b:Nat}{v:Value}{r:List RQ}(hv:vs[i]?=some v)(hb:bs[i]?=some b)(hg:W.grownBy W' (some b))(hr:oe 51 4 (rR r) D W' v b):Tb D va m vs bs (rk.set i r) W':=by
 have hbm:=dc hb;have hDb:=h.db b hbm;have hk:av D W D W':=fun k o hk ho _=>⟨hk,(hg.block k (cJ.1 ho).1 fun e=>hk (cI e▸hDb)).trans ho⟩
 have hs:∀k,D k->k≠b->W'.heap[k]?=W.heap[k]?:=fun k hk hne=>hg.block k (hF.1 k hk) fun e=>hne (cI e);have hlr:=h.lr;have hlb:=h.lb;have hib:=(cL.1 hb).1;refine⟨⟨h.own.1,?_⟩,by rw[al];exact hlr,hlb,h.inj,fun j v' b' r' h1 h2 h3=>?_,h.db,h.dg⟩
 .rcases h.own.2 with hn | ⟨g,cap,cur,e,hbg,hgc,rest⟩
  .exact .inl hn
  .have hd:=h.dg g (by rw[e];rfl);exact .inr ⟨g,cap,cur,e,hbg,(hs g hd.1 fun e=>hd.2 (e▸hbm)).trans hgc,rest⟩
 .by_cases e:j=i
  .subst e;rw[hv]at h1;cases h1;rw[hb]at h2;cases h2;rw[lj O]at h3;cases h3;exact hr
  .rw[np (jg e)]at h3;exact(h.row j v' b' r' h1 h2 h3).mono hk (hs b' (h.db b' (dc h2)) fun e'=>e (h.inj j i b (e'▸h2) hb))
def Tb.eR(h:Tb D va m vs bs rk W)(hN:∀k,N k->D k)(hn:∀k,(k∈bs\/va.ownBlock=some k)->¬N k):(eR rk).rep N W va:=by
 have h1:=h.lv;have h3:=h.lr;rcases h.own.2 with⟨rfl,h0⟩ | ⟨g,cap,cur,e,_,hc,hnc,hm,hcs,ht⟩
 .have:rk=[]:=ep O;subst this;exact⟨none,0,rfl,ah _,bY,.inl rfl⟩
 subst e;refine⟨_,cap,by rw[aL,h3],by rw[aL];omega,hm,.inr ⟨g,0,cur,_,_,rfl,hn g (.inr rfl),hc,fun i t ht'=>?_⟩⟩;rw[dR,yM]at ht';obtain⟨r,hr,rfl⟩:=ht';have hi:i<m:=by have:=(cL.1 hr).1;omega
 obtain⟨g',cap',b,v,r',hv,hbb,hr',hat⟩:=h.at hi;rw[hr]at hr';cases hr';obtain⟨cur',hc',_,hv'⟩:=hat.c;have he:=hat.e;simp only[jB,aZ,gm,cu,mQ]at he;obtain⟨rfl,rfl⟩:=he;rw[hc]at hc';simp only[aZ,jj,cu]at hc';subst hc';refine⟨rfl,?_⟩;rw[bW,eG,hv'];exact⟨hat.row.s hN (hn b (.inl (dc hbb))),trivial⟩
end
def aa4.addr{D:c6}{va:Value}{m:Nat}{bs:c7}{W:World}{j g cap b:Nat}{v:Value}{r:List RQ}{o:Oper}{a:Act}(h:aa4 D va m bs W j g cap b v r){x i:j6}(ho:o.op=.indexAddr 177 x i)(hx:a.eval x=va)(hi:a.eval i=.int .i64 (j:Int))(hj:j<m):(execOp a.eval o).run prog W=.ok (.value (.pointer (some ⟨g,j,none⟩))) W:=by
 have:=Ac (P:=prog) (W:=W) ho (hx.trans h.e) hi vC ⟨O,O⟩
 rwa[bI,eG,bW]at this
def aa4.load{D:c6}{va:Value}{m:Nat}{bs:c7}{W:World}{j g cap b:Nat}{v:Value}{r:List RQ}{o:Oper}{a:Act}(h:aa4 D va m bs W j g cap b v r){x:j6}(ho:o.op=.load 32 x)(hx:a.eval x=.pointer (some ⟨g,j,none⟩)):(execOp a.eval o).run prog W=.ok (.value v) W:=by
 obtain⟨cur,hc,hl,hv⟩:=h.c;obtain⟨u,hu,he⟩:=ff (P:=prog) (w:=W) (show mF prog 32=some (false,1) by kernel_rfl) hc (off:=j) hl (.inr rfl);simp only[eN,ck]at he;rw[hv]at he;cases he;exact nB ho hx hu
def oe.addr{D:c6}{W:World}{j b:Nat}{v:Value}{ts:List (List aC)}{o:Oper}{a:Act}(h:oe 51 4 ts D W v b){x i:j6}(ho:o.op=.indexAddr 32 x i)(hx:a.eval x=v)(hi:a.eval i=.int .i64 (j:Int))(hj:j<ts.length):(execOp a.eval o).run prog W=.ok (.value (.pointer (some ⟨b,j*4,none⟩))) W:=by
 obtain⟨cap,_,hv,_⟩:=h.ex;have:=Ac (P:=prog) (W:=W) ho (hx.trans hv) hi jK ⟨O,O⟩
 rwa[bI,bW]at this
abbrev Ps:=Nat->(Nat->Bool)->World->Value->Prop
structure PG(B:(Nat->Bool)->Act->World->Prop)(p:Ps)(ds:c7)(N:Nat)(a1:Act)(L:c9)(a:Act)(W:World):Prop where
 sz:a.tmps.size=N
 df:a.defers=[]
 w:B L a W
 dJ:∀t,t ∉ ds->a.tmps.getD t undef=a1.tmps.getD t undef
 done:∀i d,ds[i]?=some d->L i=true->p i L W (a.tmps.getD d undef)
def PG.put{B:(Nat->Bool)->Act->World->Prop}{p:Ps}{ds:c7}{N:Nat}{a1 a:Act}{W W':World}{L:c9}(I:PG B p ds N a1 L a W){i d:Nat}{v:Value}(h:ds[i]?=some d)(hd:d<N)(hn:ds.Nodup)(hL:L i=false)(hb:B (Lx L i) (a.put (some d) v) W')(hp:p i (Lx L i) W' v)(hs:∀j u,j≠i->L j=true->p j L W u->p j (Lx L i) W' u):PG B p ds N a1 (Lx L i) (a.put (some d) v) W':=by
 have hg:∀d',(a.put (some d) v).tmps.getD d' undef=if d'=d then v else a.tmps.getD d' undef:=fun d'=>oQ (by rw[I.sz];omega)
 refine⟨by show(a.tmps.setIfInBounds d v).size=N;rw[ue];exact I.sz,I.df,hb,fun t ht=>?_,fun j e hj hLj=>?_⟩
 .rw[hg,aG fun(e:t=d)=>ht (e▸dc h)];exact I.dJ t ht
 .rw[hg];by_cases hji:j=i
  .subst hji;rw[h]at hj;cases hj;rw[aF rfl];exact hp
  .rw[aG fun e'=>hji ((List.getElem?_inj (cL.1 hj).1 hn).1 (by rw[hj,h,e']))];exact hs j _ hji (nP hLj hji) (I.done j e hj (nP hLj hji))
def Xw(ops:j8)(ds:c7)(N:Nat):Bool:=
 (List.range (ds.length+1)).all (fun i=>match ops[i]? with | some o=>o.guard.isNone&&((bQ o).all (fun j=>decide (j<i))&&(if i=ds.length then(List.range ds.length).all (fun j=>(bQ o).contains j)else o.dst==ds[i]?)) | none=>false)&&(ops.length==ds.length+1&&(decide ds.Nodup&&ds.all (fun d=>decide (d<N))))
def wB{id N:Nat}{ops:j7}{ds:c7}{B:(Nat->Bool)->Act->World->Prop}{p:Ps}{a1:Act}{W1:World}{Q:iN}(hok:Xw ops.toList ds N=true)(hsz:a1.tmps.size=N)(hdf:a1.defers=[])(hB:∀L,(∀i,L i=false)->B L a1 { W1 with drawn:=W1.drawn+1 })
  (step:∀(i d:Nat)(o:Oper)(L:c9)(a:Act)(W:World),ops[i]?=some o->ds[i]?=some d->L i=false->(∀j∈bQ o,L j=true)->PG B p ds N a1 L a W->∀K:Act->World->Prop,(∀v W',B (Lx L i) (a.put o.dst v) W'->p i (Lx L i) W' v->(∀j u,j≠i->L j=true->p j L W u->p j (Lx L i) W' u)->K (a.put o.dst v) W')->o.wp prog a W K Q)
  (last:∀(o:Oper)(L:c9)(a:Act)(W:World),ops[ds.length]?=some o->(∀j,j<ds.length->L j=true)->PG B p ds N a1 L a W->o.wp prog a W (Q .normal) Q):(Code.region id ops true).wp prog Q a1 W1:=by
 unfold Xw at hok;simp only[bR,eH,jr,fS,fO,cK]at hok;obtain⟨h1,h2,h3,h4⟩:=hok
 have hop:∀i o,ops[i]?=some o->o.guard=none/\(∀j∈bQ o,j<i)/\(i=ds.length->∀j,j<ds.length->j∈bQ o)/\(i≠ds.length->o.dst=ds[i]?):=fun i o ho=>by
  have hi:=(cJ.1 ho).1;have:=h1 i O;rw[kU,ho]at this;dsimp only at this;rw[bR,bR]at this;obtain⟨k1,k2,k3⟩:=this;refine⟨by simpa using k1,by simpa using k2,fun e=>?_,fun e=>?_⟩
  .rw[aF e]at k3;simpa using k3
  .rw[aG e]at k3;simpa using k3
 refine BD fo ?_;refine wE (fun L a W=>(L ds.length=false/\PG B p ds N a1 L a W)\/(L ds.length=true/\Q .normal a W)) ?_ (fun i o ho=>(hop i o ho).2.1) ?_ _ _ _ _ aT ?_ (bG (uT _ _) aT) ?_
 .intro L i o a W ho hL hdep hcl hI;have hi:=(cJ.1 ho).1;obtain⟨hg,hlt,hlast,hds⟩:=hop i o ho
  have hnf:L ds.length=false:=by
   cases hf:L ds.length with
   | false=>rfl
   | true=>
     by_cases e:i=ds.length
     .subst e;rw[hL]at hf;cases hf
     .obtain⟨oL,hoL⟩:∃oL,ops[ds.length]?=some oL:=⟨_,ra O⟩
      rw[hcl _ oL hoL hf i ((hop _ oL hoL).2.2.1 rfl i O)]at hL;cases hL
  have I:=(hI.resolve_right fun h=>by rw[hnf]at h;cases h.1).2;refine dY ho hg ?_;by_cases e:i=ds.length
  .subst e;exact Oper.wp_mono (fun a' W' h=>.inr ⟨aT,h⟩) (last o L a W ho (fun j hj=>hdep j (hlast rfl j hj)) I)
  .obtain⟨d,hd⟩:∃d,ds[i]?=some d:=⟨_,bM O⟩
   refine step i d o L a W ho hd hL hdep I _ fun v W' hbw hv hs=>.inl ⟨?_,?_⟩
   .have:(ds.length==i)=false:=by simpa using jg e
    simp[hnf,this]
   .rw[hds e,hd]at hbw|-;exact I.put hd (h4 d (dc hd)) h3 hL hbw hv hs
 .rintro L a W hall (⟨h,_⟩ | ⟨_,h⟩)
  .rw[hall ds.length O]at h;cases h
  .exact h
 .intro j o' ho hj;rw[ia]at hj;cases hj
 .refine .inl ⟨ia _ _,hsz,hdf,hB _ (ia _),fun t _=>rfl,fun i d _ hL=>?_⟩;rw[ia]at hL;cases hL
def mB{l:j7}{i:Nat}{o o':Oper}(h:l[i]?=some o)(h':l[i]?=some o'):o=o':=cI (h.symm.trans h')
def ag4:mF prog 51=some (true,4):=aS
abbrev xP(b o:Nat):aQ:=.one (.exact (.pointer (some ⟨b,o,none⟩)))
abbrev xT(v:Value):aQ:=.one (.exact v)
abbrev xI(k:Nat):aQ:=.one (.int .i64 (k:Int))
def pS(D:c6)(cs:List aQ):Ps:=fun i _ W v=>∀c,cs[i]?=some c->c.rep D W v
section
variable{B:(Nat->Bool)->Act->World->Prop}{D:c6}{cs:List aQ}{i:Nat}{c:aQ}{L:c9}{a:Act}{o:Oper}{W W' W1:World}{v:Value}{K:j4}{Q:iN}
abbrev Kn(B:(Nat->Bool)->Act->World->Prop)(D:c6)(cs:List aQ)(i:Nat)(L:c9)(a:Act)(o:Oper)(W:World)(K:j4):Prop:=∀v W',B (Lx L i) (a.put o.dst v) W'->pS D cs i (Lx L i) W' v->(∀j u,j≠i->L j=true->pS D cs j L W u->pS D cs j (Lx L i) W' u)->K (a.put o.dst v) W'
def aa0(hK:Kn B D cs i L a o W K)(hB:B (Lx L i) (a.put o.dst v) W')(hb:Below W.heap.size W W')(hv:∀c,cs[i]?=some c->c.rep D W' v):K (a.put o.dst v) W':=
 hK v W' hB hv fun j u _ _ h c' hc'=>aQ.hU (av.below hb) (h c' hc')
def aE0(hK:Kn B D cs i L a o W K)(hB:B (Lx L i) (a.put o.dst v) W)(hc:cs[i]?=some c)(hr:(execOp a.eval o).run prog W=.ok (.value v) W)(hv:c.rep D W v):o.wp prog a W K Q:=
 bF hr (aa0 hK hB (cS _ _) fun c' h=>by rw[hc]at h;cases h;exact hv)
def To{N:c6}{f:FuncId}{args:List aQ}{cl:Call}{x:j6}(hK:Kn B D cs i L a o W K)(hB:∀v W',Below W.heap.size W W'->c.rep N W' v->B (Lx L i) (a.put o.dst v) W')(hc:∀v W',c.rep N W' v->∀c',cs[i]?=some c'->c'.rep D W' v)(hd:aX prog f args (.ret [c]))(ho:o.op=.call cl)(hcl:cl.callee=.value x)(hx:a.eval x=.func (.func f) #[] #[])(hF:bf N W)(hr:cC N W args (cl.args.toList.map a.eval)):o.wp prog a W K Q:=by
 refine qt (cvs:=[]) ho hcl hx hd.1 (by rw[cB];exact hd.2 N W _ hF hr) ?_;rintro e w' ⟨hb,vs,rfl,hrep⟩
 match vs,hrep with
 | [v],hrep=>exact⟨v,rfl,aa0 hK (hB v w' hb hrep.1) hb (hc v w' hrep.1)⟩
 | [],h=>exact h.elim
 | _::_::_,h=>exact h.2.elim
def Tb.upd{va:Value}{m:Nat}{vs:j0}{bs:c7}{rk:List (List RQ)}{j g cap b:Nat}{r:List RQ}(h:Tb D va m vs bs rk W')(t:aa4 D va m bs W j g cap b v r)(hv:vs[j]?=some v)(hb:bs[j]?=some b)(hr:rk[j]?=some r):aa4 D va m bs W' j g cap b v r:=by
 have hj:j<m:=by have:=h.lr;have:=(cL.1 hr).1;omega
 obtain⟨g2,cap2,b2,v2,r2,k1,k2,k3,k4⟩:=h.at hj;rw[hv]at k1;cases k1;rw[hb]at k2;cases k2;rw[hr]at k3;cases k3;have:=t.e.symm.trans k4.e;simp only[jB,aZ,gm,cu,mQ]at this;obtain⟨rfl,rfl⟩:=this;exact k4
end
noncomputable def eT:Array Oper:=match aH [1,1,1,1,0,1,0,0,1,0,0,1,1,1,1,1,0,0,1,0,0,1,1,1,0,0,1,0,0] (aM f128)with
 | .region _ ops _=>ops
 | _=>#[]
def bu5:List Nat:=List.range' 116 23
def bT6:Xw eT.toList bu5 163=true:=aS
def Zf{D:c6}{va:Value}{m:Nat}{vs:j0}{bs:c7}{rk:List (List RQ)}{W1:World}{a1:Act}{Q:iN}{i j k A B:Nat}{r p:List RQ}{f:Rat}(hF:bf D W1)(T:Tb D va m vs bs rk W1)(hr:rk[i]?=some r)(hp:rk[k]?=some p)(hjr:j<r.length)(hjp:j<p.length)
  (hfr:Fit A (r.getD j RQ.nil).q) (hfp:Fit A (p.getD j RQ.nil).q) (hff:Fit B f) (hAB:B+A+A<=4294967296) (hsz:a1.tmps.size=163) (hdf:a1.defers=[]) (t7:a1.tmps.getD 7 undef=va) (t9:a1.tmps.getD 9 undef=.int .i64 (k:Int)) (t11:a1.tmps.getD 11 undef=.int .i64 (i:Int)) (t13:a1.tmps.getD 13 undef=.int .i64 (j:Int)) (t12:(aC.aw (rC (.of f))).rep D W1 (a1.tmps.getD 12 undef))
  (hQ:∀(a':Act)(W2:World)(b:Nat),a'.tmps.size=163->a'.defers=[]->(∀t,t<116->a'.tmps.getD t undef=a1.tmps.getD t undef)->b∈bs->W1.grownBy W2 (some b)->bf D W2->Tb D va m vs bs (rk.set i (r.set j (.of ((r.getD j RQ.nil).q-f*(p.getD j RQ.nil).q)))) W2->Q .normal a' W2):(Code.region 24 eT true).wp prog Q a1 W1:=by
 have hlr:=T.lr;have hi:i<m:=by have:=(cL.1 hr).1;omega
 have hk:k<m:=by have:=(cL.1 hp).1;omega
 obtain⟨g,cap,b,v,r',hv,hb,hr',Ti⟩:=T.at hi;obtain⟨g',cap',bk,u,p',hu,hbk,hp',Tk⟩:=T.at hk;rw[hr]at hr';cases hr';rw[hp]at hp';cases hp';have eg:g'=g:=by have:=Ti.e.symm.trans Tk.e;simp only[jB,aZ,gm,cu,mQ]at this;exact this.1.symm
 subst eg;obtain⟨cs,hcs⟩:∃cs:List aQ,cs=[xT va,xI i,xP g' i,xT v,xI j,xT va,xI i,xP g' i,xT v,xI j,xP b (j*4),jl (r.getD j RQ.nil),jl (.of f),xT va,xI k,xP g' k,xT u,xI j,xP bk (j*4),jl (p.getD j RQ.nil),jl (.of (f*(p.getD j RQ.nil).q)),jl (.of ((r.getD j RQ.nil).q-f*(p.getD j RQ.nil).q)),xP b (j*4)]:=⟨_,rfl⟩
 have hva:va.oneCell'=true:=by rw[Ti.e];rfl
 have hjr':j<(rR r).length:=by rw[aL];exact hjr
 have hjp':j<(rR p).length:=by rw[aL];exact hjp
 have hlow:∀t,t<116->t ∉ bu5:=fun t ht h=>by have:=UD.1 h;omega
 refine wB (B:=fun _ _ W=>Below W1.heap.size W1 W) (p:=pS D cs) bT6 hsz hdf (fun _ _=>⟨rfl,rfl,rfl,ah _,fun _ _=>rfl⟩) ?_ ?_
 .intro q d o L a W ho hd hL hdep I K hK;have hq:q<23:=(cL.1 hd).1;have T':=T.below I.w;have hF':=aW hF I.w;have hkv:=T'.row i v b r hv hb hr;have hku:=T'.row k u bk p hu hbk hp;have Ti':=T'.upd Ti hv hb hr;have Tk':=T'.upd Tk hu hbk hp;have kp:∀t,t<116->a.tmps.getD t undef=a1.tmps.getD t undef:=fun t ht=>I.dJ t (hlow t ht);have vx:∀{j d:Nat}{c:aQ},bu5[j]?=some d->cs[j]?=some c->j∈bQ o->c.rep D W (a.tmps.getD d undef):=fun {j d c} h1 h2 h3=>I.done j d h1 (hdep j h3) c h2;have go:∀{c:aQ}{v:Value},cs[q]?=some c->(execOp a.eval o).run prog W=.ok (.value v) W->c.rep D W v->o.wp prog a W K Q:=fun hc hr hv=>aE0 (B:=fun _ _ W=>Below W1.heap.size W1 W) (D:=D) (cs:=cs) (i:=q) (L:=L) hK I.w hc hr hv;have goc:∀{f:FuncId}{args:List aQ}{c:aQ}{cl:Call}{x:j6},cs[q]?=some c->aX prog f args (.ret [c])->o.op=.call cl->cl.callee=.value x->a.eval x=.func (.func f) #[] #[]->cC D W args (cl.args.toList.map a.eval)->o.wp prog a W K Q:=fun hc hd ho hcl hx hr=>To (B:=fun _ _ W=>Below W1.heap.size W1 W) (D:=D) (cs:=cs) (i:=q) (L:=L) hK (fun _ _ hb _=>I.w.trans (hb.mono I.w.size)) (fun v W' hv c' h=>by rw[hc]at h;cases h;exact hv) hd ho hcl hx hF' hr
  have gel:∀{b j:Nat}{v:Value}{r:List RQ}{x:j6},o.op=.load 51 x->a.eval x=.pointer (some ⟨b,j*4,none⟩)->oe 51 4 (rR r) D W v b->j<r.length->cs[q]?=some (jl (r.getD j RQ.nil))->o.wp prog a W K Q:=fun h1 h2 h3 h4 h5=>by
   obtain⟨x,hx,hxr⟩:=ak6 h1 h2 h3 (by4 h4) ag4;exact go h5 hx hxr
  have gld:o.op=.load 51 (.tmp 12)->cs[q]?=some (jl (.of f))->o.wp prog a W K Q:=fun h1 h2=>by
   have h12:(aC.aw (rC (.of f))).rep D W (a.tmps.getD 12 undef):=by rw[kp 12 O];exact aC.mono _ (av.below I.w) t12
   obtain⟨x,hx,hxr⟩:=ab (x:=.tmp 12) (ty:=o.type) (cells:=rC (.of f)) ag4 bY (ah _) (.inl rfl) D W a.eval o h1 rfl ⟨h12,trivial⟩;exact go h2 hx hxr
  match q,hq with
  | 0,_=>
    obtain rfl:=mB ho (rfl:eT[0]?=some _);exact go (c:=xT va) (by rw[hcs];rfl) rfl ⟨(kp 7 O).trans t7,hva⟩
  | 1,_=>
    obtain rfl:=mB ho (rfl:eT[1]?=some _);exact go (c:=xI i) (by rw[hcs];rfl) rfl ⟨(kp 11 O).trans t11,rfl⟩
  | 2,_=>
    obtain rfl:=mB ho (rfl:eT[2]?=some _);exact go (c:=xP g' i) (by rw[hcs];rfl) (Ti'.addr rfl (vx (j:=0) (c:=xT va) rfl (by rw[hcs];rfl) bY).1 (vx (j:=1) (c:=xI i) rfl (by rw[hcs];rfl) bY).1 hi) ⟨rfl,rfl⟩
  | 3,_=>
    obtain rfl:=mB ho (rfl:eT[3]?=some _);exact go (c:=xT v) (by rw[hcs];rfl) (Ti'.load rfl (vx (j:=2) (c:=xP g' i) rfl (by rw[hcs];rfl) bY).1) ⟨rfl,hkv.one⟩
  | 4,_=>
    obtain rfl:=mB ho (rfl:eT[4]?=some _);exact go (c:=xI j) (by rw[hcs];rfl) rfl ⟨(kp 13 O).trans t13,rfl⟩
  | 5,_=>
    obtain rfl:=mB ho (rfl:eT[5]?=some _);exact go (c:=xT va) (by rw[hcs];rfl) rfl ⟨(kp 7 O).trans t7,hva⟩
  | 6,_=>
    obtain rfl:=mB ho (rfl:eT[6]?=some _);exact go (c:=xI i) (by rw[hcs];rfl) rfl ⟨(kp 11 O).trans t11,rfl⟩
  | 7,_=>
    obtain rfl:=mB ho (rfl:eT[7]?=some _);exact go (c:=xP g' i) (by rw[hcs];rfl) (Ti'.addr rfl (vx (j:=5) (c:=xT va) rfl (by rw[hcs];rfl) bY).1 (vx (j:=6) (c:=xI i) rfl (by rw[hcs];rfl) bY).1 hi) ⟨rfl,rfl⟩
  | 8,_=>
    obtain rfl:=mB ho (rfl:eT[8]?=some _);exact go (c:=xT v) (by rw[hcs];rfl) (Ti'.load rfl (vx (j:=7) (c:=xP g' i) rfl (by rw[hcs];rfl) bY).1) ⟨rfl,hkv.one⟩
  | 9,_=>
    obtain rfl:=mB ho (rfl:eT[9]?=some _);exact go (c:=xI j) (by rw[hcs];rfl) rfl ⟨(kp 13 O).trans t13,rfl⟩
  | 10,_=>
    obtain rfl:=mB ho (rfl:eT[10]?=some _);exact go (c:=xP b (j*4)) (by rw[hcs];rfl) (hkv.addr rfl (vx (j:=8) (c:=xT v) rfl (by rw[hcs];rfl) bY).1 (vx (j:=9) (c:=xI j) rfl (by rw[hcs];rfl) bY).1 hjr') ⟨rfl,rfl⟩
  | 11,_=>
    obtain rfl:=mB ho (rfl:eT[11]?=some _);exact gel rfl (vx (j:=10) (c:=xP b (j*4)) rfl (by rw[hcs];rfl) bY).1 hkv hjr (by rw[hcs];rfl)
  | 12,_=>
    obtain rfl:=mB ho (rfl:eT[12]?=some _);exact gld rfl (by rw[hcs];rfl)
  | 13,_=>
    obtain rfl:=mB ho (rfl:eT[13]?=some _);exact go (c:=xT va) (by rw[hcs];rfl) rfl ⟨(kp 7 O).trans t7,hva⟩
  | 14,_=>
    obtain rfl:=mB ho (rfl:eT[14]?=some _);exact go (c:=xI k) (by rw[hcs];rfl) rfl ⟨(kp 9 O).trans t9,rfl⟩
  | 15,_=>
    obtain rfl:=mB ho (rfl:eT[15]?=some _);exact go (c:=xP g' k) (by rw[hcs];rfl) (Tk'.addr rfl (vx (j:=13) (c:=xT va) rfl (by rw[hcs];rfl) bY).1 (vx (j:=14) (c:=xI k) rfl (by rw[hcs];rfl) bY).1 hk) ⟨rfl,rfl⟩
  | 16,_=>
    obtain rfl:=mB ho (rfl:eT[16]?=some _);exact go (c:=xT u) (by rw[hcs];rfl) (Tk'.load rfl (vx (j:=15) (c:=xP g' k) rfl (by rw[hcs];rfl) bY).1) ⟨rfl,hku.one⟩
  | 17,_=>
    obtain rfl:=mB ho (rfl:eT[17]?=some _);exact go (c:=xI j) (by rw[hcs];rfl) rfl ⟨(kp 13 O).trans t13,rfl⟩
  | 18,_=>
    obtain rfl:=mB ho (rfl:eT[18]?=some _);exact go (c:=xP bk (j*4)) (by rw[hcs];rfl) (hku.addr rfl (vx (j:=16) (c:=xT u) rfl (by rw[hcs];rfl) bY).1 (vx (j:=17) (c:=xI j) rfl (by rw[hcs];rfl) bY).1 hjp') ⟨rfl,rfl⟩
  | 19,_=>
    obtain rfl:=mB ho (rfl:eT[19]?=some _);exact gel rfl (vx (j:=18) (c:=xP bk (j*4)) rfl (by rw[hcs];rfl) bY).1 hku hjp (by rw[hcs];rfl)
  | 20,_=>
    obtain rfl:=mB ho (rfl:eT[20]?=some _);exact goc (c:=jl (.of (f*(p.getD j RQ.nil).q))) (by rw[hcs];rfl) (zO (.of f) (p.getD j RQ.nil) B A hff hfp) rfl rfl rfl ⟨(vx (j:=12) (c:=jl (.of f)) rfl (by rw[hcs];rfl) bY),(vx (j:=19) (c:=jl (p.getD j RQ.nil)) rfl (by rw[hcs];rfl) bY),trivial⟩
  | 21,_=>
    obtain rfl:=mB ho (rfl:eT[21]?=some _);exact goc (c:=jl (.of ((r.getD j RQ.nil).q-f*(p.getD j RQ.nil).q))) (by rw[hcs];rfl) (bO8 (r.getD j RQ.nil) (.of (f*(p.getD j RQ.nil).q)) A (B+A) hfr (hff.mul hfp)) rfl rfl rfl ⟨(vx (j:=11) (c:=jl (r.getD j RQ.nil)) rfl (by rw[hcs];rfl) bY),(vx (j:=20) (c:=jl (.of (f*(p.getD j RQ.nil).q))) rfl (by rw[hcs];rfl) bY),trivial⟩
  | 22,_=>
    obtain rfl:=mB ho (rfl:eT[22]?=some _);exact go (c:=xP b (j*4)) (by rw[hcs];rfl) (hkv.addr rfl (vx (j:=3) (c:=xT v) rfl (by rw[hcs];rfl) bY).1 (vx (j:=4) (c:=xI j) rfl (by rw[hcs];rfl) bY).1 hjr') ⟨rfl,rfl⟩
 .intro o L a W ho hall I;have T':=T.below I.w;have hF':=aW hF I.w;have vx:∀{j d:Nat}{c:aQ},bu5[j]?=some d->cs[j]?=some c->c.rep D W (a.tmps.getD d undef):=fun {j d c} h1 h2=>I.done j d h1 (hall j (cL.1 h1).1) c h2;obtain⟨W2,hst,hg,hrow⟩:=bn8 (x:=.tmp 138) (y:=.tmp 137) (o:=o) (a:=a) (c:=rC (.of ((r.getD j RQ.nil).q-f*(p.getD j RQ.nil).q))) (by have:=mB ho (rfl:eT[23]?=some _);subst this;rfl) (vx (j:=22) (c:=xP b (j*4)) rfl (by rw[hcs];rfl)).1 (T'.row i v b r hv hb hr) Ti.db hjr' rfl ag4 (vx (j:=21) (c:=jl (.of ((r.getD j RQ.nil).q-f*(p.getD j RQ.nil).q))) rfl (by rw[hcs];rfl));rw[show(rR r).set j (rC (.of ((r.getD j RQ.nil).q-f*(p.getD j RQ.nil).q)))=rR (r.set j (.of ((r.getD j RQ.nil).q-f*(p.getD j RQ.nil).q))) by rw[<-pR]]at hrow;obtain rfl:=mB ho (rfl:eT[23]?=some _);refine sI hst (hQ _ _ b (by exact I.sz) I.df (fun t ht=>I.dJ t (hlow t ht)) (dc hb) ?_ ?_ (T'.set hF' hv hb hg hrow))
  .exact⟨hg.os.trans I.w.os,hg.tape.trans I.w.tape,hg.output.trans I.w.output,bG I.w.size hg.size,fun q hq hne=>(hg.block q (cM hq I.w.size) hne).trans (I.w.block q hq)⟩
  .exact⟨fun q hq=>cM (hF'.1 q hq) hg.size,hF'.2.dJ (iP Ti.db hg)⟩
noncomputable def iH:Array Oper:=match aH [1,1,1,1,0,1,0,0,1,0,0,1,1,1,1,1,0,0,1,0,0,1,0] (aM f128)with
 | .region _ ops _=>ops
 | _=>#[]
def bT9:List Nat:=List.range' 95 15++[12]
def bL8:Xw iH.toList bT9 163=true:=aS
def ZY{D:c6}{va:Value}{m:Nat}{vs:j0}{bs:c7}{rk:List (List RQ)}{W1:World}{a1:Act}{Q:iN}{i k A:Nat}{r p:List RQ}(hF:bf D W1)(T:Tb D va m vs bs rk W1)(hr:rk[i]?=some r)(hp:rk[k]?=some p)(hjr:k<r.length)(hjp:k<p.length)
  (hfr:Fit A (r.getD k RQ.nil).q) (hfp:Fit A (p.getD k RQ.nil).q) (h0:(p.getD k RQ.nil).q≠0) (hAB:A+A<=4294967296) (hsz:a1.tmps.size=163) (hdf:a1.defers=[]) (t7:a1.tmps.getD 7 undef=va) (t9:a1.tmps.getD 9 undef=.int .i64 (k:Int)) (t11:a1.tmps.getD 11 undef=.int .i64 (i:Int))
  (hQ:∀(a':Act)(W2:World),a'.tmps.size=163->a'.defers=[]->(∀t,t<12->a'.tmps.getD t undef=a1.tmps.getD t undef)->Below W1.heap.size W1 W2->(aC.aw (rC (.of ((r.getD k RQ.nil).q/(p.getD k RQ.nil).q)))).rep D W2 (a'.tmps.getD 12 undef)->Q .normal a' W2):(Code.region 20 iH true).wp prog Q a1 W1:=by
 have hlr:=T.lr;have hi:i<m:=by have:=(cL.1 hr).1;omega
 have hk:k<m:=by have:=(cL.1 hp).1;omega
 obtain⟨g,cap,b,v,r',hv,hb,hr',Ti⟩:=T.at hi;obtain⟨g',cap',bk,u,p',hu,hbk,hp',Tk⟩:=T.at hk;rw[hr]at hr';cases hr';rw[hp]at hp';cases hp';have eg:g'=g:=by have:=Ti.e.symm.trans Tk.e;simp only[jB,aZ,gm,cu,mQ]at this;exact this.1.symm
 subst eg;obtain⟨cs,hcs⟩:∃cs:List aQ,cs=[xT va,xI i,xP g' i,xT v,xI k,xP b (k*4),jl (r.getD k RQ.nil),xT va,xI k,xP g' k,xT u,xI k,xP bk (k*4),jl (p.getD k RQ.nil)]:=⟨_,rfl⟩
 have hva:va.oneCell'=true:=by rw[Ti.e];rfl
 have hjr':k<(rR r).length:=by rw[aL];exact hjr
 have hjp':k<(rR p).length:=by rw[aL];exact hjp
 have hlow:∀t,t<12->t ∉ bT9:=fun t ht h=>by
  rcases dx.1 h with h | h
  .have:=UD.1 h;omega
  .have:=da.1 h;omega
 obtain⟨Dn,hDn⟩:∃Dn:Nat->Prop,Dn=fun k=>D k\/W1.heap.size<=k:=⟨_,rfl⟩
 have hkn:∀{W},Below W1.heap.size W1 W->av D W1 Dn W:=fun {W} hb q ob hq ho _=>by
  have hlt:=(cJ.1 ho).1;rw[hDn];exact⟨fun h=>h.elim hq O,(hb.block q hlt).trans ho⟩
 have hsub:∀{c W u}{y:aQ},W1.heap.size<=c->y.rep Dn W u->y.rep (Mb D c) W u:=fun hc hy=>aQ.hU (fun q ob hq ho _=>⟨fun h=>hq (by rw[hDn];exact h.imp id fun e=>O),ho⟩) hy;have hsubD:∀{W u}{y:aQ},y.rep Dn W u->y.rep D W u:=fun hy=>aQ.hU (fun q ob hq ho _=>⟨fun h=>hq (by rw[hDn];exact .inl h),ho⟩) hy;have hlD:∀{c W u}{y:aQ},y.rep (Mb D c) W u->y.rep D W u:=fun hy=>aQ.hU (fun q ob hq ho _=>⟨fun h=>hq (.inl h),ho⟩) hy;obtain⟨f,hf⟩:∃f:aQ,jl (.of ((r.getD k RQ.nil).q/(p.getD k RQ.nil).q))=f:=⟨_,rfl⟩
 have hdiv:=aF6 (r.getD k RQ.nil) (p.getD k RQ.nil) A A h0 hfr hfp hAB;rw[hf]at hdiv;obtain⟨B,hBd⟩:∃B:(Nat->Bool)->Act->World->Prop,∀L a W,B L a W↔Below W1.heap.size W1 W/\(L 14=true->f.rep D W (a.tmps.getD 109 undef))/\(L 15=true->∃(c:Nat)(cur:iS),a.tmps.getD 12 undef=.pointer (some ⟨c,0,none⟩)/\W1.heap.size<=c/\W.heap[c]?=some (.cells cur 51 (0,0))/\cur.size=4/\(L 14=true->f.rep (Mb D c) W (a.tmps.getD 109 undef))):=⟨_,fun _ _ _=>mZ⟩
 refine wB (B:=B) (p:=pS Dn cs) bL8 hsz hdf (fun L hL=>(hBd _ _ _).2 ⟨⟨rfl,rfl,rfl,ah _,fun _ _=>rfl⟩,fun h=>(by rw[hL]at h;cases h),fun h=>(by rw[hL]at h;cases h)⟩) ?_ ?_
 .intro q d o L a W ho hd hL hdep I K hK;have hq:q<16:=(cL.1 hd).1;obtain⟨hb1,hb2,hb3⟩:=(hBd _ _ _).1 I.w;have T':=T.below hb1;have Ti':=T'.upd Ti hv hb hr;have Tk':=T'.upd Tk hu hbk hp;have hkv:=(T.row i v b r hv hb hr).mono (hkn hb1) (hb1.block b (hF.1 b Ti.db));have hku:=(T.row k u bk p hu hbk hp).mono (hkn hb1) (hb1.block bk (hF.1 bk Tk.db));have kp:∀t,t<12->a.tmps.getD t undef=a1.tmps.getD t undef:=fun t ht=>I.dJ t (hlow t ht);have vx:∀{j d:Nat}{c:aQ},bT9[j]?=some d->cs[j]?=some c->j∈bQ o->c.rep Dn W (a.tmps.getD d undef):=fun {j d c} h1 h2 h3=>I.done j d h1 (hdep j h3) c h2;have pg:∀{d:Nat}(d':Nat){x:Value},d<163->(a.put (some d) x).tmps.getD d' undef=if d'=d then x else a.tmps.getD d' undef:=fun {d} d' {x} hd=>oQ (by rw[I.sz];exact hd)
  have hB:∀{x:Value},o.dst=some (95+q)->q<14->B (Lx L q) (a.put o.dst x) W:=fun {x} he hq=>by
   rw[he,hBd,pg 109 O,pg 12 O,aG O,aG O];refine⟨hb1,fun h=>hb2 (nP h),fun h=>?_⟩;obtain⟨c,cur,h1,h2,h3,h4,h5⟩:=hb3 (nP h);exact⟨c,cur,h1,h2,h3,h4,fun h=>h5 (nP h)⟩
  have go:∀{c:aQ}{v:Value},o.dst=some (95+q)->q<14->cs[q]?=some c->(execOp a.eval o).run prog W=.ok (.value v) W->c.rep Dn W v->o.wp prog a W K Q:=fun h1 h2 hc hr hv=>aE0 (B:=B) (D:=Dn) (cs:=cs) (i:=q) (L:=L) hK (hB h1 h2) hc hr hv
  have gel:∀{b j:Nat}{v:Value}{r:List RQ}{x:j6},o.dst=some (95+q)->q<14->o.op=.load 51 x->a.eval x=.pointer (some ⟨b,j*4,none⟩)->oe 51 4 (rR r) Dn W v b->j<r.length->cs[q]?=some (jl (r.getD j RQ.nil))->o.wp prog a W K Q:=fun k1 k2 h1 h2 h3 h4 h5=>by
   obtain⟨x,hx,hxr⟩:=ak6 h1 h2 h3 (by4 h4) ag4;exact go k1 k2 h5 hx hxr
  match q,hq with
  | 0,_=>
    obtain rfl:=mB ho (rfl:iH[0]?=some _);exact go (c:=xT va) rfl O (by rw[hcs];rfl) rfl ⟨(kp 7 O).trans t7,hva⟩
  | 1,_=>
    obtain rfl:=mB ho (rfl:iH[1]?=some _);exact go (c:=xI i) rfl O (by rw[hcs];rfl) rfl ⟨(kp 11 O).trans t11,rfl⟩
  | 2,_=>
    obtain rfl:=mB ho (rfl:iH[2]?=some _);exact go (c:=xP g' i) rfl O (by rw[hcs];rfl) (Ti'.addr rfl (vx (j:=0) (c:=xT va) rfl (by rw[hcs];rfl) bY).1 (vx (j:=1) (c:=xI i) rfl (by rw[hcs];rfl) bY).1 hi) ⟨rfl,rfl⟩
  | 3,_=>
    obtain rfl:=mB ho (rfl:iH[3]?=some _);exact go (c:=xT v) rfl O (by rw[hcs];rfl) (Ti'.load rfl (vx (j:=2) (c:=xP g' i) rfl (by rw[hcs];rfl) bY).1) ⟨rfl,hkv.one⟩
  | 4,_=>
    obtain rfl:=mB ho (rfl:iH[4]?=some _);exact go (c:=xI k) rfl O (by rw[hcs];rfl) rfl ⟨(kp 9 O).trans t9,rfl⟩
  | 5,_=>
    obtain rfl:=mB ho (rfl:iH[5]?=some _);exact go (c:=xP b (k*4)) rfl O (by rw[hcs];rfl) (hkv.addr rfl (vx (j:=3) (c:=xT v) rfl (by rw[hcs];rfl) bY).1 (vx (j:=4) (c:=xI k) rfl (by rw[hcs];rfl) bY).1 hjr') ⟨rfl,rfl⟩
  | 6,_=>
    obtain rfl:=mB ho (rfl:iH[6]?=some _);exact gel rfl O rfl (vx (j:=5) (c:=xP b (k*4)) rfl (by rw[hcs];rfl) bY).1 hkv hjr (by rw[hcs];rfl)
  | 7,_=>
    obtain rfl:=mB ho (rfl:iH[7]?=some _);exact go (c:=xT va) rfl O (by rw[hcs];rfl) rfl ⟨(kp 7 O).trans t7,hva⟩
  | 8,_=>
    obtain rfl:=mB ho (rfl:iH[8]?=some _);exact go (c:=xI k) rfl O (by rw[hcs];rfl) rfl ⟨(kp 9 O).trans t9,rfl⟩
  | 9,_=>
    obtain rfl:=mB ho (rfl:iH[9]?=some _);exact go (c:=xP g' k) rfl O (by rw[hcs];rfl) (Tk'.addr rfl (vx (j:=7) (c:=xT va) rfl (by rw[hcs];rfl) bY).1 (vx (j:=8) (c:=xI k) rfl (by rw[hcs];rfl) bY).1 hk) ⟨rfl,rfl⟩
  | 10,_=>
    obtain rfl:=mB ho (rfl:iH[10]?=some _);exact go (c:=xT u) rfl O (by rw[hcs];rfl) (Tk'.load rfl (vx (j:=9) (c:=xP g' k) rfl (by rw[hcs];rfl) bY).1) ⟨rfl,hku.one⟩
  | 11,_=>
    obtain rfl:=mB ho (rfl:iH[11]?=some _);exact go (c:=xI k) rfl O (by rw[hcs];rfl) rfl ⟨(kp 9 O).trans t9,rfl⟩
  | 12,_=>
    obtain rfl:=mB ho (rfl:iH[12]?=some _);exact go (c:=xP bk (k*4)) rfl O (by rw[hcs];rfl) (hku.addr rfl (vx (j:=10) (c:=xT u) rfl (by rw[hcs];rfl) bY).1 (vx (j:=11) (c:=xI k) rfl (by rw[hcs];rfl) bY).1 hjp') ⟨rfl,rfl⟩
  | 13,_=>
    obtain rfl:=mB ho (rfl:iH[13]?=some _);exact gel rfl O rfl (vx (j:=12) (c:=xP bk (k*4)) rfl (by rw[hcs];rfl) bY).1 hku hjp (by rw[hcs];rfl)
  | 14,_=>
    obtain rfl:=mB ho (rfl:iH[14]?=some _);have e1:=vx (j:=6) (c:=jl (r.getD k RQ.nil)) rfl (by rw[hcs];rfl) bY;have e2:=vx (j:=13) (c:=jl (p.getD k RQ.nil)) rfl (by rw[hcs];rfl) bY;have hpg:∀x,(a.put (some 109) x).tmps.getD 12 undef=a.tmps.getD 12 undef:=fun x=>(pg 12 O).trans (aG O);have hpg2:∀x,(a.put (some 109) x).tmps.getD 109 undef=x:=fun x=>(pg 109 O).trans (aF rfl);cases h15:L 15 with
    | false=>
      refine To (B:=B) (D:=Dn) (cs:=cs) (N:=D) (i:=14) (L:=L) hK (fun x W' hb hx=>(hBd _ _ _).2 ⟨hb1.trans (hb.mono hb1.size),fun _=>(hpg2 x).symm▸hx,fun h=>(by rw[nP h]at h15;cases h15)⟩) (fun _ _ _ c' h=>by rw[hcs]at h;cases h) hdiv rfl rfl rfl (aW hF hb1) ⟨hsubD e1,hsubD e2,trivial⟩
    | true=>
      obtain⟨c,cur,h1,h2,h3,h4,_⟩:=hb3 h15;have hcl:=(cJ.1 h3).1;refine To (B:=B) (D:=Dn) (cs:=cs) (N:=Mb D c) (i:=14) (L:=L) hK (fun x W' hb hx=>(hBd _ _ _).2 ⟨hb1.trans (hb.mono hb1.size),fun _=>(hpg2 x).symm▸hlD hx,fun h=>?_⟩) (fun _ _ _ c' h=>by rw[hcs]at h;cases h) hdiv rfl rfl rfl (sW hF hb1 h2 hcl) ⟨hsub h2 e1,hsub h2 e2,trivial⟩;exact⟨c,cur,(hpg x).trans h1,h2,(hb.block c hcl).trans h3,h4,fun _=>(hpg2 x).symm▸hx⟩
  | 15,_=>
    obtain rfl:=mB ho (rfl:iH[15]?=some _);obtain⟨ie,zv,hie,hz,hzc,_,_⟩:=ed (show jm prog 51=some [.int .i64 0,.slice none 0 0,.int .i64 0,.slice none 0 0] by kernel_rfl)
    have hrun:(execOp a.eval (⟨some 12,.alloc 51,0,"",#[],none⟩:Oper)).run prog W=.ok (.value (.pointer (some ⟨W.heap.size,0,none⟩))) (W.alloc (.cells #[.int .i64 0,.slice none 0 0,.int .i64 0,.slice none 0 0] 51)):=by
     simp[execOp,Instr.alloc,zeroValue,typeInfo,hie,hz,newVar,newRow,hzc]
    have hb:Below W.heap.size W (W.alloc (.cells #[.int .i64 0,.slice none 0 0,.int .i64 0,.slice none 0 0] 51)):=(cS _ _).alloc (ah _) _;have hpg:∀x,(a.put (some 12) x).tmps.getD 12 undef=x:=fun x=>(pg 12 O).trans (aF rfl);have hpg2:∀x,(a.put (some 12) x).tmps.getD 109 undef=a.tmps.getD 109 undef:=fun x=>(pg 109 O).trans (aG O);refine bF hrun (aa0 (B:=B) (D:=Dn) (cs:=cs) (i:=15) (L:=L) hK ((hBd _ _ _).2 ⟨hb1.trans (hb.mono hb1.size),fun h=>(hpg2 _).symm▸aQ.hU (av.below hb) (hb2 (nP h)),fun _=>⟨W.heap.size,_,hpg _,hb1.size,cr W _,rfl,fun h=>(hpg2 _).symm▸aQ.hU (qF hb (ah _)) (hb2 (nP h))⟩⟩) hb fun c' h=>by rw[hcs]at h;cases h)
 .intro o L a W ho hall I;obtain rfl:=mB ho (rfl:iH[16]?=some _);obtain⟨hb1,_,hb3⟩:=(hBd _ _ _).1 I.w;obtain⟨c,cur,hc,hn,hcur,hcs4,h14⟩:=hb3 (hall 15 bY);have hfr:=h14 (hall 14 bY);rw[<-hf]at hfr;obtain⟨us,hu,hur⟩:=hfr;have hul:us.length=4:=hur.length.symm;have hDc:¬D c:=fun h=>by have:=hF.1 c h;omega
  have hst:=kK (P:=prog) (w:=W) ag4 hcur (off:=0) (v:=a.tmps.getD 109 undef) (by rw[hu];simpa[Value.cells]using hul) (by rw[hu];simpa[Value.cells]using hur.one)
  have hce:(cur.toList.take 0++(a.tmps.getD 109 undef).cells.toList++cur.toList.drop (0+4)).toArray=us.toArray:=by
   have h1:cur.toList.drop (0+4)=[]:=RP (by rw[cK];omega);rw[hu,h1];simp[Value.cells]
  rw[hce]at hst;have hb:Below W1.heap.size W1 (W.setRow c us.toArray):=⟨hb1.os,hb1.tape,hb1.output,by simpa using hb1.size,fun q hq=>(ew W c q _ O).trans (hb1.block q hq)⟩
  refine sI (oF (x:=.tmp 12) (y:=.tmp 109) (T:=51) rfl hc hst) (hQ _ _ (by exact I.sz) I.df (fun t ht=>I.dJ t (hlow t ht)) hb ⟨c,0,us.toArray,51,(0,0),hc,hDc,iV W c cur _ _ (0,0) hcur,?_⟩);show an D _ _ (us.take 4);rw[dL O];exact hur.mono fun q ob hq ho _=>⟨fun h=>hq (.inl h),(ew W c q _ fun e=>hq (.inr e)).trans ho⟩
def Uz:Tr:=.ret [(W 0 0),(W 1 0),(W 2 0),(.one (.c (.k (.slice none 0 0))))]
def Uh:Tr:=.need (.prim [(W 0 0)] none) (.call ⟨.builtin .len,#[(.tmp 16)],#[177]⟩) 3 false Uz
def Zl:aj prog 163 (fun _=>none) (aH [] (aM f128)) [(0,.v none),(1,.v none)] ([0,1,6,7].map ResultVar.tmp) (some 2) false=Uh:=aS
def SB:Tr:=.ret [(WK (0))]
def ad6:aj prog 163 (fun _=>none) (aH [1,1,1,0,0] (aM f128)) [] ([8].map ResultVar.tmp) none false=SB:=aS
def SS:Tr:=.ret [(W 2 0)]
def TU:Tr:=.need (.prim [(W 1 0),(W 0 0)] none) (.binOp .lss 3 (.tmp 18) (.tmp 19) 3) 4 false SS
def ZG:aj prog 163 (fun _=>none) (aH [1,1,1,0,1,0,0,0,0] (aM f128)) [(6,.v none),(8,.v none)] ([20].map ResultVar.tmp) none false=TU:=aS
def PD:Tr:=.ret [(W 1 0)]
def Ri:Tr:=.need (.prim [(W 0 0),(WK (1))] none) (.binOp .add 3 (.tmp 21) (.const (I3 (1))) 3) 3 false PD
def ab4:aj prog 163 (fun _=>none) (aH [1,1,1,0,1,0,0,1,1] (aM f128)) [(8,.v none)] ([8].map ResultVar.tmp) none false=Ri:=aS
def Tq:Tr:=.ret [(WK (0))]
def ab1:aj prog 163 (fun _=>none) (aH [1,1,1,1,0,0] (aM f128)) [] ([9].map ResultVar.tmp) none false=Tq:=aS
def SY:Tr:=.ret [(W 2 0)]
def Sq:Tr:=.need (.prim [(W 1 0),(W 0 0)] none) (.binOp .lss 3 (.tmp 37) (.tmp 38) 3) 4 false SY
def ag5:aj prog 163 (fun _=>none) (aH [1,1,1,1,0,1,0,0,0,0] (aM f128)) [(6,.v none),(9,.v none)] ([39].map ResultVar.tmp) none false=Sq:=aS
def UT:Tr:=.ret [(W 1 0)]
def RY:Tr:=.need (.prim [(W 0 0),(WK (1))] none) (.binOp .add 3 (.tmp 40) (.const (I3 (1))) 3) 3 false UT
def af5:aj prog 163 (fun _=>none) (aH [1,1,1,1,0,1,0,0,1,1] (aM f128)) [(9,.v none)] ([9].map ResultVar.tmp) none false=RY:=aS
def UK:Tr:=.ret [(W 0 0)]
def YQ:aj prog 163 (fun _=>none) (aH [1,1,1,1,0,1,0,0,1,0,0,0] (aM f128)) [(9,.v none)] ([10].map ResultVar.tmp) none false=UK:=aS
def KO:Tr:=.back 0 [(.w (W 12 0))]
def Mv:Tr:=.need (.prim [(W 4 0),(WK (1))] none) (.binOp .add 3 (.tmp 57) (.const (I3 (1))) 3) 3 false KO
def Jy:Tr:=.ret [(W 4 0)]
def Rc:Tr:=.split (.u 11 0) Mv Jy
def QB:Tr:=.need (.prim [(W 10 0),(WK (0))] none) (.binOp .eql 3 (.tmp 54) (.const (I3 (0))) 3) 4 false Rc
def UG:Tr:=.need (.call 56 [(.agg [(U 9 0),(U 9 1),(U 9 2),(U 9 3)])] [none]) (.call ⟨.value (.func 56),#[(.tmp 53)],#[51]⟩) 3 false QB
def SR:Tr:=.need (.prim [(W 8 0)] (some 4)) (.load 51 (.tmp 52)) 51 false UG
def QH:Tr:=.need (.prim [(W 7 0),(W 2 0)] none) (.indexAddr 32 (.tmp 50) (.tmp 51)) 0 false SR
def Rl:Tr:=.need (.prim [(W 6 0)] none) (.load 32 (.tmp 49)) 32 false QH
def QE:Tr:=.need (.prim [(W 1 0),(W 4 0)] none) (.indexAddr 177 (.tmp 47) (.tmp 48)) 0 false Rl
def Kg:Tr:=.ret [(W 4 0)]
def Rv:Tr:=.split (.u 5 0) QE Kg
def Sg:Tr:=.need (.prim [(W 4 0),(W 0 0)] none) (.binOp .lss 3 (.tmp 43) (.tmp 44) 3) 4 false Rv
def Qk:Tr:=.loop 0 [(.w (W 3 0))] Sg
def Dc:aj prog 163 (fun _=>none) (aH [1,1,1,1,0,1,0,0,1,0,0,1,0] (aM f128)) [(6,.v none),(7,.v none),(9,.v none),(10,.v none)] ([10].map ResultVar.tmp) none false=Qk:=aS
def RB:Tr:=.ret [(W 2 0)]
def TF:Tr:=.need (.prim [(W 1 0),(W 0 0)] none) (.binOp .eql 3 (.tmp 59) (.tmp 60) 3) 4 false RB
def ZT:aj prog 163 (fun _=>none) (aH [1,1,1,1,0,1,0,0,1,0,0,1,1,0,0] (aM f128)) [(6,.v none),(10,.v none)] ([61].map ResultVar.tmp) none false=TF:=aS
def TP:Tr:=.retr [] 6
def PU:Tr:=.need (.strow 5 1 (.u 0 0) 0 [(.u 4 0)]) (.store 32 (.tmp 75) (.tmp 73)) 0 false TP
def Tn:Tr:=.need (.idx 5 (.u 0 0)) (.indexAddr 177 (.tmp 64) (.tmp 65)) 0 false PU
def Ty:Tr:=.need (.strow 2 1 (.u 1 0) 0 [(.u 3 0)]) (.store 32 (.tmp 74) (.tmp 69)) 0 false Tn
def Uk:Tr:=.need (.idx 2 (.u 1 0)) (.indexAddr 177 (.tmp 62) (.tmp 63)) 0 false Ty
def Tw:Tr:=.need (.ldrow 2 (.u 1 0) 0 1 false) (.load 32 (.tmp 72)) 32 false Uk
def Rt:Tr:=.need (.idx 2 (.u 1 0)) (.indexAddr 177 (.tmp 70) (.tmp 71)) 0 false Tw
def Qw:Tr:=.need (.ldrow 2 (.u 0 0) 0 1 false) (.load 32 (.tmp 68)) 32 false Rt
def Sx:Tr:=.need (.idx 2 (.u 0 0)) (.indexAddr 177 (.tmp 66) (.tmp 67)) 0 false Qw
def ad7:Aj prog 163 (fun _=>none) (aH [1,1,1,1,0,1,0,0,1,0,0,1,1,1,0] (aM f128)) [(9,.v none),(10,.v none)] 7 32 1 ([].map ResultVar.tmp)=Sx:=aS
def SX:Tr:=.ret [(WK (0))]
def ac8:aj prog 163 (fun _=>none) (aH [1,1,1,1,0,1,0,0,1,0,0,1,1,1,1,0] (aM f128)) [] ([11].map ResultVar.tmp) none false=SX:=aS
def PN:Tr:=.ret [(W 2 0)]
def PR:Tr:=.need (.prim [(W 1 0),(W 0 0)] none) (.binOp .lss 3 (.tmp 76) (.tmp 77) 3) 4 false PN
def Zn:aj prog 163 (fun _=>none) (aH [1,1,1,1,0,1,0,0,1,0,0,1,1,1,1,1,0,0,0,0] (aM f128)) [(6,.v none),(11,.v none)] ([78].map ResultVar.tmp) none false=PR:=aS
def Qo:Tr:=.ret [(W 1 0)]
def Ui:Tr:=.need (.prim [(W 0 0),(WK (1))] none) (.binOp .add 3 (.tmp 79) (.const (I3 (1))) 3) 3 false Qo
def ac0:aj prog 163 (fun _=>none) (aH [1,1,1,1,0,1,0,0,1,0,0,1,1,1,1,1,0,0,1,1] (aM f128)) [(11,.v none)] ([11].map ResultVar.tmp) none false=Ui:=aS
def TZ:Tr:=.ret [(.one (.c (.k (.bool true))))]
def PJ:Tr:=.ret [(W 9 0)]
def UB:Tr:=.need (.prim [(W 8 0),(WK (0))] none) (.binOp .eql 3 (.tmp 92) (.const (I3 (0))) 3) 4 false PJ
def Tl:Tr:=.need (.call 56 [(.agg [(U 7 0),(U 7 1),(U 7 2),(U 7 3)])] [none]) (.call ⟨.value (.func 56),#[(.tmp 91)],#[51]⟩) 3 false UB
def QZ:Tr:=.need (.prim [(W 6 0)] (some 4)) (.load 51 (.tmp 90)) 51 false Tl
def UF:Tr:=.need (.prim [(W 5 0),(W 1 0)] none) (.indexAddr 32 (.tmp 88) (.tmp 89)) 0 false QZ
def Uq:Tr:=.need (.prim [(W 4 0)] none) (.load 32 (.tmp 87)) 32 false UF
def UQ:Tr:=.need (.prim [(W 0 0),(W 2 0)] none) (.indexAddr 177 (.tmp 85) (.tmp 86)) 0 false Uq
def Up:Tr:=.split (.u 3 0) TZ UQ
def QJ:Tr:=.need (.prim [(W 2 0),(W 1 0)] none) (.binOp .eql 3 (.tmp 81) (.tmp 82) 3) 4 false Up
def ab3:aj prog 163 (fun _=>none) (aH [1,1,1,1,0,1,0,0,1,0,0,1,1,1,1,1,0,0,1,0,0,0,0] (aM f128)) [(7,.v none),(9,.v none),(11,.v none)] ([94].map ResultVar.tmp) none false=QJ:=aS
def Rk:Tr:=.ret [(W 0 0)]
def aa8:aj prog 163 (fun _=>none) (aH [1,1,1,1,0,1,0,0,1,0,0,1,1,1,1,1,0,0,1,0,0,1,1,0] (aM f128)) [(9,.v none)] ([13].map ResultVar.tmp) none false=Rk:=aS
def Uc:Tr:=.ret [(W 2 0)]
def TX:Tr:=.need (.prim [(W 1 0),(W 0 0)] none) (.binOp .leq 3 (.tmp 111) (.tmp 112) 3) 4 false Uc
def YW:aj prog 163 (fun _=>none) (aH [1,1,1,1,0,1,0,0,1,0,0,1,1,1,1,1,0,0,1,0,0,1,1,1,0,0,0,0] (aM f128)) [(6,.v none),(13,.v none)] ([113].map ResultVar.tmp) none false=TX:=aS
def UP:Tr:=.ret [(W 1 0)]
def UE:Tr:=.need (.prim [(W 0 0),(WK (1))] none) (.binOp .add 3 (.tmp 114) (.const (I3 (1))) 3) 3 false UP
def Zp:aj prog 163 (fun _=>none) (aH [1,1,1,1,0,1,0,0,1,0,0,1,1,1,1,1,0,0,1,0,0,1,1,1,0,0,1,1] (aM f128)) [(13,.v none)] ([13].map ResultVar.tmp) none false=UE:=aS
def Lu:Tr:=.back 0 [(.w (W 16 0)),(.row 15)]
def KJ:Tr:=.need (.prim [(W 2 0),(WK (1))] none) (.binOp .add 3 (.tmp 142) (.const (I3 (1))) 3) 3 false Lu
def Mk:Tr:=.need (.app 4 64 (some 3) none (some 14)) (.call ⟨.builtin .append,#[(.tmp 144),(.tmp 160)],#[32,32]⟩) 32 false KJ
def JZ:Tr:=.need (.lit 4 [[(.u 13 0),(.u 13 1),(.u 13 2),(.u 13 3)]]) (.buildSlice 32 1 #[(0,(.tmp 159))]) 32 false Mk
def Kh:Tr:=.need (.call 151 [(.agg [(U 8 0),(U 8 1),(U 8 2),(U 8 3)]),(.agg [(U 12 0),(U 12 1),(U 12 2),(U 12 3)])] [(some 4)]) (.call ⟨.value (.func 151),#[(.tmp 151),(.tmp 158)],#[51,51]⟩) 51 true JZ
def Mn:Tr:=.need (.prim [(W 11 0)] (some 4)) (.load 51 (.tmp 157)) 51 false Kh
def QW:Tr:=.need (.prim [(W 10 0),(W 2 0)] none) (.indexAddr 32 (.tmp 155) (.tmp 156)) 0 false Mn
def Sn:Tr:=.need (.prim [(W 9 0)] none) (.load 32 (.tmp 154)) 32 false QW
def QX:Tr:=.need (.prim [(W 1 0),(W 2 0)] none) (.indexAddr 177 (.tmp 152) (.tmp 153)) 0 false Sn
def Re:Tr:=.need (.prim [(W 7 0)] (some 4)) (.load 51 (.tmp 150)) 51 false QX
def Rf:Tr:=.need (.prim [(W 6 0),(W 0 0)] none) (.indexAddr 32 (.tmp 148) (.tmp 149)) 0 false Re
def Qx:Tr:=.need (.prim [(W 5 0)] none) (.load 32 (.tmp 147)) 32 false Rf
def Uf:Tr:=.need (.prim [(W 1 0),(W 2 0)] none) (.indexAddr 177 (.tmp 145) (.tmp 146)) 0 false Qx
def HV:Tr:=.ret [(.one (.c (.sr 4 3))),(.one (.c (.k (.bool true))))]
def Tt:Tr:=.split (.u 4 0) Uf HV
def PE:Tr:=.need (.prim [(W 2 0),(W 0 0)] none) (.binOp .lss 3 (.tmp 139) (.tmp 140) 3) 4 false Tt
def Rq:Tr:=.loop 0 [(.w (WK (0))),.nilrow] PE
def ag7:aj prog 163 (fun _=>none) (aH [1,1,1,1,1] (aM f128)) [(6,.v none),(7,.v none)] f128.results.toList none true=Rq:=aS
def qj(rk:List (List RQ))(m i:Nat):Rat:=((rk.getD i []).getD m RQ.nil).q/((rk.getD i []).getD i RQ.nil).q
def cz0(a:List (List RQ))(b:List RQ):vc prog (fun o=>bD o (.ret [.one (eR a),.one (sR b),.one (.int .i64 (a.length:Int)),.one (.exact (.slice none 0 0))])) (aj prog 163 (fun _=>none) (aH [] (aM f128)) [(0,.v none),(1,.v none)] ([0,1,6,7].map ResultVar.tmp) (some 2) false) ([.v (.one (eR a)),.v (.one (sR b))].map In.env) []:=by
 rw[Zl];dsimp only[List.map,In.env,aU,aV];apply vn (ae vC (aL _));exact aR
def cq7  :vc prog (fun o=>bD o (.ret [.one (.int .i64 0)])) (aj prog 163 (fun _=>none) (aH [1,1,1,0,0] (aM f128)) [] ([8].map ResultVar.tmp) none false) ([].map In.env) []:=by
 rw[ad6];dsimp only[List.map,In.env,aU,aV];exact aR
def cf5(m k:Nat):vc prog (fun o=>bD o (.ret [.one (.bool (decide ((k:Int)<(m:Int))))])) (aj prog 163 (fun _=>none) (aH [1,1,1,0,1,0,0,0,0] (aM f128)) [(6,.v none),(8,.v none)] ([20].map ResultVar.tmp) none false) ([.v (.one (.int .i64 (m:Int))),.v (.one (.int .i64 (k:Int)))].map In.env) []:=by
 rw[ZG];dsimp only[List.map,In.env,aU,aV];apply vn bO;exact aR
def cv8(k:Nat)(hk:k<1099511627776:=by omega):vc prog (fun o=>bD o (.ret [.one (.int .i64 ((k:Int)+1))])) (aj prog 163 (fun _=>none) (aH [1,1,1,0,1,0,0,1,1] (aM f128)) [(8,.v none)] ([8].map ResultVar.tmp) none false) ([.v (.one (.int .i64 (k:Int)))].map In.env) []:=by
 rw[ab4];dsimp only[List.map,In.env,aU,aV];apply vn (aB O O);exact aR
def cq3  :vc prog (fun o=>bD o (.ret [.one (.int .i64 0)])) (aj prog 163 (fun _=>none) (aH [1,1,1,1,0,0] (aM f128)) [] ([9].map ResultVar.tmp) none false) ([].map In.env) []:=by
 rw[ab1];dsimp only[List.map,In.env,aU,aV];exact aR
def cv3(m k:Nat):vc prog (fun o=>bD o (.ret [.one (.bool (decide ((k:Int)<(m:Int))))])) (aj prog 163 (fun _=>none) (aH [1,1,1,1,0,1,0,0,0,0] (aM f128)) [(6,.v none),(9,.v none)] ([39].map ResultVar.tmp) none false) ([.v (.one (.int .i64 (m:Int))),.v (.one (.int .i64 (k:Int)))].map In.env) []:=by
 rw[ag5];dsimp only[List.map,In.env,aU,aV];apply vn bO;exact aR
def ct7(k:Nat)(hk:k<1099511627776:=by omega):vc prog (fun o=>bD o (.ret [.one (.int .i64 ((k:Int)+1))])) (aj prog 163 (fun _=>none) (aH [1,1,1,1,0,1,0,0,1,1] (aM f128)) [(9,.v none)] ([9].map ResultVar.tmp) none false) ([.v (.one (.int .i64 (k:Int)))].map In.env) []:=by
 rw[af5];dsimp only[List.map,In.env,aU,aV];apply vn (aB O O);exact aR
def cv7(k:Nat):vc prog (fun o=>bD o (.ret [.one (.int .i64 (k:Int))])) (aj prog 163 (fun _=>none) (aH [1,1,1,1,0,1,0,0,1,0,0,0] (aM f128)) [(9,.v none)] ([10].map ResultVar.tmp) none false) ([.v (.one (.int .i64 (k:Int)))].map In.env) []:=by
 rw[YQ];dsimp only[List.map,In.env,aU,aV];exact aR
def cg1(rk:List (List RQ))(k i m:Nat)(p:List RQ)(hm:rk.length=m)(hL:∀r∈rk,k<r.length/\r.length<1099511627776)(hz:∀j r,j<i->rk[k+j]?=some r->(r.getD k RQ.nil).q=0)(hi:rk[k+i]?=some p)(hp:(p.getD k RQ.nil).q≠0)(hs:m<1099511627776:=by omega):vc prog (fun o=>bD o (.ret [.one (.int .i64 ((k+i:Nat):Int))])) (aj prog 163 (fun _=>none) (aH [1,1,1,1,0,1,0,0,1,0,0,1,0] (aM f128)) [(6,.v none),(7,.v none),(9,.v none),(10,.v none)] ([10].map ResultVar.tmp) none false) ([.v (.one (.int .i64 (m:Int))),.v (.one (eR rk)),.v (.one (.int .i64 (k:Int))),.v (.one (.int .i64 (k:Int)))].map In.env) []:=by
 rw[Dc];dsimp only[List.map,In.env,aU,aV];have hil:=(cL.1 hi).1;refine bZ {j:Nat // j<=i} (fun g=>[.one (.int .i64 ((k+g.1:Nat):Int))]) (fun g=>i-g.1) ⟨0,dM _⟩ ai.rfl (fun _=>rfl) ?_;rintro⟨j,hj⟩;dsimp only[aU,aV]at hj|-;obtain⟨r,hr⟩:∃r,rk[k+j]?=some r:=⟨_,bM O⟩
 obtain⟨hkr,hrl⟩:=hL r (dc hr);apply vn bO;refine l4 ?_ ?_<;>intro h2
 .apply vn (aN (f:=cR) vC (m:=k+j) O (bI _) (hr));apply vn (bq aT3);apply vn (aN (f:=rC) jK (m:=k) O (bI k) (vM hkr));apply vn (ab nH bY aT (.inl rfl));apply aA (BK _);apply vn cW;refine l4 ?_ ?_<;>intro h9
  .have hji:j<i:=by
    refine Nat.lt_of_le_of_ne hj fun e=>hp ?_;subst e;rw[hr]at hi;cases hi;exact sign_zero.1 ‹_›
   apply vn (aB O O);dsimp only[aU,aV];exact aq rfl ⟨⟨j+1,O⟩,ai.rfl,by show i-(j+1)<i-j;omega⟩
  obtain rfl:j=i:=xk hj (wY fun h=>‹¬(r.getD k RQ.nil).q.num.sign=0› (sign_zero.2 (hz j r h hr)));exact aR
 exfalso;omega
def bB2(m k:Nat):vc prog (fun o=>bD o (.ret [.one (.bool (decide ((k:Int)=(m:Int))))])) (aj prog 163 (fun _=>none) (aH [1,1,1,1,0,1,0,0,1,0,0,1,1,0,0] (aM f128)) [(6,.v none),(10,.v none)] ([61].map ResultVar.tmp) none false) ([.v (.one (.int .i64 (m:Int))),.v (.one (.int .i64 (k:Int)))].map In.env) []:=by
 rw[ZT];dsimp only[List.map,In.env,aU,aV];apply vn cW;exact aR
def cr1(vs:j0)(k i:Nat)(x y:Value)(hx:vs[k]?=some x)(hy:vs[i]?=some y)(hs:vs.length<1099511627776:=by omega):vc prog (fun o=>o=.retr [] ((gi vs i k y x).map xV)) (Aj prog 163 (fun _=>none) (aH [1,1,1,1,0,1,0,0,1,0,0,1,1,1,0] (aM f128)) [(9,.v none),(10,.v none)] 7 32 1 ([].map ResultVar.tmp)) ([.v (.one (.int .i64 (k:Int))),.v (.one (.int .i64 (i:Int)))].map In.env++[.rows (vs.map xV)]) []:=by
 rw[ad7];dsimp only[List.map,In.env,aU,aV];have hkl:=(cL.1 hx).1;have hil:=(cL.1 hy).1;obtain⟨z,hz⟩:∃z,(vs.set i x)[k]?=some z:=⟨_,bM (by rw[al];exact hkl)⟩
 refine bo rfl rfl O O ?_;refine nQ rfl rfl O (bI k) hx rfl ?_;refine bo rfl rfl O O ?_;refine nQ rfl rfl O (bI i) hy rfl ?_;refine bo rfl rfl O O ?_;refine gL (f:=xV) (d':=x) rfl rfl O (bI i) hy rfl ?_;refine bo rfl rfl O (by rw[al];omega) ?_;refine gL (f:=xV) (d':=y) rfl rfl O (bI k) hz rfl ?_;dsimp only[aU,aV];exact kA rfl rfl
def cl0  :vc prog (fun o=>bD o (.ret [.one (.int .i64 0)])) (aj prog 163 (fun _=>none) (aH [1,1,1,1,0,1,0,0,1,0,0,1,1,1,1,0] (aM f128)) [] ([11].map ResultVar.tmp) none false) ([].map In.env) []:=by
 rw[ac8];dsimp only[List.map,In.env,aU,aV];exact aR
def cm8(m k:Nat):vc prog (fun o=>bD o (.ret [.one (.bool (decide ((k:Int)<(m:Int))))])) (aj prog 163 (fun _=>none) (aH [1,1,1,1,0,1,0,0,1,0,0,1,1,1,1,1,0,0,0,0] (aM f128)) [(6,.v none),(11,.v none)] ([78].map ResultVar.tmp) none false) ([.v (.one (.int .i64 (m:Int))),.v (.one (.int .i64 (k:Int)))].map In.env) []:=by
 rw[Zn];dsimp only[List.map,In.env,aU,aV];apply vn bO;exact aR
def cw9(k:Nat)(hk:k<1099511627776:=by omega):vc prog (fun o=>bD o (.ret [.one (.int .i64 ((k:Int)+1))])) (aj prog 163 (fun _=>none) (aH [1,1,1,1,0,1,0,0,1,0,0,1,1,1,1,1,0,0,1,1] (aM f128)) [(11,.v none)] ([11].map ResultVar.tmp) none false) ([.v (.one (.int .i64 (k:Int)))].map In.env) []:=by
 rw[ac0];dsimp only[List.map,In.env,aU,aV];apply vn (aB O O);exact aR
def ci8(rk:List (List RQ))(k i:Nat)(r:List RQ)(hr:rk[i]?=some r)(hk:k<r.length:=by omega)(hs:r.length<1099511627776:=by omega)(hm:rk.length<1099511627776:=by omega):vc prog (fun o=>bD o (.ret [.one (.bool (decide (i=k\/(r.getD k RQ.nil).q=0)))])) (aj prog 163 (fun _=>none) (aH [1,1,1,1,0,1,0,0,1,0,0,1,1,1,1,1,0,0,1,0,0,0,0] (aM f128)) [(7,.v none),(9,.v none),(11,.v none)] ([94].map ResultVar.tmp) none false) ([.v (.one (eR rk)),.v (.one (.int .i64 (k:Int))),.v (.one (.int .i64 (i:Int)))].map In.env) []:=by
 rw[ab3];dsimp only[List.map,In.env,aU,aV];have hil:=(cL.1 hr).1;apply vn cW;refine l4 ?_ ?_<;>intro h1
 .rw[bz (show i=k\/(r.getD k RQ.nil).q=0 from .inl O)];exact aR
 apply vn (aN (f:=cR) vC (m:=i) O (bI i) (hr));apply vn (bq aT3);apply vn (aN (f:=rC) jK (m:=k) O (bI k) (vM hk));apply vn (ab nH bY aT (.inl rfl));apply aA (BK _);apply vn cW;rw[show decide ((r.getD k RQ.nil).q.num.sign=0)=decide (i=k\/(r.getD k RQ.nil).q=0) by rw[nh];exact⟨fun h=>.inr (sign_zero.1 h),fun h=>sign_zero.2 (h.resolve_left O)⟩];exact aR
def cm3(k:Nat):vc prog (fun o=>bD o (.ret [.one (.int .i64 (k:Int))])) (aj prog 163 (fun _=>none) (aH [1,1,1,1,0,1,0,0,1,0,0,1,1,1,1,1,0,0,1,0,0,1,1,0] (aM f128)) [(9,.v none)] ([13].map ResultVar.tmp) none false) ([.v (.one (.int .i64 (k:Int)))].map In.env) []:=by
 rw[aa8];dsimp only[List.map,In.env,aU,aV];exact aR
def cq8(m k:Nat):vc prog (fun o=>bD o (.ret [.one (.bool (decide ((k:Int)<=(m:Int))))])) (aj prog 163 (fun _=>none) (aH [1,1,1,1,0,1,0,0,1,0,0,1,1,1,1,1,0,0,1,0,0,1,1,1,0,0,0,0] (aM f128)) [(6,.v none),(13,.v none)] ([113].map ResultVar.tmp) none false) ([.v (.one (.int .i64 (m:Int))),.v (.one (.int .i64 (k:Int)))].map In.env) []:=by
 rw[YW];dsimp only[List.map,In.env,aU,aV];apply vn nR;exact aR
def cz5(k:Nat)(hk:k<1099511627776:=by omega):vc prog (fun o=>bD o (.ret [.one (.int .i64 ((k:Int)+1))])) (aj prog 163 (fun _=>none) (aH [1,1,1,1,0,1,0,0,1,0,0,1,1,1,1,1,0,0,1,0,0,1,1,1,0,0,1,1] (aM f128)) [(13,.v none)] ([13].map ResultVar.tmp) none false) ([.v (.one (.int .i64 (k:Int)))].map In.env) []:=by
 rw[Zp];dsimp only[List.map,In.env,aU,aV];apply vn (aB O O);exact aR
def cx4(rk:List (List RQ))(m A:Nat)(hm:rk.length=m)(hL:∀r∈rk,r.length=m+1/\∀a∈r,Fit A a.q)(hd:∀(j:Nat)(r:List RQ),rk[j]?=some r->(r.getD j RQ.nil).q≠0)(hA1:1<=A)(hs:m<1000000:=by omega)(hA:A+A<=4294967296:=by omega):vc prog (fun o=>bD o (.ret [.one (sR (((List.range m).map (qj rk m)).map RQ.of)),.one (.bool true)])) (aj prog 163 (fun _=>none) (aH [1,1,1,1,1] (aM f128)) [(6,.v none),(7,.v none)] f128.results.toList none true) ([.v (.one (.int .i64 (m:Int))),.v (.one (eR rk))].map In.env) []:=by
 rw[ag7];dsimp only[List.map,In.env,aU,aV];refine bZ {i:Nat // i<=m} (fun g=>[.one (.int .i64 (g.1:Int)),.rows (rR (((List.range g.1).map (qj rk m)).map RQ.of))]) (fun g=>m-g.1) ⟨0,dM _⟩ ai.rfl (fun _=>rfl) ?_;rintro⟨i,hi⟩;dsimp only[aU,aV]at hi|-;have hll:(((List.range i).map (qj rk m)).map RQ.of).length=i:=aT
 apply vn bO;refine l4 ?_ ?_<;>intro h2
 .have hi':i<m:=O
  obtain⟨r,hr⟩:∃r,rk[i]?=some r:=⟨_,bM O⟩
  obtain⟨hrl,hrf⟩:=hL r (dc hr);have hrg:rk.getD i []=r:=by rw[fI,hr];rfl
  have hf:∀i,i<r.length->Fit A (r.getD i RQ.nil).q:=fun i hi=>hrf _ (dc (vM hi));apply vn (aN (f:=cR) vC (m:=i) O (bI i) (hr));apply vn (bq aT3);dsimp only[aU,aV];apply vn (aN (f:=rC) jK (m:=m) O (bI m) (vM (show m<r.length by omega)));apply vn (ab nH bY aT (.inl rfl));apply vn (aN (f:=cR) vC (m:=i) O (bI i) (hr));apply vn (bq aT3);dsimp only[aU,aV];apply vn (aN (f:=rC) jK (m:=i) O (bI i) (vM (show i<r.length by omega)));apply vn (ab nH bY aT (.inl rfl));apply aA (aF6 (r.getD m RQ.nil) (r.getD i RQ.nil) A A (hd i r hr) (hf m O) (hf i O) hA);rw[show(r.getD m RQ.nil).q/(r.getD i RQ.nil).q=qj rk m i by rw[qj,hrg]];apply et (us:=[rC (.of (qj rk m i))]);refine kq (xs:=((List.range i).map (qj rk m)).map RQ.of) (x:=.of (qj rk m i)) (f:=rC) rfl rfl O (by simp only[maxLen];omega) ?_;rw[show((List.range i).map (qj rk m)).map RQ.of++[.of (qj rk m i)]=((List.range (i+1)).map (qj rk m)).map RQ.of by rw[gy,cG,cG];rfl];apply vn (aB O O);dsimp only[aU,aV];exact aq rfl ⟨⟨i+1,O⟩,ai.rfl,by show m-(i+1)<m-i;omega⟩
 rw[show i=m by omega];exact aR
end Go.Sy
