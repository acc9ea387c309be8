/- Part. -/
import Derived.Test.YtacgmapjhpghkaaGreatDoorXg
set_option linter.all false
set_option maxHeartbeats 1000000
set_option maxRecDepth 100000
namespace Go.Sy
open Go Go.Proofs Go.RowKit Tryz Ord
theorem Um{α:Type}{l:List α}{p n k:Nat}(h:p+k<=n:=by omega):((l.take n).drop p).take k=(l.drop p).take k:=by
 rw[kh,ix,dM (by omega)]
theorem Zp{i L sz:Nat}(h:i<L):i*sz+sz<=L*sz:=by
 have:=bu sz (show i+1<=L from h)
 rwa[bf,dy]at this
theorem LU{sz:Nat}:∀{ts:List (List aC)}(j:Nat),(∀t∈ts,t.length=sz)->ts.flatten.take (j*sz)=(ts.take j).flatten
 | ts,0,_=>by simp
 | [],j+1,_=>by simp
 | t::ts,j+1,h=>by
   have ht:=h t dJ;rw[fj,lS,fj,<-LU j fun u hu=>h u (dS _ hu),List.take_append,sy,ht,kU,dD (by omega)]
theorem Lu{sz:Nat}:∀{ts:List (List aC)}(j:Nat),(∀t∈ts,t.length=sz)->ts.flatten.drop (j*sz)=(ts.drop j).flatten
 | ts,0,_=>by simp
 | [],j+1,_=>by simp
 | t::ts,j+1,h=>by
   have ht:=h t dJ;rw[fj,Zo,<-Lu j fun u hu=>h u (dS _ hu),List.drop_append,sy,ht,kU,QN (by omega),List.nil_append]
theorem am0{sz j:Nat}{ts:List (List aC)}{c:List aC}(h:∀t∈ts,t.length=sz)(hj:j<ts.length):(ts.set j c).flatten=ts.flatten.take (j*sz)++c++ts.flatten.drop ((j+1)*sz):=by
 rw[LU j h,Lu (j+1) h,List.set_eq_take_append_cons_drop,aD hj,kW,fj,dc]
structure nJ(E sz:Nat)(ts:List (List aC))(N:Nat->Prop)(W:World)(v:Value)(b:Nat):Prop where
 len:∀t∈ts,t.length=sz
 ex:∃(cap:Nat)(cur:Array Value),v=.slice (some ⟨b,0,none⟩) ts.length cap/\W.heap[b]?=some (.cells cur E (0,0))/\ts.length<=cap/\cap<=maxLen/\cap*sz=cur.size/\ah N W ts.flatten (cur.toList.take (ts.length*sz))
section
variable{P:Program}{o:Oper}{a:Act}{E sz b j:Nat}{ts:List (List aC)}{N N' D:Nat->Prop}{W W':World}{v:Value}{c:List aC}
theorem nJ.mono(h:nJ E sz ts N W v b)(hk:ao N W N' W')(hb:W'.heap[b]?=W.heap[b]?):nJ E sz ts N' W' v b:=by
 obtain⟨cap,cur,h1,h2,h3,h4,h5,h6⟩:=h.ex;exact⟨h.len,cap,cur,h1,hb.trans h2,h3,h4,h5,h6.mono hk⟩
theorem nJ.at(h:nJ E sz ts N W v b)(hc:ts[j]?=some c):∃(cap:Nat)(cur:Array Value),v=.slice (some ⟨b,0,none⟩) ts.length cap/\W.heap[b]?=some (.cells cur E (0,0))/\j*sz+sz<=cur.size/\c.length=sz/\ah N W c ((cur.toList.drop (j*sz)).take sz):=by
 obtain⟨cap,cur,h1,h2,h3,h4,h5,h6⟩:=h.ex;have hm:=Zp (sz:=sz) (bg.1 hc).1;have hm2:=bu sz h3;obtain⟨g1,g2⟩:=zz h.len h6 j c hc;rw[Um hm]at g2;exact⟨cap,cur,h1,h2,by omega,g1,g2⟩
theorem nJ.lt(h:nJ E sz ts N W v b):b<W.heap.size:=by
 obtain⟨_,_,_,h2,_⟩:=h.ex;exact(bt.1 h2).1
theorem nJ.one(h:nJ E sz ts N W v b):v.oneCell'=true:=by
 obtain⟨_,_,h,_⟩:=h.ex;subst h;rfl
theorem nJ.s(h:nJ E sz ts N W v b)(hN:∀k,N' k->N k)(hb:¬N' b):(aC.slice sz ts).rep N' W v:=by
 have h':=h.mono (N':=N') (W':=W) (fun k o hk ho _=>⟨fun h=>hk (hN k h),ho⟩) rfl;obtain⟨cap,cur,h1,h2,h3,h4,_⟩:=h'.ex;refine⟨_,cap,h1,h3,h4,.inr ⟨b,0,cur,E,(0,0),rfl,hb,h2,fun i t ht=>?_⟩⟩;obtain⟨cap2,cur2,_,k2,_,k4,k5⟩:=h'.at ht;rw[h2]at k2;simp only[aU,iy,cT]at k2;subst k2;exact⟨k4,by rwa[bI]⟩
theorem yg{T:Nat}{x i:Operand}{es z g off L cap:Nat}{n:Int}(ho:o.op=.indexAddr T x i)(hx:a.eval x=.slice (some ⟨g,off,none⟩) L cap)(hi:a.eval i=.int .i64 n)(hf:dB P T=some (E,es,z))(h0:0<=n/\n<(L:Int)) :
  (execOp a.eval o).run P W=.ok (.value (.pointer (some ⟨g,off+n.toNat*es,none⟩))) W:=by
 unfold dB at hf;split at hf
 ·rename_i e hu;cases hie:P.info? e with
  | none=>simp[hie]at hf
  | some ie=>
    simp only[hie,cJ,aU,cG]at hf;obtain⟨rfl,rfl,_⟩:=hf;simp[execOp,ho,hx,hi,Instr.indexAt,asIntOf,eM hu,Instr.sureAddr,sizeOf,typeInfo,hie,h0,jU]
 ·cases hf
theorem YP{T:Nat}{x:Operand}(ho:o.op=.load T x)(hx:a.eval x=.pointer (some ⟨b,j*sz,none⟩))(h:nJ E sz ts D W v b)(hc:ts[j]?=some c)(hag:ko P T=some (true,sz)) :
  ∃u,(execOp a.eval o).run P W=.ok (.value u) W/\(aK.agg c).rep D W u:=by
 obtain⟨cap,cur,_,hb,hle,_,hr⟩:=h.at hc;obtain⟨u,hu,hv⟩:=et (w:=W) hag hb (off:=j*sz) hle (.inl rfl);rw[aD rfl]at hv;exact⟨u,mE ho hx hu,_,hv,hr⟩
theorem aU8{T:Nat}{x y:Operand}(ho:o.op=.store T x y)(hx:a.eval x=.pointer (some ⟨b,j*sz,none⟩))(h:nJ E sz ts D W v b)(hD:D b)(hj:j<ts.length)(hcl:c.length=sz)(hag:ko P T=some (true,sz))(hy:(aK.agg c).rep D W (a.eval y)) :
  ∃w',(execOp a.eval o).run P W=.ok .skip w'/\W.grownBy w' (some b)/\nJ E sz (ts.set j c) D w' v b:=by
 obtain⟨cap,cur,rfl,hb,h3,h4,hcap,hr⟩:=h.ex;obtain⟨us,hu,hur⟩:=hy;have hul:us.length=sz:=by have:=hur.length;omega
 have hm:=Zp (sz:=sz) hj;have hm2:=bu sz h3;have hst:=jY (w:=W) hag hb (off:=j*sz) (v:=a.eval y) (by rw[hu];simpa[Value.cells]using hul) (by rw[hu];simpa[Value.cells]using hur.one);have hcells:(a.eval y).cells.toList=us:=by rw[hu];simp[Value.cells]
 rw[hcells]at hst;obtain⟨cs',hcs⟩:∃cs',cs'=(cur.toList.take (j*sz)++us++cur.toList.drop (j*sz+sz)).toArray:=⟨_,rfl⟩
 rw[<-hcs]at hst
 have hsize:cs'.size=cur.size:=by
  rw[hcs];simp only[cb,cK,bL,cj,cB];omega
 have hk:ao D W D (W.setRow b cs'):=fun k q hk hq _=>⟨hk,by rw[eT W b k cs' (fun e=>hk (e▸hD))];exact hq⟩
 refine⟨W.setRow b cs',mm ho hx hst,⟨rfl,rfl,rfl,by simp[World.setRow],fun k _ hne=>eT W b k cs' fun e=>hne (e▸rfl)⟩,fun t ht=>?_,cap,cs',by rw[bH],gm W b cur cs' E (0,0) hb,by rw[bH];exact h3,h4,by rw[hsize];exact hcap,?_⟩
 ·rcases oT ht with h' | h'
  ·exact h.len t h'
  ·rw[h'];exact hcl
 ·have e2:cs'.toList.take (ts.length*sz)=(cur.toList.take (ts.length*sz)).take (j*sz)++us++(cur.toList.take (ts.length*sz)).drop (j*sz+sz):=by
   have hl:(cur.toList.take (j*sz)++us).length=j*sz+sz:=by rw[cK,bL,cB,hul];omega
   rw[hcs];show List.take _ (_++us++_)=_;rw[List.take_append,dD (by omega),hl,ix,dM (by omega),kh]
  rw[bH,am0 h.len hj,e2,sy];exact((hr.take (j*sz)).append hur |>.append (hr.drop (j*sz+sz))).mono hk
end
theorem XK{α:Type}{l:List α}{j:Nat}{x:α}(h:l[j]?=some x):(l.drop j).take 1=[x]:=by
 obtain⟨hlt,hv⟩:=bg.1 h;rw[iG hlt,hv];rfl
theorem MB{r:List RQ}{j:Nat}(h:j<r.length):r[j]?=some (r.getD j RQ.nil):=by rw[ew,bB h];rfl
theorem bf5{r:List RQ}{j:Nat}(h:j<r.length):(rR r)[j]?=some (rC (r.getD j RQ.nil)):=by rw[cU,MB h];rfl
structure Tb(D:Nat->Prop)(va:Value)(m:Nat)(vs:List Value)(bs:List Nat)(rk:List (List RQ))(W:World):Prop where
 own:W.ownsRow 0 32 1 va m vs
 lr:rk.length=m
 lb:bs.length=m
 inj:∀(i j b:Nat),bs[i]?=some b->bs[j]?=some b->i=j
 row:∀(j:Nat)(v:Value)(b:Nat)(r:List RQ),vs[j]?=some v->bs[j]?=some b->rk[j]?=some r->nJ 51 4 (rR r) D W v b
 db:∀b∈bs,D b
 dg:∀g,va.ownBlock=some g->D g/\g ∉ bs
section
variable{D N:Nat->Prop}{va:Value}{m:Nat}{vs:List Value}{bs:List Nat}{rk:List (List RQ)}{W W':World}{o:Oper}{a:Act}
theorem Tb.lv(h:Tb D va m vs bs rk W):vs.length=m:=by have:=h.own.1;omega
structure Xb(D:Nat->Prop)(va:Value)(m:Nat)(bs:List Nat)(W:World)(j:Nat)(g cap b:Nat)(v:Value)(r:List RQ):Prop where
 e:va=.slice (some ⟨g,0,none⟩) m cap
 c:∃cur:Array Value,W.heap[g]?=some (.cells cur 32 (0,0))/\j+1<=cur.size/\(cur.toList.drop j).take 1=[v]
 row:nJ 51 4 (rR r) D W v b
 db:D b
 dg:D g
 ng:g≠b
theorem Tb.at(h:Tb D va m vs bs rk W){j:Nat}(hj:j<m):∃g cap b v r,vs[j]?=some v/\bs[j]?=some b/\rk[j]?=some r/\Xb D va m bs W j g cap b v r:=by
 have h1:=h.lv;have h2:=h.lb;have h3:=h.lr;have e1:vs[j]?=some (vs[j]'(by omega)):=bB (by omega);have e2:bs[j]?=some (bs[j]'(by omega)):=bB (by omega);have e3:rk[j]?=some (rk[j]'(by omega)):=bB (by omega);rcases h.own.2 with⟨_,h0⟩ | ⟨g,cap,cur,e,_,hc,hn,hm,hcs,ht⟩
 ·omega
 have hd:=h.dg g (by rw[e];rfl);refine⟨g,cap,_,_,_,e1,e2,e3,e,⟨cur,hc,by omega,?_⟩,h.row j _ _ _ e1 e2 e3,h.db _ (cq e2),hd.1,fun e=>hd.2 (e▸cq e2)⟩;rw[de]at ht;rw[<-Um (n:=m),ht];exact XK e1
theorem Tb.dC(h:Tb D va m vs bs rk W)(hk:ao D W N W')(hN:∀k,(k∈bs\/va.ownBlock=some k)->N k/\W'.heap[k]?=W.heap[k]?):Tb N va m vs bs rk W':=by
 refine⟨⟨h.own.1,?_⟩,h.lr,h.lb,h.inj,fun j v b r h1 h2 h3=>(h.row j v b r h1 h2 h3).mono hk (hN b (.inl (cq h2))).2,fun b hb=>(hN b (.inl hb)).1,fun g hg=>⟨(hN g (.inr hg)).1,(h.dg g hg).2⟩⟩;rcases h.own.2 with hn | ⟨g,cap,cur,e,hbg,hg,rest⟩
 ·exact .inl hn
 ·exact .inr ⟨g,cap,cur,e,hbg,(hN g (.inr (by rw[e];rfl))).2.trans hg,rest⟩
theorem Tb.lt(h:Tb D va m vs bs rk W){k:Nat}(hk:k∈bs\/va.ownBlock=some k):k<W.heap.size:=by
 rcases hk with hk | hk
 ·obtain⟨j,hj⟩:=jn hk;have:=(bg.1 hj).1;have h1:=h.lv;have h2:=h.lb;have h3:=h.lr;exact(h.row j _ k _ (bB (show j<vs.length by omega)) hj (bB (show j<rk.length by omega))).lt
 ·exact(h.own.lt k hk).2
theorem Tb.below(h:Tb D va m vs bs rk W)(hb:Below W.heap.size W W'):Tb D va m vs bs rk W':=
 h.dC (ao.below hb) fun k hk=>⟨hk.elim (h.db k) fun h'=>(h.dg k h').1,hb.block k (h.lt hk)⟩
theorem Tb.set(h:Tb D va m vs bs rk W)(hF:bQ D W){i b:Nat}{v:Value}{r:List RQ}(hv:vs[i]?=some v)(hb:bs[i]?=some b)(hg:W.grownBy W' (some b))(hr:nJ 51 4 (rR r) D W' v b):Tb D va m vs bs (rk.set i r) W':=by
 have hbm:=cq hb;have hDb:=h.db b hbm;have hk:ao D W D W':=fun k o hk ho _=>⟨hk,(hg.block k (bt.1 ho).1 fun e=>hk (bh e▸hDb)).trans ho⟩
 have hs:∀k,D k->k≠b->W'.heap[k]?=W.heap[k]?:=fun k hk hne=>hg.block k (hF.1 k hk) fun e=>hne (bh e);have hlr:=h.lr;have hlb:=h.lb;have hib:=(bg.1 hb).1;refine⟨⟨h.own.1,?_⟩,by rw[bH];exact hlr,hlb,h.inj,fun j v' b' r' h1 h2 h3=>?_,h.db,h.dg⟩
 ·rcases h.own.2 with hn | ⟨g,cap,cur,e,hbg,hgc,rest⟩
  ·exact .inl hn
  ·have hd:=h.dg g (by rw[e];rfl);exact .inr ⟨g,cap,cur,e,hbg,(hs g hd.1 fun e=>hd.2 (e▸hbm)).trans hgc,rest⟩
 ·by_cases e:j=i
  ·subst e;rw[hv]at h1;cases h1;rw[hb]at h2;cases h2;rw[iV (by omega)]at h3;cases h3;exact hr
  ·rw[kI (gB e)]at h3;exact(h.row j v' b' r' h1 h2 h3).mono hk (hs b' (h.db b' (cq h2)) fun e'=>e (h.inj j i b (e'▸h2) hb))
theorem Tb.eR(h:Tb D va m vs bs rk W)(hN:∀k,N k->D k)(hn:∀k,(k∈bs\/va.ownBlock=some k)->¬N k):(eR rk).rep N W va:=by
 have h1:=h.lv;have h3:=h.lr;rcases h.own.2 with⟨rfl,h0⟩ | ⟨g,cap,cur,e,_,hc,hnc,hm,hcs,ht⟩
 ·have:rk=[]:=eO (by omega);subst this;exact⟨none,0,rfl,aY _,by decide,.inl rfl⟩
 subst e;refine⟨_,cap,by rw[aJ,h3],by rw[aJ];omega,hm,.inr ⟨g,0,cur,_,_,rfl,hn g (.inr rfl),hc,fun i t ht'=>?_⟩⟩;rw[cU,qS]at ht';obtain⟨r,hr,rfl⟩:=ht';have hi:i<m:=by have:=(bg.1 hr).1;omega
 obtain⟨g',cap',b,v,r',hv,hbb,hr',hat⟩:=h.at hi;rw[hr]at hr';cases hr';obtain⟨cur',hc',_,hv'⟩:=hat.c;have he:=hat.e;simp only[iB,aU,fy,cT,lW]at he;obtain⟨rfl,rfl⟩:=he;rw[hc]at hc';simp only[aU,iy,cT]at hc';subst hc';refine⟨rfl,?_⟩;rw[bI,de,hv'];exact⟨hat.row.s hN (hn b (.inl (cq hbb))),trivial⟩
end
theorem Xb.addr{D:Nat->Prop}{va:Value}{m:Nat}{bs:List Nat}{W:World}{j g cap b:Nat}{v:Value}{r:List RQ}{o:Oper}{a:Act}(h:Xb D va m bs W j g cap b v r){x i:Operand}(ho:o.op=.indexAddr 177 x i)(hx:a.eval x=va)(hi:a.eval i=.int .i64 (j:Int))(hj:j<m):(execOp a.eval o).run prog W=.ok (.value (.pointer (some ⟨g,j,none⟩))) W:=by
 have:=yg (P:=prog) (W:=W) ho (hx.trans h.e) hi uw ⟨by omega,by omega⟩
 rwa[al,de,bI]at this
theorem Xb.load{D:Nat->Prop}{va:Value}{m:Nat}{bs:List Nat}{W:World}{j g cap b:Nat}{v:Value}{r:List RQ}{o:Oper}{a:Act}(h:Xb D va m bs W j g cap b v r){x:Operand}(ho:o.op=.load 32 x)(hx:a.eval x=.pointer (some ⟨g,j,none⟩)):(execOp a.eval o).run prog W=.ok (.value v) W:=by
 obtain⟨cur,hc,hl,hv⟩:=h.c;obtain⟨u,hu,he⟩:=et (P:=prog) (w:=W) (show ko prog 32=some (false,1) by kernel_rfl) hc (off:=j) hl (.inr rfl);simp only[dm,cN]at he;rw[hv]at he;cases he;exact mE ho hx hu
theorem nJ.addr{D:Nat->Prop}{W:World}{j b:Nat}{v:Value}{ts:List (List aC)}{o:Oper}{a:Act}(h:nJ 51 4 ts D W v b){x i:Operand}(ho:o.op=.indexAddr 32 x i)(hx:a.eval x=v)(hi:a.eval i=.int .i64 (j:Int))(hj:j<ts.length):(execOp a.eval o).run prog W=.ok (.value (.pointer (some ⟨b,j*4,none⟩))) W:=by
 obtain⟨cap,_,hv,_⟩:=h.ex;have:=yg (P:=prog) (W:=W) ho (hx.trans hv) hi rb ⟨by omega,by omega⟩
 rwa[al,bI]at this
abbrev Ps:=Nat->(Nat->Bool)->World->Value->Prop
structure PG(B:(Nat->Bool)->Act->World->Prop)(p:Ps)(ds:List Nat)(N:Nat)(a1:Act)(L:Nat->Bool)(a:Act)(W:World):Prop where
 sz:a.tmps.size=N
 df:a.defers=[]
 w:B L a W
 dC:∀t,t ∉ ds->a.tmps.getD t undef=a1.tmps.getD t undef
 done:∀i d,ds[i]?=some d->L i=true->p i L W (a.tmps.getD d undef)
theorem PG.put{B:(Nat->Bool)->Act->World->Prop}{p:Ps}{ds:List Nat}{N:Nat}{a1 a:Act}{W W':World}{L:Nat->Bool}(I:PG B p ds N a1 L a W){i d:Nat}{v:Value}(h:ds[i]?=some d)(hd:d<N)(hn:ds.Nodup)(hL:L i=false)(hb:B (Lx L i) (a.put (some d) v) W')(hp:p i (Lx L i) W' v)(hs:∀j u,j≠i->L j=true->p j L W u->p j (Lx L i) W' u):PG B p ds N a1 (Lx L i) (a.put (some d) v) W':=by
 have hg:∀d',(a.put (some d) v).tmps.getD d' undef=if d'=d then v else a.tmps.getD d' undef:=fun d'=>mz (by rw[I.sz];omega)
 refine⟨by show(a.tmps.setIfInBounds d v).size=N;rw[sf];exact I.sz,I.df,hb,fun t ht=>?_,fun j e hj hLj=>?_⟩
 ·rw[hg,aH fun(e:t=d)=>ht (e▸cq h)];exact I.dC t ht
 ·rw[hg];by_cases hji:j=i
  ·subst hji;rw[h]at hj;cases hj;rw[aD rfl];exact hp
  ·rw[aH fun e'=>hji ((List.getElem?_inj (bg.1 hj).1 hn).1 (by rw[hj,h,e']))];exact hs j _ hji (mK hLj hji) (I.done j e hj (mK hLj hji))
def Uc(ops:List Oper)(ds:List Nat)(N:Nat):Bool:=
 (List.range (ds.length+1)).all (fun i=>match ops[i]? with | some o=>o.guard.isNone&&((bE o).all (fun j=>decide (j<i))&&(if i=ds.length then(List.range ds.length).all (fun j=>(bE o).contains j)else o.dst==ds[i]?)) | none=>false)&&(ops.length==ds.length+1&&(decide ds.Nodup&&ds.all (fun d=>decide (d<N))))
theorem uP{id N:Nat}{ops:Array Oper}{ds:List Nat}{B:(Nat->Bool)->Act->World->Prop}{p:Ps}{a1:Act}{W1:World}{Q:Exit->Act->World->Prop}(hok:Uc ops.toList ds N=true)(hsz:a1.tmps.size=N)(hdf:a1.defers=[])(hB:∀L,(∀i,L i=false)->B L a1 { W1 with drawn:=W1.drawn+1 })
  (step:∀(i d:Nat)(o:Oper)(L:Nat->Bool)(a:Act)(W:World),ops[i]?=some o->ds[i]?=some d->L i=false->(∀j∈bE o,L j=true)->PG B p ds N a1 L a W->∀K:Act->World->Prop,(∀v W',B (Lx L i) (a.put o.dst v) W'->p i (Lx L i) W' v->(∀j u,j≠i->L j=true->p j L W u->p j (Lx L i) W' u)->K (a.put o.dst v) W')->o.wp prog a W K Q)
  (last:∀(o:Oper)(L:Nat->Bool)(a:Act)(W:World),ops[ds.length]?=some o->(∀j,j<ds.length->L j=true)->PG B p ds N a1 L a W->o.wp prog a W (Q .normal) Q):(Code.region id ops true).wp prog Q a1 W1:=by
 unfold Uc at hok;simp only[bR,da,jd,eu,gE,cB]at hok;obtain⟨h1,h2,h3,h4⟩:=hok
 have hop:∀i o,ops[i]?=some o->o.guard=none/\(∀j∈bE o,j<i)/\(i=ds.length->∀j,j<ds.length->j∈bE o)/\(i≠ds.length->o.dst=ds[i]?):=fun i o ho=>by
  have hi:=(bt.1 ho).1;have:=h1 i (by omega);rw[jf,ho]at this;dsimp only at this;rw[bR,bR]at this;obtain⟨k1,k2,k3⟩:=this;refine⟨by simpa using k1,by simpa using k2,fun e=>?_,fun e=>?_⟩
  ·rw[aD e]at k3;simpa using k3
  ·rw[aH e]at k3;simpa using k3
 refine zi fo ?_;refine uU (fun L a W=>(L ds.length=false/\PG B p ds N a1 L a W)\/(L ds.length=true/\Q .normal a W)) ?_ (fun i o ho=>(hop i o ho).2.1) ?_ _ _ _ _ (by simp) ?_ (bF (sF _ _) (by simp)) ?_
 ·intro L i o a W ho hL hdep hcl hI;have hi:=(bt.1 ho).1;obtain⟨hg,hlt,hlast,hds⟩:=hop i o ho
  have hnf:L ds.length=false:=by
   cases hf:L ds.length with
   | false=>rfl
   | true=>
     by_cases e:i=ds.length
     ·subst e;rw[hL]at hf;cases hf
     ·obtain⟨oL,hoL⟩:∃oL,ops[ds.length]?=some oL:=⟨_,qP (by omega)⟩
      rw[hcl _ oL hoL hf i ((hop _ oL hoL).2.2.1 rfl i (by omega))]at hL;cases hL
  have I:=(hI.resolve_right fun h=>by rw[hnf]at h;cases h.1).2;refine cz ho hg ?_;by_cases e:i=ds.length
  ·subst e;exact Oper.wp_mono (fun a' W' h=>.inr ⟨by simp,h⟩) (last o L a W ho (fun j hj=>hdep j (hlast rfl j hj)) I)
  ·obtain⟨d,hd⟩:∃d,ds[i]?=some d:=⟨_,bB (by omega)⟩
   refine step i d o L a W ho hd hL hdep I _ fun v W' hbw hv hs=>.inl ⟨?_,?_⟩
   ·have:(ds.length==i)=false:=by simpa using gB e
    simp[hnf,this]
   ·rw[hds e,hd]at hbw|-;exact I.put hd (h4 d (cq hd)) h3 hL hbw hv hs
 ·rintro L a W hall (⟨h,_⟩ | ⟨_,h⟩)
  ·rw[hall ds.length (by omega)]at h;cases h
  ·exact h
 ·intro j o' ho hj;rw[gg]at hj;cases hj
 ·refine .inl ⟨gg _ _,hsz,hdf,hB _ (gg _),fun t _=>rfl,fun i d _ hL=>?_⟩;rw[gg]at hL;cases hL
theorem kr{l:Array Oper}{i:Nat}{o o':Oper}(h:l[i]?=some o)(h':l[i]?=some o'):o=o':=bh (h.symm.trans h')
theorem ag4:ko prog 51=some (true,4):=by kernel_rfl
abbrev xP(b o:Nat):aK:=.one (.exact (.pointer (some ⟨b,o,none⟩)))
abbrev xT(v:Value):aK:=.one (.exact v)
abbrev xI(k:Nat):aK:=.one (.int .i64 (k:Int))
def pS(D:Nat->Prop)(cs:List aK):Ps:=fun i _ W v=>∀c,cs[i]?=some c->c.rep D W v
section
variable{B:(Nat->Bool)->Act->World->Prop}{D:Nat->Prop}{cs:List aK}{i:Nat}{c:aK}{L:Nat->Bool}{a:Act}{o:Oper}{W W' W1:World}{v:Value}{K:Act->World->Prop}{Q:Exit->Act->World->Prop}
abbrev Kn(B:(Nat->Bool)->Act->World->Prop)(D:Nat->Prop)(cs:List aK)(i:Nat)(L:Nat->Bool)(a:Act)(o:Oper)(W:World)(K:Act->World->Prop):Prop:=∀v W',B (Lx L i) (a.put o.dst v) W'->pS D cs i (Lx L i) W' v->(∀j u,j≠i->L j=true->pS D cs j L W u->pS D cs j (Lx L i) W' u)->K (a.put o.dst v) W'
theorem WZ(hK:Kn B D cs i L a o W K)(hB:B (Lx L i) (a.put o.dst v) W')(hb:Below W.heap.size W W')(hv:∀c,cs[i]?=some c->c.rep D W' v):K (a.put o.dst v) W':=
 hK v W' hB hv fun j u _ _ h c' hc'=>aK.gJ (ao.below hb) (h c' hc')
theorem am4(hK:Kn B D cs i L a o W K)(hB:B (Lx L i) (a.put o.dst v) W)(hc:cs[i]?=some c)(hr:(execOp a.eval o).run prog W=.ok (.value v) W)(hv:c.rep D W v):o.wp prog a W K Q:=
 av hr (WZ hK hB (cM _ _) fun c' h=>by rw[hc]at h;cases h;exact hv)
theorem Qd{N:Nat->Prop}{f:FuncId}{args:List aK}{cl:Call}{x:Operand}(hK:Kn B D cs i L a o W K)(hB:∀v W',Below W.heap.size W W'->c.rep N W' v->B (Lx L i) (a.put o.dst v) W')(hc:∀v W',c.rep N W' v->∀c',cs[i]?=some c'->c'.rep D W' v)(hd:aW prog f args (.ret [c]))(ho:o.op=.call cl)(hcl:cl.callee=.value x)(hx:a.eval x=.func (.func f) #[] #[])(hF:bQ N W)(hr:bZ N W args (cl.args.toList.map a.eval)):o.wp prog a W K Q:=by
 refine pG (cvs:=[]) ho hcl hx hd.1 (by rw[bj];exact hd.2 N W _ hF hr) ?_;rintro e w' ⟨hb,vs,rfl,hrep⟩
 match vs,hrep with
 | [v],hrep=>exact⟨v,rfl,WZ hK (hB v w' hb hrep.1) hb (hc v w' hrep.1)⟩
 | [],h=>exact h.elim
 | _::_::_,h=>exact h.2.elim
theorem Tb.upd{va:Value}{m:Nat}{vs:List Value}{bs:List Nat}{rk:List (List RQ)}{j g cap b:Nat}{r:List RQ}(h:Tb D va m vs bs rk W')(t:Xb D va m bs W j g cap b v r)(hv:vs[j]?=some v)(hb:bs[j]?=some b)(hr:rk[j]?=some r):Xb D va m bs W' j g cap b v r:=by
 have hj:j<m:=by have:=h.lr;have:=(bg.1 hr).1;omega
 obtain⟨g2,cap2,b2,v2,r2,k1,k2,k3,k4⟩:=h.at hj;rw[hv]at k1;cases k1;rw[hb]at k2;cases k2;rw[hr]at k3;cases k3;have:=t.e.symm.trans k4.e;simp only[iB,aU,fy,cT,lW]at this;obtain⟨rfl,rfl⟩:=this;exact k4
end
noncomputable def dz:Array Oper:=match aI [1,1,1,1,0,1,0,0,1,0,0,1,1,1,1,1,0,0,1,0,0,1,1,1,0,0,1,0,0] (aL f128)with
 | .region _ ops _=>ops
 | _=>#[]
def bb3:List Nat:=List.range' 116 23
theorem bz3:Uc dz.toList bb3 163=true:=by kernel_rfl
theorem VU{D:Nat->Prop}{va:Value}{m:Nat}{vs:List Value}{bs:List Nat}{rk:List (List RQ)}{W1:World}{a1:Act}{Q:Exit->Act->World->Prop}{i j k A B:Nat}{r p:List RQ}{f:Rat}(hF:bQ D W1)(T:Tb D va m vs bs rk W1)(hr:rk[i]?=some r)(hp:rk[k]?=some p)(hjr:j<r.length)(hjp:j<p.length)
  (hfr:Fit A (r.getD j RQ.nil).q) (hfp:Fit A (p.getD j RQ.nil).q) (hff:Fit B f) (hAB:B+A+A<=4294967296) (hsz:a1.tmps.size=163) (hdf:a1.defers=[]) (t7:a1.tmps.getD 7 undef=va) (t9:a1.tmps.getD 9 undef=.int .i64 (k:Int)) (t11:a1.tmps.getD 11 undef=.int .i64 (i:Int)) (t13:a1.tmps.getD 13 undef=.int .i64 (j:Int)) (t12:(aC.aq (rC (.of f))).rep D W1 (a1.tmps.getD 12 undef))
  (hQ:∀(a':Act)(W2:World)(b:Nat),a'.tmps.size=163->a'.defers=[]->(∀t,t<116->a'.tmps.getD t undef=a1.tmps.getD t undef)->b∈bs->W1.grownBy W2 (some b)->bQ D W2->Tb D va m vs bs (rk.set i (r.set j (.of ((r.getD j RQ.nil).q-f*(p.getD j RQ.nil).q)))) W2->Q .normal a' W2):(Code.region 24 dz true).wp prog Q a1 W1:=by
 have hlr:=T.lr;have hi:i<m:=by have:=(bg.1 hr).1;omega
 have hk:k<m:=by have:=(bg.1 hp).1;omega
 obtain⟨g,cap,b,v,r',hv,hb,hr',Ti⟩:=T.at hi;obtain⟨g',cap',bk,u,p',hu,hbk,hp',Tk⟩:=T.at hk;rw[hr]at hr';cases hr';rw[hp]at hp';cases hp';have eg:g'=g:=by have:=Ti.e.symm.trans Tk.e;simp only[iB,aU,fy,cT,lW]at this;exact this.1.symm
 subst eg;obtain⟨cs,hcs⟩:∃cs:List aK,cs=[xT va,xI i,xP g' i,xT v,xI j,xT va,xI i,xP g' i,xT v,xI j,xP b (j*4),mB (r.getD j RQ.nil),mB (.of f),xT va,xI k,xP g' k,xT u,xI j,xP bk (j*4),mB (p.getD j RQ.nil),mB (.of (f*(p.getD j RQ.nil).q)),mB (.of ((r.getD j RQ.nil).q-f*(p.getD j RQ.nil).q)),xP b (j*4)]:=⟨_,rfl⟩
 have hva:va.oneCell'=true:=by rw[Ti.e];rfl
 have hjr':j<(rR r).length:=by rw[aJ];exact hjr
 have hjp':j<(rR p).length:=by rw[aJ];exact hjp
 have hlow:∀t,t<116->t ∉ bb3:=fun t ht h=>by have:=MN.1 h;omega
 refine uP (B:=fun _ _ W=>Below W1.heap.size W1 W) (p:=pS D cs) bz3 hsz hdf (fun _ _=>⟨rfl,rfl,rfl,aY _,fun _ _=>rfl⟩) ?_ ?_
 ·intro q d o L a W ho hd hL hdep I K hK;have hq:q<23:=(bg.1 hd).1;have T':=T.below I.w;have hF':=aa hF I.w;have hkv:=T'.row i v b r hv hb hr;have hku:=T'.row k u bk p hu hbk hp;have Ti':=T'.upd Ti hv hb hr;have Tk':=T'.upd Tk hu hbk hp;have kp:∀t,t<116->a.tmps.getD t undef=a1.tmps.getD t undef:=fun t ht=>I.dC t (hlow t ht);have vx:∀{j d:Nat}{c:aK},bb3[j]?=some d->cs[j]?=some c->j∈bE o->c.rep D W (a.tmps.getD d undef):=fun {j d c} h1 h2 h3=>I.done j d h1 (hdep j h3) c h2;have go:∀{c:aK}{v:Value},cs[q]?=some c->(execOp a.eval o).run prog W=.ok (.value v) W->c.rep D W v->o.wp prog a W K Q:=fun hc hr hv=>am4 (B:=fun _ _ W=>Below W1.heap.size W1 W) (D:=D) (cs:=cs) (i:=q) (L:=L) hK I.w hc hr hv;have goc:∀{f:FuncId}{args:List aK}{c:aK}{cl:Call}{x:Operand},cs[q]?=some c->aW prog f args (.ret [c])->o.op=.call cl->cl.callee=.value x->a.eval x=.func (.func f) #[] #[]->bZ D W args (cl.args.toList.map a.eval)->o.wp prog a W K Q:=fun hc hd ho hcl hx hr=>Qd (B:=fun _ _ W=>Below W1.heap.size W1 W) (D:=D) (cs:=cs) (i:=q) (L:=L) hK (fun _ _ hb _=>I.w.trans (hb.mono I.w.size)) (fun v W' hv c' h=>by rw[hc]at h;cases h;exact hv) hd ho hcl hx hF' hr
  have gel:∀{b j:Nat}{v:Value}{r:List RQ}{x:Operand},o.op=.load 51 x->a.eval x=.pointer (some ⟨b,j*4,none⟩)->nJ 51 4 (rR r) D W v b->j<r.length->cs[q]?=some (mB (r.getD j RQ.nil))->o.wp prog a W K Q:=fun h1 h2 h3 h4 h5=>by
   obtain⟨x,hx,hxr⟩:=YP h1 h2 h3 (bf5 h4) ag4;exact go h5 hx hxr
  have gld:o.op=.load 51 (.tmp 12)->cs[q]?=some (mB (.of f))->o.wp prog a W K Q:=fun h1 h2=>by
   have h12:(aC.aq (rC (.of f))).rep D W (a.tmps.getD 12 undef):=by rw[kp 12 (by omega)];exact aC.mono _ (ao.below I.w) t12
   obtain⟨x,hx,hxr⟩:=ab (x:=.tmp 12) (ty:=o.type) (cells:=rC (.of f)) ag4 (by decide) (aY _) (.inl rfl) D W a.eval o h1 rfl ⟨h12,trivial⟩;exact go h2 hx hxr
  match q,hq with
  | 0,_=>
    obtain rfl:=kr ho (rfl:dz[0]?=some _);exact go (c:=xT va) (by rw[hcs];rfl) rfl ⟨(kp 7 (by omega)).trans t7,hva⟩
  | 1,_=>
    obtain rfl:=kr ho (rfl:dz[1]?=some _);exact go (c:=xI i) (by rw[hcs];rfl) rfl ⟨(kp 11 (by omega)).trans t11,rfl⟩
  | 2,_=>
    obtain rfl:=kr ho (rfl:dz[2]?=some _);exact go (c:=xP g' i) (by rw[hcs];rfl) (Ti'.addr rfl (vx (j:=0) (c:=xT va) rfl (by rw[hcs];rfl) (by decide)).1 (vx (j:=1) (c:=xI i) rfl (by rw[hcs];rfl) (by decide)).1 hi) ⟨rfl,rfl⟩
  | 3,_=>
    obtain rfl:=kr ho (rfl:dz[3]?=some _);exact go (c:=xT v) (by rw[hcs];rfl) (Ti'.load rfl (vx (j:=2) (c:=xP g' i) rfl (by rw[hcs];rfl) (by decide)).1) ⟨rfl,hkv.one⟩
  | 4,_=>
    obtain rfl:=kr ho (rfl:dz[4]?=some _);exact go (c:=xI j) (by rw[hcs];rfl) rfl ⟨(kp 13 (by omega)).trans t13,rfl⟩
  | 5,_=>
    obtain rfl:=kr ho (rfl:dz[5]?=some _);exact go (c:=xT va) (by rw[hcs];rfl) rfl ⟨(kp 7 (by omega)).trans t7,hva⟩
  | 6,_=>
    obtain rfl:=kr ho (rfl:dz[6]?=some _);exact go (c:=xI i) (by rw[hcs];rfl) rfl ⟨(kp 11 (by omega)).trans t11,rfl⟩
  | 7,_=>
    obtain rfl:=kr ho (rfl:dz[7]?=some _);exact go (c:=xP g' i) (by rw[hcs];rfl) (Ti'.addr rfl (vx (j:=5) (c:=xT va) rfl (by rw[hcs];rfl) (by decide)).1 (vx (j:=6) (c:=xI i) rfl (by rw[hcs];rfl) (by decide)).1 hi) ⟨rfl,rfl⟩
  | 8,_=>
    obtain rfl:=kr ho (rfl:dz[8]?=some _);exact go (c:=xT v) (by rw[hcs];rfl) (Ti'.load rfl (vx (j:=7) (c:=xP g' i) rfl (by rw[hcs];rfl) (by decide)).1) ⟨rfl,hkv.one⟩
  | 9,_=>
    obtain rfl:=kr ho (rfl:dz[9]?=some _);exact go (c:=xI j) (by rw[hcs];rfl) rfl ⟨(kp 13 (by omega)).trans t13,rfl⟩
  | 10,_=>
    obtain rfl:=kr ho (rfl:dz[10]?=some _);exact go (c:=xP b (j*4)) (by rw[hcs];rfl) (hkv.addr rfl (vx (j:=8) (c:=xT v) rfl (by rw[hcs];rfl) (by decide)).1 (vx (j:=9) (c:=xI j) rfl (by rw[hcs];rfl) (by decide)).1 hjr') ⟨rfl,rfl⟩
  | 11,_=>
    obtain rfl:=kr ho (rfl:dz[11]?=some _);exact gel rfl (vx (j:=10) (c:=xP b (j*4)) rfl (by rw[hcs];rfl) (by decide)).1 hkv hjr (by rw[hcs];rfl)
  | 12,_=>
    obtain rfl:=kr ho (rfl:dz[12]?=some _);exact gld rfl (by rw[hcs];rfl)
  | 13,_=>
    obtain rfl:=kr ho (rfl:dz[13]?=some _);exact go (c:=xT va) (by rw[hcs];rfl) rfl ⟨(kp 7 (by omega)).trans t7,hva⟩
  | 14,_=>
    obtain rfl:=kr ho (rfl:dz[14]?=some _);exact go (c:=xI k) (by rw[hcs];rfl) rfl ⟨(kp 9 (by omega)).trans t9,rfl⟩
  | 15,_=>
    obtain rfl:=kr ho (rfl:dz[15]?=some _);exact go (c:=xP g' k) (by rw[hcs];rfl) (Tk'.addr rfl (vx (j:=13) (c:=xT va) rfl (by rw[hcs];rfl) (by decide)).1 (vx (j:=14) (c:=xI k) rfl (by rw[hcs];rfl) (by decide)).1 hk) ⟨rfl,rfl⟩
  | 16,_=>
    obtain rfl:=kr ho (rfl:dz[16]?=some _);exact go (c:=xT u) (by rw[hcs];rfl) (Tk'.load rfl (vx (j:=15) (c:=xP g' k) rfl (by rw[hcs];rfl) (by decide)).1) ⟨rfl,hku.one⟩
  | 17,_=>
    obtain rfl:=kr ho (rfl:dz[17]?=some _);exact go (c:=xI j) (by rw[hcs];rfl) rfl ⟨(kp 13 (by omega)).trans t13,rfl⟩
  | 18,_=>
    obtain rfl:=kr ho (rfl:dz[18]?=some _);exact go (c:=xP bk (j*4)) (by rw[hcs];rfl) (hku.addr rfl (vx (j:=16) (c:=xT u) rfl (by rw[hcs];rfl) (by decide)).1 (vx (j:=17) (c:=xI j) rfl (by rw[hcs];rfl) (by decide)).1 hjp') ⟨rfl,rfl⟩
  | 19,_=>
    obtain rfl:=kr ho (rfl:dz[19]?=some _);exact gel rfl (vx (j:=18) (c:=xP bk (j*4)) rfl (by rw[hcs];rfl) (by decide)).1 hku hjp (by rw[hcs];rfl)
  | 20,_=>
    obtain rfl:=kr ho (rfl:dz[20]?=some _);exact goc (c:=mB (.of (f*(p.getD j RQ.nil).q))) (by rw[hcs];rfl) (ES (.of f) (p.getD j RQ.nil) B A hff hfp) rfl rfl rfl ⟨(vx (j:=12) (c:=mB (.of f)) rfl (by rw[hcs];rfl) (by decide)),(vx (j:=19) (c:=mB (p.getD j RQ.nil)) rfl (by rw[hcs];rfl) (by decide)),trivial⟩
  | 21,_=>
    obtain rfl:=kr ho (rfl:dz[21]?=some _);exact goc (c:=mB (.of ((r.getD j RQ.nil).q-f*(p.getD j RQ.nil).q))) (by rw[hcs];rfl) (bv0 (r.getD j RQ.nil) (.of (f*(p.getD j RQ.nil).q)) A (B+A) hfr (hff.mul hfp)) rfl rfl rfl ⟨(vx (j:=11) (c:=mB (r.getD j RQ.nil)) rfl (by rw[hcs];rfl) (by decide)),(vx (j:=20) (c:=mB (.of (f*(p.getD j RQ.nil).q))) rfl (by rw[hcs];rfl) (by decide)),trivial⟩
  | 22,_=>
    obtain rfl:=kr ho (rfl:dz[22]?=some _);exact go (c:=xP b (j*4)) (by rw[hcs];rfl) (hkv.addr rfl (vx (j:=3) (c:=xT v) rfl (by rw[hcs];rfl) (by decide)).1 (vx (j:=4) (c:=xI j) rfl (by rw[hcs];rfl) (by decide)).1 hjr') ⟨rfl,rfl⟩
 ·intro o L a W ho hall I;have T':=T.below I.w;have hF':=aa hF I.w;have vx:∀{j d:Nat}{c:aK},bb3[j]?=some d->cs[j]?=some c->c.rep D W (a.tmps.getD d undef):=fun {j d c} h1 h2=>I.done j d h1 (hall j (bg.1 h1).1) c h2;obtain⟨W2,hst,hg,hrow⟩:=aU8 (x:=.tmp 138) (y:=.tmp 137) (o:=o) (a:=a) (c:=rC (.of ((r.getD j RQ.nil).q-f*(p.getD j RQ.nil).q))) (by have:=kr ho (rfl:dz[23]?=some _);subst this;rfl) (vx (j:=22) (c:=xP b (j*4)) rfl (by rw[hcs];rfl)).1 (T'.row i v b r hv hb hr) Ti.db hjr' rfl ag4 (vx (j:=21) (c:=mB (.of ((r.getD j RQ.nil).q-f*(p.getD j RQ.nil).q))) rfl (by rw[hcs];rfl));rw[show(rR r).set j (rC (.of ((r.getD j RQ.nil).q-f*(p.getD j RQ.nil).q)))=rR (r.set j (.of ((r.getD j RQ.nil).q-f*(p.getD j RQ.nil).q))) by rw[<-qD]]at hrow;obtain rfl:=kr ho (rfl:dz[23]?=some _);refine qO hst (hQ _ _ b (by exact I.sz) I.df (fun t ht=>I.dC t (hlow t ht)) (cq hb) ?_ ?_ (T'.set hF' hv hb hg hrow))
  ·exact⟨hg.os.trans I.w.os,hg.tape.trans I.w.tape,hg.output.trans I.w.output,bF I.w.size hg.size,fun q hq hne=>(hg.block q (br hq I.w.size) hne).trans (I.w.block q hq)⟩
  ·exact⟨fun q hq=>br (hF'.1 q hq) hg.size,hF'.2.dC (gY Ti.db hg)⟩
noncomputable def gO:Array Oper:=match aI [1,1,1,1,0,1,0,0,1,0,0,1,1,1,1,1,0,0,1,0,0,1,0] (aL f128)with
 | .region _ ops _=>ops
 | _=>#[]
def bz7:List Nat:=List.range' 95 15++[12]
theorem bs0:Uc gO.toList bz7 163=true:=by kernel_rfl
theorem WX{D:Nat->Prop}{va:Value}{m:Nat}{vs:List Value}{bs:List Nat}{rk:List (List RQ)}{W1:World}{a1:Act}{Q:Exit->Act->World->Prop}{i k A:Nat}{r p:List RQ}(hF:bQ D W1)(T:Tb D va m vs bs rk W1)(hr:rk[i]?=some r)(hp:rk[k]?=some p)(hjr:k<r.length)(hjp:k<p.length)
  (hfr:Fit A (r.getD k RQ.nil).q) (hfp:Fit A (p.getD k RQ.nil).q) (h0:(p.getD k RQ.nil).q≠0) (hAB:A+A<=4294967296) (hsz:a1.tmps.size=163) (hdf:a1.defers=[]) (t7:a1.tmps.getD 7 undef=va) (t9:a1.tmps.getD 9 undef=.int .i64 (k:Int)) (t11:a1.tmps.getD 11 undef=.int .i64 (i:Int))
  (hQ:∀(a':Act)(W2:World),a'.tmps.size=163->a'.defers=[]->(∀t,t<12->a'.tmps.getD t undef=a1.tmps.getD t undef)->Below W1.heap.size W1 W2->(aC.aq (rC (.of ((r.getD k RQ.nil).q/(p.getD k RQ.nil).q)))).rep D W2 (a'.tmps.getD 12 undef)->Q .normal a' W2):(Code.region 20 gO true).wp prog Q a1 W1:=by
 have hlr:=T.lr;have hi:i<m:=by have:=(bg.1 hr).1;omega
 have hk:k<m:=by have:=(bg.1 hp).1;omega
 obtain⟨g,cap,b,v,r',hv,hb,hr',Ti⟩:=T.at hi;obtain⟨g',cap',bk,u,p',hu,hbk,hp',Tk⟩:=T.at hk;rw[hr]at hr';cases hr';rw[hp]at hp';cases hp';have eg:g'=g:=by have:=Ti.e.symm.trans Tk.e;simp only[iB,aU,fy,cT,lW]at this;exact this.1.symm
 subst eg;obtain⟨cs,hcs⟩:∃cs:List aK,cs=[xT va,xI i,xP g' i,xT v,xI k,xP b (k*4),mB (r.getD k RQ.nil),xT va,xI k,xP g' k,xT u,xI k,xP bk (k*4),mB (p.getD k RQ.nil)]:=⟨_,rfl⟩
 have hva:va.oneCell'=true:=by rw[Ti.e];rfl
 have hjr':k<(rR r).length:=by rw[aJ];exact hjr
 have hjp':k<(rR p).length:=by rw[aJ];exact hjp
 have hlow:∀t,t<12->t ∉ bz7:=fun t ht h=>by
  rcases eL.1 h with h | h
  ·have:=MN.1 h;omega
  ·have:=dR.1 h;omega
 obtain⟨Dn,hDn⟩:∃Dn:Nat->Prop,Dn=fun k=>D k\/W1.heap.size<=k:=⟨_,rfl⟩
 have hkn:∀{W},Below W1.heap.size W1 W->ao D W1 Dn W:=fun {W} hb q ob hq ho _=>by
  have hlt:=(bt.1 ho).1;rw[hDn];exact⟨fun h=>h.elim hq (by omega),(hb.block q hlt).trans ho⟩
 have hsub:∀{c W u}{y:aK},W1.heap.size<=c->y.rep Dn W u->y.rep (Mb D c) W u:=fun hc hy=>aK.gJ (fun q ob hq ho _=>⟨fun h=>hq (by rw[hDn];exact h.imp id fun e=>by omega),ho⟩) hy;have hsubD:∀{W u}{y:aK},y.rep Dn W u->y.rep D W u:=fun hy=>aK.gJ (fun q ob hq ho _=>⟨fun h=>hq (by rw[hDn];exact .inl h),ho⟩) hy;have hlD:∀{c W u}{y:aK},y.rep (Mb D c) W u->y.rep D W u:=fun hy=>aK.gJ (fun q ob hq ho _=>⟨fun h=>hq (.inl h),ho⟩) hy;obtain⟨f,hf⟩:∃f:aK,mB (.of ((r.getD k RQ.nil).q/(p.getD k RQ.nil).q))=f:=⟨_,rfl⟩
 have hdiv:=ao1 (r.getD k RQ.nil) (p.getD k RQ.nil) A A h0 hfr hfp hAB;rw[hf]at hdiv;obtain⟨B,hBd⟩:∃B:(Nat->Bool)->Act->World->Prop,∀L a W,B L a W↔Below W1.heap.size W1 W/\(L 14=true->f.rep D W (a.tmps.getD 109 undef))/\(L 15=true->∃(c:Nat)(cur:Array Value),a.tmps.getD 12 undef=.pointer (some ⟨c,0,none⟩)/\W1.heap.size<=c/\W.heap[c]?=some (.cells cur 51 (0,0))/\cur.size=4/\(L 14=true->f.rep (Mb D c) W (a.tmps.getD 109 undef))):=⟨_,fun _ _ _=>mQ⟩
 refine uP (B:=B) (p:=pS Dn cs) bs0 hsz hdf (fun L hL=>(hBd _ _ _).2 ⟨⟨rfl,rfl,rfl,aY _,fun _ _=>rfl⟩,fun h=>(by rw[hL]at h;cases h),fun h=>(by rw[hL]at h;cases h)⟩) ?_ ?_
 ·intro q d o L a W ho hd hL hdep I K hK;have hq:q<16:=(bg.1 hd).1;obtain⟨hb1,hb2,hb3⟩:=(hBd _ _ _).1 I.w;have T':=T.below hb1;have Ti':=T'.upd Ti hv hb hr;have Tk':=T'.upd Tk hu hbk hp;have hkv:=(T.row i v b r hv hb hr).mono (hkn hb1) (hb1.block b (hF.1 b Ti.db));have hku:=(T.row k u bk p hu hbk hp).mono (hkn hb1) (hb1.block bk (hF.1 bk Tk.db));have kp:∀t,t<12->a.tmps.getD t undef=a1.tmps.getD t undef:=fun t ht=>I.dC t (hlow t ht);have vx:∀{j d:Nat}{c:aK},bz7[j]?=some d->cs[j]?=some c->j∈bE o->c.rep Dn W (a.tmps.getD d undef):=fun {j d c} h1 h2 h3=>I.done j d h1 (hdep j h3) c h2;have pg:∀{d:Nat}(d':Nat){x:Value},d<163->(a.put (some d) x).tmps.getD d' undef=if d'=d then x else a.tmps.getD d' undef:=fun {d} d' {x} hd=>mz (by rw[I.sz];exact hd)
  have hB:∀{x:Value},o.dst=some (95+q)->q<14->B (Lx L q) (a.put o.dst x) W:=fun {x} he hq=>by
   rw[he,hBd,pg 109 (by omega),pg 12 (by omega),aH (by omega),aH (by omega)];refine⟨hb1,fun h=>hb2 (mK h),fun h=>?_⟩;obtain⟨c,cur,h1,h2,h3,h4,h5⟩:=hb3 (mK h);exact⟨c,cur,h1,h2,h3,h4,fun h=>h5 (mK h)⟩
  have go:∀{c:aK}{v:Value},o.dst=some (95+q)->q<14->cs[q]?=some c->(execOp a.eval o).run prog W=.ok (.value v) W->c.rep Dn W v->o.wp prog a W K Q:=fun h1 h2 hc hr hv=>am4 (B:=B) (D:=Dn) (cs:=cs) (i:=q) (L:=L) hK (hB h1 h2) hc hr hv
  have gel:∀{b j:Nat}{v:Value}{r:List RQ}{x:Operand},o.dst=some (95+q)->q<14->o.op=.load 51 x->a.eval x=.pointer (some ⟨b,j*4,none⟩)->nJ 51 4 (rR r) Dn W v b->j<r.length->cs[q]?=some (mB (r.getD j RQ.nil))->o.wp prog a W K Q:=fun k1 k2 h1 h2 h3 h4 h5=>by
   obtain⟨x,hx,hxr⟩:=YP h1 h2 h3 (bf5 h4) ag4;exact go k1 k2 h5 hx hxr
  match q,hq with
  | 0,_=>
    obtain rfl:=kr ho (rfl:gO[0]?=some _);exact go (c:=xT va) rfl (by omega) (by rw[hcs];rfl) rfl ⟨(kp 7 (by omega)).trans t7,hva⟩
  | 1,_=>
    obtain rfl:=kr ho (rfl:gO[1]?=some _);exact go (c:=xI i) rfl (by omega) (by rw[hcs];rfl) rfl ⟨(kp 11 (by omega)).trans t11,rfl⟩
  | 2,_=>
    obtain rfl:=kr ho (rfl:gO[2]?=some _);exact go (c:=xP g' i) rfl (by omega) (by rw[hcs];rfl) (Ti'.addr rfl (vx (j:=0) (c:=xT va) rfl (by rw[hcs];rfl) (by decide)).1 (vx (j:=1) (c:=xI i) rfl (by rw[hcs];rfl) (by decide)).1 hi) ⟨rfl,rfl⟩
  | 3,_=>
    obtain rfl:=kr ho (rfl:gO[3]?=some _);exact go (c:=xT v) rfl (by omega) (by rw[hcs];rfl) (Ti'.load rfl (vx (j:=2) (c:=xP g' i) rfl (by rw[hcs];rfl) (by decide)).1) ⟨rfl,hkv.one⟩
  | 4,_=>
    obtain rfl:=kr ho (rfl:gO[4]?=some _);exact go (c:=xI k) rfl (by omega) (by rw[hcs];rfl) rfl ⟨(kp 9 (by omega)).trans t9,rfl⟩
  | 5,_=>
    obtain rfl:=kr ho (rfl:gO[5]?=some _);exact go (c:=xP b (k*4)) rfl (by omega) (by rw[hcs];rfl) (hkv.addr rfl (vx (j:=3) (c:=xT v) rfl (by rw[hcs];rfl) (by decide)).1 (vx (j:=4) (c:=xI k) rfl (by rw[hcs];rfl) (by decide)).1 hjr') ⟨rfl,rfl⟩
  | 6,_=>
    obtain rfl:=kr ho (rfl:gO[6]?=some _);exact gel rfl (by omega) rfl (vx (j:=5) (c:=xP b (k*4)) rfl (by rw[hcs];rfl) (by decide)).1 hkv hjr (by rw[hcs];rfl)
  | 7,_=>
    obtain rfl:=kr ho (rfl:gO[7]?=some _);exact go (c:=xT va) rfl (by omega) (by rw[hcs];rfl) rfl ⟨(kp 7 (by omega)).trans t7,hva⟩
  | 8,_=>
    obtain rfl:=kr ho (rfl:gO[8]?=some _);exact go (c:=xI k) rfl (by omega) (by rw[hcs];rfl) rfl ⟨(kp 9 (by omega)).trans t9,rfl⟩
  | 9,_=>
    obtain rfl:=kr ho (rfl:gO[9]?=some _);exact go (c:=xP g' k) rfl (by omega) (by rw[hcs];rfl) (Tk'.addr rfl (vx (j:=7) (c:=xT va) rfl (by rw[hcs];rfl) (by decide)).1 (vx (j:=8) (c:=xI k) rfl (by rw[hcs];rfl) (by decide)).1 hk) ⟨rfl,rfl⟩
  | 10,_=>
    obtain rfl:=kr ho (rfl:gO[10]?=some _);exact go (c:=xT u) rfl (by omega) (by rw[hcs];rfl) (Tk'.load rfl (vx (j:=9) (c:=xP g' k) rfl (by rw[hcs];rfl) (by decide)).1) ⟨rfl,hku.one⟩
  | 11,_=>
    obtain rfl:=kr ho (rfl:gO[11]?=some _);exact go (c:=xI k) rfl (by omega) (by rw[hcs];rfl) rfl ⟨(kp 9 (by omega)).trans t9,rfl⟩
  | 12,_=>
    obtain rfl:=kr ho (rfl:gO[12]?=some _);exact go (c:=xP bk (k*4)) rfl (by omega) (by rw[hcs];rfl) (hku.addr rfl (vx (j:=10) (c:=xT u) rfl (by rw[hcs];rfl) (by decide)).1 (vx (j:=11) (c:=xI k) rfl (by rw[hcs];rfl) (by decide)).1 hjp') ⟨rfl,rfl⟩
  | 13,_=>
    obtain rfl:=kr ho (rfl:gO[13]?=some _);exact gel rfl (by omega) rfl (vx (j:=12) (c:=xP bk (k*4)) rfl (by rw[hcs];rfl) (by decide)).1 hku hjp (by rw[hcs];rfl)
  | 14,_=>
    obtain rfl:=kr ho (rfl:gO[14]?=some _);have e1:=vx (j:=6) (c:=mB (r.getD k RQ.nil)) rfl (by rw[hcs];rfl) (by decide);have e2:=vx (j:=13) (c:=mB (p.getD k RQ.nil)) rfl (by rw[hcs];rfl) (by decide);have hpg:∀x,(a.put (some 109) x).tmps.getD 12 undef=a.tmps.getD 12 undef:=fun x=>(pg 12 (by omega)).trans (aH (by omega));have hpg2:∀x,(a.put (some 109) x).tmps.getD 109 undef=x:=fun x=>(pg 109 (by omega)).trans (aD rfl);cases h15:L 15 with
    | false=>
      refine Qd (B:=B) (D:=Dn) (cs:=cs) (N:=D) (i:=14) (L:=L) hK (fun x W' hb hx=>(hBd _ _ _).2 ⟨hb1.trans (hb.mono hb1.size),fun _=>(hpg2 x).symm▸hx,fun h=>(by rw[mK h]at h15;cases h15)⟩) (fun _ _ _ c' h=>by rw[hcs]at h;cases h) hdiv rfl rfl rfl (aa hF hb1) ⟨hsubD e1,hsubD e2,trivial⟩
    | true=>
      obtain⟨c,cur,h1,h2,h3,h4,_⟩:=hb3 h15;have hcl:=(bt.1 h3).1;refine Qd (B:=B) (D:=Dn) (cs:=cs) (N:=Mb D c) (i:=14) (L:=L) hK (fun x W' hb hx=>(hBd _ _ _).2 ⟨hb1.trans (hb.mono hb1.size),fun _=>(hpg2 x).symm▸hlD hx,fun h=>?_⟩) (fun _ _ _ c' h=>by rw[hcs]at h;cases h) hdiv rfl rfl rfl (wX hF hb1 h2 hcl) ⟨hsub h2 e1,hsub h2 e2,trivial⟩;exact⟨c,cur,(hpg x).trans h1,h2,(hb.block c hcl).trans h3,h4,fun _=>(hpg2 x).symm▸hx⟩
  | 15,_=>
    obtain rfl:=kr ho (rfl:gO[15]?=some _);obtain⟨ie,zv,hie,hz,hzc,_,_⟩:=eI (show jD prog 51=some [.int .i64 0,.slice none 0 0,.int .i64 0,.slice none 0 0] by kernel_rfl)
    have hrun:(execOp a.eval (⟨some 12,.alloc 51,0,"",#[],none⟩:Oper)).run prog W=.ok (.value (.pointer (some ⟨W.heap.size,0,none⟩))) (W.alloc (.cells #[.int .i64 0,.slice none 0 0,.int .i64 0,.slice none 0 0] 51)):=by
     simp[execOp,Instr.alloc,zeroValue,typeInfo,hie,hz,newVar,newRow,hzc]
    have hb:Below W.heap.size W (W.alloc (.cells #[.int .i64 0,.slice none 0 0,.int .i64 0,.slice none 0 0] 51)):=(cM _ _).alloc (aY _) _;have hpg:∀x,(a.put (some 12) x).tmps.getD 12 undef=x:=fun x=>(pg 12 (by omega)).trans (aD rfl);have hpg2:∀x,(a.put (some 12) x).tmps.getD 109 undef=a.tmps.getD 109 undef:=fun x=>(pg 109 (by omega)).trans (aH (by omega));refine av hrun (WZ (B:=B) (D:=Dn) (cs:=cs) (i:=15) (L:=L) hK ((hBd _ _ _).2 ⟨hb1.trans (hb.mono hb1.size),fun h=>(hpg2 _).symm▸aK.gJ (ao.below hb) (hb2 (mK h)),fun _=>⟨W.heap.size,_,hpg _,hb1.size,dL W _,rfl,fun h=>(hpg2 _).symm▸aK.gJ (sq hb (aY _)) (hb2 (mK h))⟩⟩) hb fun c' h=>by rw[hcs]at h;cases h)
 ·intro o L a W ho hall I;obtain rfl:=kr ho (rfl:gO[16]?=some _);obtain⟨hb1,_,hb3⟩:=(hBd _ _ _).1 I.w;obtain⟨c,cur,hc,hn,hcur,hcs4,h14⟩:=hb3 (hall 15 (by decide));have hfr:=h14 (hall 14 (by decide));rw[<-hf]at hfr;obtain⟨us,hu,hur⟩:=hfr;have hul:us.length=4:=hur.length.symm;have hDc:¬D c:=fun h=>by have:=hF.1 c h;omega
  have hst:=jY (P:=prog) (w:=W) ag4 hcur (off:=0) (v:=a.tmps.getD 109 undef) (by rw[hu];simpa[Value.cells]using hul) (by rw[hu];simpa[Value.cells]using hur.one)
  have hce:(cur.toList.take 0++(a.tmps.getD 109 undef).cells.toList++cur.toList.drop (0+4)).toArray=us.toArray:=by
   have h1:cur.toList.drop (0+4)=[]:=QN (by rw[cB];omega);rw[hu,h1];simp[Value.cells]
  rw[hce]at hst;have hb:Below W1.heap.size W1 (W.setRow c us.toArray):=⟨hb1.os,hb1.tape,hb1.output,by simpa using hb1.size,fun q hq=>(eT W c q _ (by omega)).trans (hb1.block q hq)⟩
  refine qO (mm (x:=.tmp 12) (y:=.tmp 109) (T:=51) rfl hc hst) (hQ _ _ (by exact I.sz) I.df (fun t ht=>I.dC t (hlow t ht)) hb ⟨c,0,us.toArray,51,(0,0),hc,hDc,gm W c cur _ _ (0,0) hcur,?_⟩);show ah D _ _ (us.take 4);rw[dD (by omega)];exact hur.mono fun q ob hq ho _=>⟨fun h=>hq (.inl h),(eT W c q _ fun e=>hq (.inr e)).trans ho⟩
def Rj:Tr:=.ret [(W 0 0),(W 1 0),(W 2 0),(.one (.c (.k (.slice none 0 0))))]
def QS:Tr:=.need (.prim [(W 0 0)] none) (.call ⟨.builtin .len,#[(.tmp 16)],#[177]⟩) 3 false Rj
theorem Wa:ae prog 163 (fun _=>none) (aI [] (aL f128)) [(0,.v none),(1,.v none)] ([0,1,6,7].map ResultVar.tmp) (some 2) false=QS:=by kernel_rfl
def Px:Tr:=.ret [(WK (0))]
theorem XI:ae prog 163 (fun _=>none) (aI [1,1,1,0,0] (aL f128)) [] ([8].map ResultVar.tmp) none false=Px:=by kernel_rfl
def PN:Tr:=.ret [(W 2 0)]
def QG:Tr:=.need (.prim [(W 1 0),(W 0 0)] none) (.binOp .lss 3 (.tmp 18) (.tmp 19) 3) 4 false PN
theorem WA:ae prog 163 (fun _=>none) (aI [1,1,1,0,1,0,0,0,0] (aL f128)) [(6,.v none),(8,.v none)] ([20].map ResultVar.tmp) none false=QG:=by kernel_rfl
def MK:Tr:=.ret [(W 1 0)]
def Ov:Tr:=.need (.prim [(W 0 0),(WK (1))] none) (.binOp .add 3 (.tmp 21) (.const (I3 (1))) 3) 3 false MK
theorem Xm:ae prog 163 (fun _=>none) (aI [1,1,1,0,1,0,0,1,1] (aL f128)) [(8,.v none)] ([8].map ResultVar.tmp) none false=Ov:=by kernel_rfl
def Qf:Tr:=.ret [(WK (0))]
theorem Xh:ae prog 163 (fun _=>none) (aI [1,1,1,1,0,0] (aL f128)) [] ([9].map ResultVar.tmp) none false=Qf:=by kernel_rfl
def PR:Tr:=.ret [(W 2 0)]
def Pr:Tr:=.need (.prim [(W 1 0),(W 0 0)] none) (.binOp .lss 3 (.tmp 37) (.tmp 38) 3) 4 false PR
theorem Yb:ae prog 163 (fun _=>none) (aI [1,1,1,1,0,1,0,0,0,0] (aL f128)) [(6,.v none),(9,.v none)] ([39].map ResultVar.tmp) none false=Pr:=by kernel_rfl
def RA:Tr:=.ret [(W 1 0)]
def OZ:Tr:=.need (.prim [(W 0 0),(WK (1))] none) (.binOp .add 3 (.tmp 40) (.const (I3 (1))) 3) 3 false RA
theorem XV:ae prog 163 (fun _=>none) (aI [1,1,1,1,0,1,0,0,1,1] (aL f128)) [(9,.v none)] ([9].map ResultVar.tmp) none false=OZ:=by kernel_rfl
def Rw:Tr:=.ret [(W 0 0)]
theorem VD:ae prog 163 (fun _=>none) (aI [1,1,1,1,0,1,0,0,1,0,0,0] (aL f128)) [(9,.v none)] ([10].map ResultVar.tmp) none false=Rw:=by kernel_rfl
def Jj:Tr:=.back 0 [(.w (W 12 0))]
def Ki:Tr:=.need (.prim [(W 4 0),(WK (1))] none) (.binOp .add 3 (.tmp 57) (.const (I3 (1))) 3) 3 false Jj
def Ih:Tr:=.ret [(W 4 0)]
def Ok:Tr:=.split (.u 11 0) Ki Ih
def NN:Tr:=.need (.prim [(W 10 0),(WK (0))] none) (.binOp .eql 3 (.tmp 54) (.const (I3 (0))) 3) 4 false Ok
def Rs:Tr:=.need (.call 56 [(.agg [(U 9 0),(U 9 1),(U 9 2),(U 9 3)])] [none]) (.call ⟨.value (.func 56),#[(.tmp 53)],#[51]⟩) 3 false NN
def PM:Tr:=.need (.prim [(W 8 0)] (some 4)) (.load 51 (.tmp 52)) 51 false Rs
def NT:Tr:=.need (.prim [(W 7 0),(W 2 0)] none) (.indexAddr 32 (.tmp 50) (.tmp 51)) 0 false PM
def Ox:Tr:=.need (.prim [(W 6 0)] none) (.load 32 (.tmp 49)) 32 false NT
def NQ:Tr:=.need (.prim [(W 1 0),(W 4 0)] none) (.indexAddr 177 (.tmp 47) (.tmp 48)) 0 false Ox
def IQ:Tr:=.ret [(W 4 0)]
def OF:Tr:=.split (.u 5 0) NQ IQ
def Pg:Tr:=.need (.prim [(W 4 0),(W 0 0)] none) (.binOp .lss 3 (.tmp 43) (.tmp 44) 3) 4 false OF
def Np:Tr:=.loop 0 [(.w (W 3 0))] Pg
theorem VS:ae prog 163 (fun _=>none) (aI [1,1,1,1,0,1,0,0,1,0,0,1,0] (aL f128)) [(6,.v none),(7,.v none),(9,.v none),(10,.v none)] ([10].map ResultVar.tmp) none false=Np:=by kernel_rfl
def OK:Tr:=.ret [(W 2 0)]
def Qs:Tr:=.need (.prim [(W 1 0),(W 0 0)] none) (.binOp .eql 3 (.tmp 59) (.tmp 60) 3) 4 false OK
theorem WU:ae prog 163 (fun _=>none) (aI [1,1,1,1,0,1,0,0,1,0,0,1,1,0,0] (aL f128)) [(6,.v none),(10,.v none)] ([61].map ResultVar.tmp) none false=Qs:=by kernel_rfl
def QD:Tr:=.retr [] 6
def MZ:Tr:=.need (.strow 5 1 (.u 0 0) 0 [(.u 4 0)]) (.store 32 (.tmp 75) (.tmp 73)) 0 false QD
def Qc:Tr:=.need (.idx 5 (.u 0 0)) (.indexAddr 177 (.tmp 64) (.tmp 65)) 0 false MZ
def Qk:Tr:=.need (.strow 2 1 (.u 1 0) 0 [(.u 3 0)]) (.store 32 (.tmp 74) (.tmp 69)) 0 false Qc
def QW:Tr:=.need (.idx 2 (.u 1 0)) (.indexAddr 177 (.tmp 62) (.tmp 63)) 0 false Qk
def Qj:Tr:=.need (.ldrow 2 (.u 1 0) 0 1 false) (.load 32 (.tmp 72)) 32 false QW
def OE:Tr:=.need (.idx 2 (.u 1 0)) (.indexAddr 177 (.tmp 70) (.tmp 71)) 0 false Qj
def NH:Tr:=.need (.ldrow 2 (.u 0 0) 0 1 false) (.load 32 (.tmp 68)) 32 false OE
def Pw:Tr:=.need (.idx 2 (.u 0 0)) (.indexAddr 177 (.tmp 66) (.tmp 67)) 0 false NH
theorem XJ:yk prog 163 (fun _=>none) (aI [1,1,1,1,0,1,0,0,1,0,0,1,1,1,0] (aL f128)) [(9,.v none),(10,.v none)] 7 32 1 ([].map ResultVar.tmp)=Pw:=by kernel_rfl
def PQ:Tr:=.ret [(WK (0))]
theorem Xz:ae prog 163 (fun _=>none) (aI [1,1,1,1,0,1,0,0,1,0,0,1,1,1,1,0] (aL f128)) [] ([11].map ResultVar.tmp) none false=PQ:=by kernel_rfl
def MT:Tr:=.ret [(W 2 0)]
def MV:Tr:=.need (.prim [(W 1 0),(W 0 0)] none) (.binOp .lss 3 (.tmp 76) (.tmp 77) 3) 4 false MT
theorem We:ae prog 163 (fun _=>none) (aI [1,1,1,1,0,1,0,0,1,0,0,1,1,1,1,1,0,0,0,0] (aL f128)) [(6,.v none),(11,.v none)] ([78].map ResultVar.tmp) none false=MV:=by kernel_rfl
def Nt:Tr:=.ret [(W 1 0)]
def QT:Tr:=.need (.prim [(W 0 0),(WK (1))] none) (.binOp .add 3 (.tmp 79) (.const (I3 (1))) 3) 3 false Nt
theorem Xq:ae prog 163 (fun _=>none) (aI [1,1,1,1,0,1,0,0,1,0,0,1,1,1,1,1,0,0,1,1] (aL f128)) [(11,.v none)] ([11].map ResultVar.tmp) none false=QT:=by kernel_rfl
def QL:Tr:=.ret [(.one (.c (.k (.bool true))))]
def MQ:Tr:=.ret [(W 9 0)]
def Rk:Tr:=.need (.prim [(W 8 0),(WK (0))] none) (.binOp .eql 3 (.tmp 92) (.const (I3 (0))) 3) 4 false MQ
def Qa:Tr:=.need (.call 56 [(.agg [(U 7 0),(U 7 1),(U 7 2),(U 7 3)])] [none]) (.call ⟨.value (.func 56),#[(.tmp 91)],#[51]⟩) 3 false Rk
def Oh:Tr:=.need (.prim [(W 6 0)] (some 4)) (.load 51 (.tmp 90)) 51 false Qa
def Rq:Tr:=.need (.prim [(W 5 0),(W 1 0)] none) (.indexAddr 32 (.tmp 88) (.tmp 89)) 0 false Oh
def Rc:Tr:=.need (.prim [(W 4 0)] none) (.load 32 (.tmp 87)) 32 false Rq
def Ry:Tr:=.need (.prim [(W 0 0),(W 2 0)] none) (.indexAddr 177 (.tmp 85) (.tmp 86)) 0 false Rc
def Ra:Tr:=.split (.u 3 0) QL Ry
def NW:Tr:=.need (.prim [(W 2 0),(W 1 0)] none) (.binOp .eql 3 (.tmp 81) (.tmp 82) 3) 4 false Ra
theorem Xk:ae prog 163 (fun _=>none) (aI [1,1,1,1,0,1,0,0,1,0,0,1,1,1,1,1,0,0,1,0,0,0,0] (aL f128)) [(7,.v none),(9,.v none),(11,.v none)] ([94].map ResultVar.tmp) none false=NW:=by kernel_rfl
def Ow:Tr:=.ret [(W 0 0)]
theorem Xf:ae prog 163 (fun _=>none) (aI [1,1,1,1,0,1,0,0,1,0,0,1,1,1,1,1,0,0,1,0,0,1,1,0] (aL f128)) [(9,.v none)] ([13].map ResultVar.tmp) none false=Ow:=by kernel_rfl
def QP:Tr:=.ret [(W 2 0)]
def QJ:Tr:=.need (.prim [(W 1 0),(W 0 0)] none) (.binOp .leq 3 (.tmp 111) (.tmp 112) 3) 4 false QP
theorem VK:ae prog 163 (fun _=>none) (aI [1,1,1,1,0,1,0,0,1,0,0,1,1,1,1,1,0,0,1,0,0,1,1,1,0,0,0,0] (aL f128)) [(6,.v none),(13,.v none)] ([113].map ResultVar.tmp) none false=QJ:=by kernel_rfl
def Rx:Tr:=.ret [(W 1 0)]
def Rp:Tr:=.need (.prim [(W 0 0),(WK (1))] none) (.binOp .add 3 (.tmp 114) (.const (I3 (1))) 3) 3 false Rx
theorem Wj:ae prog 163 (fun _=>none) (aI [1,1,1,1,0,1,0,0,1,0,0,1,1,1,1,1,0,0,1,0,0,1,1,1,0,0,1,1] (aL f128)) [(13,.v none)] ([13].map ResultVar.tmp) none false=Rp:=by kernel_rfl
def JE:Tr:=.back 0 [(.w (W 16 0)),(.row 15)]
def Jh:Tr:=.need (.prim [(W 2 0),(WK (1))] none) (.binOp .add 3 (.tmp 142) (.const (I3 (1))) 3) 3 false JE
def Ke:Tr:=.need (.app 4 64 (some 3) none (some 14)) (.call ⟨.builtin .append,#[(.tmp 144),(.tmp 160)],#[32,32]⟩) 32 false Jh
def IH:Tr:=.need (.lit 4 [[(.u 13 0),(.u 13 1),(.u 13 2),(.u 13 3)]]) (.buildSlice 32 1 #[(0,(.tmp 159))]) 32 false Ke
def IP:Tr:=.need (.call 151 [(.agg [(U 8 0),(U 8 1),(U 8 2),(U 8 3)]),(.agg [(U 12 0),(U 12 1),(U 12 2),(U 12 3)])] [(some 4)]) (.call ⟨.value (.func 151),#[(.tmp 151),(.tmp 158)],#[51,51]⟩) 51 true IH
def Kf:Tr:=.need (.prim [(W 11 0)] (some 4)) (.load 51 (.tmp 157)) 51 false IP
def Oe:Tr:=.need (.prim [(W 10 0),(W 2 0)] none) (.indexAddr 32 (.tmp 155) (.tmp 156)) 0 false Kf
def Pk:Tr:=.need (.prim [(W 9 0)] none) (.load 32 (.tmp 154)) 32 false Oe
def Of:Tr:=.need (.prim [(W 1 0),(W 2 0)] none) (.indexAddr 177 (.tmp 152) (.tmp 153)) 0 false Pk
def Ot:Tr:=.need (.prim [(W 7 0)] (some 4)) (.load 51 (.tmp 150)) 51 false Of
def Ou:Tr:=.need (.prim [(W 6 0),(W 0 0)] none) (.indexAddr 32 (.tmp 148) (.tmp 149)) 0 false Ot
def NJ:Tr:=.need (.prim [(W 5 0)] none) (.load 32 (.tmp 147)) 32 false Ou
def QQ:Tr:=.need (.prim [(W 1 0),(W 2 0)] none) (.indexAddr 177 (.tmp 145) (.tmp 146)) 0 false NJ
def Hn:Tr:=.ret [(.one (.c (.sr 4 3))),(.one (.c (.k (.bool true))))]
def Qi:Tr:=.split (.u 4 0) QQ Hn
def MO:Tr:=.need (.prim [(W 2 0),(W 0 0)] none) (.binOp .lss 3 (.tmp 139) (.tmp 140) 3) 4 false Qi
def OD:Tr:=.loop 0 [(.w (WK (0))),.nilrow] MO
theorem Ye:ae prog 163 (fun _=>none) (aI [1,1,1,1,1] (aL f128)) [(6,.v none),(7,.v none)] f128.results.toList none true=OD:=by kernel_rfl
def pC(rk:List (List RQ))(m i:Nat):Rat:=((rk.getD i []).getD m RQ.nil).q/((rk.getD i []).getD i RQ.nil).q
theorem cc3(a:List (List RQ))(b:List RQ):vc prog (fun o=>bC o (.ret [.one (eR a),.one (sR b),.one (.int .i64 (a.length:Int)),.one (.exact (.slice none 0 0))])) (ae prog 163 (fun _=>none) (aI [] (aL f128)) [(0,.v none),(1,.v none)] ([0,1,6,7].map ResultVar.tmp) (some 2) false) ([.v (.one (eR a)),.v (.one (sR b))].map In.env) []:=by
 rw[Wa];dsimp only[List.map,In.env,aF,aG];apply vn (aR uw (aJ _));exact aM
theorem bU5  :vc prog (fun o=>bC o (.ret [.one (.int .i64 0)])) (ae prog 163 (fun _=>none) (aI [1,1,1,0,0] (aL f128)) [] ([8].map ResultVar.tmp) none false) ([].map In.env) []:=by
 rw[XI];dsimp only[List.map,In.env,aF,aG];exact aM
theorem bK1(m k:Nat):vc prog (fun o=>bC o (.ret [.one (.bool (decide ((k:Int)<(m:Int))))])) (ae prog 163 (fun _=>none) (aI [1,1,1,0,1,0,0,0,0] (aL f128)) [(6,.v none),(8,.v none)] ([20].map ResultVar.tmp) none false) ([.v (.one (.int .i64 (m:Int))),.v (.one (.int .i64 (k:Int)))].map In.env) []:=by
 rw[WA];dsimp only[List.map,In.env,aF,aG];apply vn an;exact aM
theorem bY9(k:Nat)(hk:k<1099511627776:=by omega):vc prog (fun o=>bC o (.ret [.one (.int .i64 ((k:Int)+1))])) (ae prog 163 (fun _=>none) (aI [1,1,1,0,1,0,0,1,1] (aL f128)) [(8,.v none)] ([8].map ResultVar.tmp) none false) ([.v (.one (.int .i64 (k:Int)))].map In.env) []:=by
 rw[Xm];dsimp only[List.map,In.env,aF,aG];apply vn (aB (by omega) (by omega));exact aM
theorem bU2  :vc prog (fun o=>bC o (.ret [.one (.int .i64 0)])) (ae prog 163 (fun _=>none) (aI [1,1,1,1,0,0] (aL f128)) [] ([9].map ResultVar.tmp) none false) ([].map In.env) []:=by
 rw[Xh];dsimp only[List.map,In.env,aF,aG];exact aM
theorem bY5(m k:Nat):vc prog (fun o=>bC o (.ret [.one (.bool (decide ((k:Int)<(m:Int))))])) (ae prog 163 (fun _=>none) (aI [1,1,1,1,0,1,0,0,0,0] (aL f128)) [(6,.v none),(9,.v none)] ([39].map ResultVar.tmp) none false) ([.v (.one (.int .i64 (m:Int))),.v (.one (.int .i64 (k:Int)))].map In.env) []:=by
 rw[Yb];dsimp only[List.map,In.env,aF,aG];apply vn an;exact aM
theorem bX0(k:Nat)(hk:k<1099511627776:=by omega):vc prog (fun o=>bC o (.ret [.one (.int .i64 ((k:Int)+1))])) (ae prog 163 (fun _=>none) (aI [1,1,1,1,0,1,0,0,1,1] (aL f128)) [(9,.v none)] ([9].map ResultVar.tmp) none false) ([.v (.one (.int .i64 (k:Int)))].map In.env) []:=by
 rw[XV];dsimp only[List.map,In.env,aF,aG];apply vn (aB (by omega) (by omega));exact aM
theorem bY8(k:Nat):vc prog (fun o=>bC o (.ret [.one (.int .i64 (k:Int))])) (ae prog 163 (fun _=>none) (aI [1,1,1,1,0,1,0,0,1,0,0,0] (aL f128)) [(9,.v none)] ([10].map ResultVar.tmp) none false) ([.v (.one (.int .i64 (k:Int)))].map In.env) []:=by
 rw[VD];dsimp only[List.map,In.env,aF,aG];exact aM
theorem bK6(rk:List (List RQ))(k i m:Nat)(p:List RQ)(hm:rk.length=m)(hL:∀r∈rk,k<r.length/\r.length<1099511627776)(hz:∀j r,j<i->rk[k+j]?=some r->(r.getD k RQ.nil).q=0)(hi:rk[k+i]?=some p)(hp:(p.getD k RQ.nil).q≠0)(hs:m<1099511627776:=by omega):vc prog (fun o=>bC o (.ret [.one (.int .i64 ((k+i:Nat):Int))])) (ae prog 163 (fun _=>none) (aI [1,1,1,1,0,1,0,0,1,0,0,1,0] (aL f128)) [(6,.v none),(7,.v none),(9,.v none),(10,.v none)] ([10].map ResultVar.tmp) none false) ([.v (.one (.int .i64 (m:Int))),.v (.one (eR rk)),.v (.one (.int .i64 (k:Int))),.v (.one (.int .i64 (k:Int)))].map In.env) []:=by
 rw[VS];dsimp only[List.map,In.env,aF,aG];have hil:=(bg.1 hi).1;refine bG {j:Nat // j<=i} (fun g=>[.one (.int .i64 ((k+g.1:Nat):Int))]) (fun g=>i-g.1) ⟨0,cL _⟩ aX.rfl (fun _=>rfl) ?_;rintro⟨j,hj⟩;dsimp only[aF,aG]at hj|-;obtain⟨r,hr⟩:∃r,rk[k+j]?=some r:=⟨_,bB (by omega)⟩
 obtain⟨hkr,hrl⟩:=hL r (cq hr);apply vn an;refine vs _ rfl ?_ ?_<;>intro h2
 ·apply vn (aN (f:=cR) uw (m:=k+j) (by omega) (al _) (hr));apply vn (bO Xl);apply vn (aN (f:=rC) rb (m:=k) (by omega) (al k) (MB hkr));dsimp only[aF,aG];apply vn (ab Iz (by decide) (by simp) (.inl rfl));apply aA (Oy _);apply vn cF;refine vs _ rfl ?_ ?_<;>intro h9
  ·have hji:j<i:=by
    refine Nat.lt_of_le_of_ne hj fun e=>hp ?_;subst e;rw[hr]at hi;cases hi;exact sign_zero.1 ‹_›
   apply vn (aB (by omega) (by omega));dsimp only[aF,aG];exact af rfl ⟨⟨j+1,by omega⟩,aX.rfl,by show i-(j+1)<i-j;omega⟩
  obtain rfl:j=i:=we hj (wN fun h=>‹¬(r.getD k RQ.nil).q.num.sign=0› (sign_zero.2 (hz j r h hr)));exact aM
 exfalso;omega
theorem bX7(m k:Nat):vc prog (fun o=>bC o (.ret [.one (.bool (decide ((k:Int)=(m:Int))))])) (ae prog 163 (fun _=>none) (aI [1,1,1,1,0,1,0,0,1,0,0,1,1,0,0] (aL f128)) [(6,.v none),(10,.v none)] ([61].map ResultVar.tmp) none false) ([.v (.one (.int .i64 (m:Int))),.v (.one (.int .i64 (k:Int)))].map In.env) []:=by
 rw[WU];dsimp only[List.map,In.env,aF,aG];apply vn cF;exact aM
theorem bU9(vs:List Value)(k i:Nat)(x y:Value)(hx:vs[k]?=some x)(hy:vs[i]?=some y)(hs:vs.length<1099511627776:=by omega):vc prog (fun o=>o=.retr [] ((fu vs i k y x).map xV)) (yk prog 163 (fun _=>none) (aI [1,1,1,1,0,1,0,0,1,0,0,1,1,1,0] (aL f128)) [(9,.v none),(10,.v none)] 7 32 1 ([].map ResultVar.tmp)) ([.v (.one (.int .i64 (k:Int))),.v (.one (.int .i64 (i:Int)))].map In.env++[.rows (vs.map xV)]) []:=by
 rw[XJ];dsimp only[List.map,In.env,aF,aG];have hkl:=(bg.1 hx).1;have hil:=(bg.1 hy).1;obtain⟨z,hz⟩:∃z,(vs.set i x)[k]?=some z:=⟨_,bB (by rw[bH];exact hkl)⟩
 refine bq rfl rfl (by omega) (by omega) ?_;refine mL rfl rfl (by omega) (al k) hx rfl ?_;refine bq rfl rfl (by omega) (by omega) ?_;refine mL rfl rfl (by omega) (al i) hy rfl ?_;refine bq rfl rfl (by omega) (by omega) ?_;refine iD (f:=xV) (d':=x) rfl rfl (by omega) (al i) hy rfl ?_;refine bq rfl rfl (by omega) (by rw[bH];omega) ?_;refine iD (f:=xV) (d':=y) rfl rfl (by omega) (al k) hz rfl ?_;dsimp only[aF,aG];exact mC rfl rfl
theorem bP4  :vc prog (fun o=>bC o (.ret [.one (.int .i64 0)])) (ae prog 163 (fun _=>none) (aI [1,1,1,1,0,1,0,0,1,0,0,1,1,1,1,0] (aL f128)) [] ([11].map ResultVar.tmp) none false) ([].map In.env) []:=by
 rw[Xz];dsimp only[List.map,In.env,aF,aG];exact aM
theorem bR0(m k:Nat):vc prog (fun o=>bC o (.ret [.one (.bool (decide ((k:Int)<(m:Int))))])) (ae prog 163 (fun _=>none) (aI [1,1,1,1,0,1,0,0,1,0,0,1,1,1,1,1,0,0,0,0] (aL f128)) [(6,.v none),(11,.v none)] ([78].map ResultVar.tmp) none false) ([.v (.one (.int .i64 (m:Int))),.v (.one (.int .i64 (k:Int)))].map In.env) []:=by
 rw[We];dsimp only[List.map,In.env,aF,aG];apply vn an;exact aM
theorem bZ9(k:Nat)(hk:k<1099511627776:=by omega):vc prog (fun o=>bC o (.ret [.one (.int .i64 ((k:Int)+1))])) (ae prog 163 (fun _=>none) (aI [1,1,1,1,0,1,0,0,1,0,0,1,1,1,1,1,0,0,1,1] (aL f128)) [(11,.v none)] ([11].map ResultVar.tmp) none false) ([.v (.one (.int .i64 (k:Int)))].map In.env) []:=by
 rw[Xq];dsimp only[List.map,In.env,aF,aG];apply vn (aB (by omega) (by omega));exact aM
theorem bN4(rk:List (List RQ))(k i:Nat)(r:List RQ)(hr:rk[i]?=some r)(hk:k<r.length:=by omega)(hs:r.length<1099511627776:=by omega)(hm:rk.length<1099511627776:=by omega):vc prog (fun o=>bC o (.ret [.one (.bool (decide (i=k\/(r.getD k RQ.nil).q=0)))])) (ae prog 163 (fun _=>none) (aI [1,1,1,1,0,1,0,0,1,0,0,1,1,1,1,1,0,0,1,0,0,0,0] (aL f128)) [(7,.v none),(9,.v none),(11,.v none)] ([94].map ResultVar.tmp) none false) ([.v (.one (eR rk)),.v (.one (.int .i64 (k:Int))),.v (.one (.int .i64 (i:Int)))].map In.env) []:=by
 rw[Xk];dsimp only[List.map,In.env,aF,aG];have hil:=(bg.1 hr).1;apply vn cF;refine vs _ rfl ?_ ?_<;>intro h1
 ·rw[cS (show i=k\/(r.getD k RQ.nil).q=0 from .inl (by omega))];exact aM
 apply vn (aN (f:=cR) uw (m:=i) (by omega) (al i) (hr));apply vn (bO Xl);apply vn (aN (f:=rC) rb (m:=k) (by omega) (al k) (MB hk));dsimp only[aF,aG];apply vn (ab Iz (by decide) (by simp) (.inl rfl));apply aA (Oy _);apply vn cF;rw[show decide ((r.getD k RQ.nil).q.num.sign=0)=decide (i=k\/(r.getD k RQ.nil).q=0) by rw[jZ];exact⟨fun h=>.inr (sign_zero.1 h),fun h=>sign_zero.2 (h.resolve_left (by omega))⟩];exact aM
theorem bQ5(k:Nat):vc prog (fun o=>bC o (.ret [.one (.int .i64 (k:Int))])) (ae prog 163 (fun _=>none) (aI [1,1,1,1,0,1,0,0,1,0,0,1,1,1,1,1,0,0,1,0,0,1,1,0] (aL f128)) [(9,.v none)] ([13].map ResultVar.tmp) none false) ([.v (.one (.int .i64 (k:Int)))].map In.env) []:=by
 rw[Xf];dsimp only[List.map,In.env,aF,aG];exact aM
theorem bU6(m k:Nat):vc prog (fun o=>bC o (.ret [.one (.bool (decide ((k:Int)<=(m:Int))))])) (ae prog 163 (fun _=>none) (aI [1,1,1,1,0,1,0,0,1,0,0,1,1,1,1,1,0,0,1,0,0,1,1,1,0,0,0,0] (aL f128)) [(6,.v none),(13,.v none)] ([113].map ResultVar.tmp) none false) ([.v (.one (.int .i64 (m:Int))),.v (.one (.int .i64 (k:Int)))].map In.env) []:=by
 rw[VK];dsimp only[List.map,In.env,aF,aG];apply vn qp;exact aM
theorem cc7(k:Nat)(hk:k<1099511627776:=by omega):vc prog (fun o=>bC o (.ret [.one (.int .i64 ((k:Int)+1))])) (ae prog 163 (fun _=>none) (aI [1,1,1,1,0,1,0,0,1,0,0,1,1,1,1,1,0,0,1,0,0,1,1,1,0,0,1,1] (aL f128)) [(13,.v none)] ([13].map ResultVar.tmp) none false) ([.v (.one (.int .i64 (k:Int)))].map In.env) []:=by
 rw[Wj];dsimp only[List.map,In.env,aF,aG];apply vn (aB (by omega) (by omega));exact aM
theorem ca4(rk:List (List RQ))(m A:Nat)(hm:rk.length=m)(hL:∀r∈rk,r.length=m+1/\∀a∈r,Fit A a.q)(hd:∀(j:Nat)(r:List RQ),rk[j]?=some r->(r.getD j RQ.nil).q≠0)(hA1:1<=A)(hs:m<1000000:=by omega)(hA:A+A<=4294967296:=by omega):vc prog (fun o=>bC o (.ret [.one (sR (((List.range m).map (pC rk m)).map RQ.of)),.one (.bool true)])) (ae prog 163 (fun _=>none) (aI [1,1,1,1,1] (aL f128)) [(6,.v none),(7,.v none)] f128.results.toList none true) ([.v (.one (.int .i64 (m:Int))),.v (.one (eR rk))].map In.env) []:=by
 rw[Ye];dsimp only[List.map,In.env,aF,aG];refine bG {i:Nat // i<=m} (fun g=>[.one (.int .i64 (g.1:Int)),.rows (rR (((List.range g.1).map (pC rk m)).map RQ.of))]) (fun g=>m-g.1) ⟨0,cL _⟩ aX.rfl (fun _=>rfl) ?_;rintro⟨i,hi⟩;dsimp only[aF,aG]at hi|-;have hll:(((List.range i).map (pC rk m)).map RQ.of).length=i:=by simp
 apply vn an;refine vs _ rfl ?_ ?_<;>intro h2
 ·have hi':i<m:=by omega
  obtain⟨r,hr⟩:∃r,rk[i]?=some r:=⟨_,bB (by omega)⟩
  obtain⟨hrl,hrf⟩:=hL r (cq hr);have hrg:rk.getD i []=r:=by rw[ew,hr];rfl
  have hf:∀i,i<r.length->Fit A (r.getD i RQ.nil).q:=fun i hi=>hrf _ (cq (MB hi));apply vn (aN (f:=cR) uw (m:=i) (by omega) (al i) (hr));apply vn (bO Xl);dsimp only[aF,aG];apply vn (aN (f:=rC) rb (m:=m) (by omega) (al m) (MB (show m<r.length by omega)));apply vn (ab Iz (by decide) (by simp) (.inl rfl));apply vn (aN (f:=cR) uw (m:=i) (by omega) (al i) (hr));apply vn (bO Xl);dsimp only[aF,aG];apply vn (aN (f:=rC) rb (m:=i) (by omega) (al i) (MB (show i<r.length by omega)));apply vn (ab Iz (by decide) (by simp) (.inl rfl));apply aA (ao1 (r.getD m RQ.nil) (r.getD i RQ.nil) A A (hd i r hr) (hf m (by omega)) (hf i (by omega)) hA);rw[show(r.getD m RQ.nil).q/(r.getD i RQ.nil).q=pC rk m i by rw[pC,hrg]];apply fB (us:=[rC (.of (pC rk m i))]);dsimp only[aF,aG];refine js (xs:=((List.range i).map (pC rk m)).map RQ.of) (x:=.of (pC rk m i)) (f:=rC) rfl rfl (by omega) (by simp only[maxLen];omega) ?_;rw[show((List.range i).map (pC rk m)).map RQ.of++[.of (pC rk m i)]=((List.range (i+1)).map (pC rk m)).map RQ.of by rw[gu,cP,cP];rfl];apply vn (aB (by omega) (by omega));dsimp only[aF,aG];exact af rfl ⟨⟨i+1,by omega⟩,aX.rfl,by show m-(i+1)<m-i;omega⟩
 rw[show i=m by omega];exact aM
end Go.Sy
