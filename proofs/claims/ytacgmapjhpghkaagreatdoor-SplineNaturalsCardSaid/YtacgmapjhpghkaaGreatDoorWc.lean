/- Part. -/
import Derived.Test.YtacgmapjhpghkaaGreatDoorWb
set_option linter.all false
namespace Go.Sy
open Go Go.Proofs Go.RowKit Tryz Ord
def xF(M:c6)(W:World)(M':c6)(W':World):Prop:=
 ∀(b:Nat)(cs:iS)(T:TypeId)(fz:Nat×Nat)(j:Nat)(k:IntKind)(z:Int),¬M b->W.heap[b]?=some (.cells cs T fz)->cs[j]?=some (.int k z)->¬M' b/\∃cs' T' fz',W'.heap[b]?=some (.cells cs' T' fz')/\∀(j:Nat)(k:IntKind)(z:Int),cs[j]?=some (.int k z)->cs'[j]?=some (.int k z)
def av.ints{M M':c6}{W W':World}(h:av M W M' W'):xF M W M' W':=fun b cs T fz j k z hm hb _=>by
 obtain⟨h1,h2⟩:=h b _ hm hb rfl;exact⟨h1,cs,T,fz,h2,fun _ _ _ h=>h⟩
def aj7{M M':c6}{W W':World}{n:Nat}{v:Value}(h:(dT n).rep M W v)(hk:xF M W M' W'):(dT n).rep M' W' v:=by
 obtain⟨a,cap,e,hl,hc,hel⟩:=h;refine⟨a,cap,e,hl,hc,?_⟩;rcases hel with h | ⟨b,off,all,T',fz',rfl,hb,hh,hr⟩
 .exact .inl h
 have key:∀(i:Nat)(t:List aC),(rT (dg n))[i]?=some t->∃d:Nat,t=[aC.int .u32 (d:Int)]/\all[off+i]?=some (.int .u32 (d:Int)):=by
  intro i t ht;have hx:=(hr i t ht).2;rw[dR,yM]at ht;obtain⟨d,_,rfl⟩:=ht;refine⟨d,rfl,?_⟩
  match hq:(List.drop (off+i*1) all.toList).take 1,hx with
  | [v],hx=>
    have hv:v=.int .u32 (d:Int):=hx.1.1;subst hv;have h0:((List.drop (off+i*1) all.toList).take 1)[0]?=some (.int .u32 (d:Int)):=by rw[hq];rfl
    rw[eh,aF O,fG]at h0
    simpa using h0
  | [],hx=>exact hx.elim
  | _::_::_,hx=>exact hx.2.elim
 cases hd:rT (dg n)with
 | nil=>exact .inl rfl
 | cons t0 ts0=>
   obtain⟨d,_,h0⟩:=key 0 t0 (by rw[hd];rfl);obtain⟨h1,cs',T2,fz2,h2,h3⟩:=hk b all T' fz' _ _ _ hb hh h0;refine .inr ⟨b,off,cs',T2,fz2,rfl,h1,h2,fun i t ht=>?_⟩;rw[<-hd]at ht;obtain⟨d',rfl,hd'⟩:=key i t ht;refine⟨rfl,?_⟩;have h4:=h3 _ _ _ hd';have hlt:off+i<cs'.toList.length:=by have:=(cJ.1 h4).1;simpa using this
   have h5:List.take 1 (List.drop (off+i*1) cs'.toList)=[.int .u32 (d':Int)]:=by
    rw[eG,jW hlt]
    have:cs'.toList[off+i]=.int .u32 (d':Int):=by
     have h6:=h4;rw[<-kU,bM hlt]at h6;exact cI h6
    rw[this];rfl
   rw[h5];exact⟨⟨rfl,rfl⟩,trivial⟩
theorem TO{M M':c6}{W W':World}(hk:xF M W M' W'):∀{r:c4}{xs:j0},an M W (rQ r).flatten xs->an M' W' (rQ r).flatten xs
 | [],[],_=>trivial
 | [],_::_,h=>h.elim
 | q::r,x::y::z::xs,⟨h1,h2,h3,h4⟩=>⟨aj7 h1 hk,h2,aj7 h3 hk,TO hk (r:=r) h4⟩
 | _::_,[],h=>h.elim
 | _::_,[_],h=>h.2.elim
 | _::_,[_,_],h=>h.2.2.elim
theorem OO{M:c6}{W:World}:∀{r:c4}{xs:j0},an M W (rQ r).flatten xs->∀x∈xs,∀(k:IntKind)(z:Int),x≠.int k z
 | [],[],_=>fun x hx=>by cases hx
 | [],_::_,h=>h.elim
 | q::r,x::y::z::xs,⟨h1,h2,h3,h4⟩=>fun u hu k n e=>by
   subst e;simp only[cp]at hu;rcases hu with rfl | rfl | rfl | hu
   .obtain⟨_,_,e,_⟩:=h1;cases e
   .cases h2.1
   .obtain⟨_,_,e,_⟩:=h3;cases e
   .exact OO (r:=r) h4 _ hu k n rfl
 | _::_,[],h=>h.elim
 | _::_,[_],h=>h.2.elim
 | _::_,[_,_],h=>h.2.2.elim
def dH.cells{r:c4}{N:c6}{W:World}{v:Value}{b:Nat}(h:dH 46 3 (rQ r) N W v b):∃(cap:Nat)(cur:iS),v=.slice (some ⟨b,0,none⟩) r.length cap/\W.heap[b]?=some (.cells cur 46 (0,0))/\cur.size=r.length*3/\r.length<=cap/\cap<=maxLen/\an N W (rQ r).flatten cur.toList:=by
 obtain⟨cur0,hc0,hcs0⟩:=h.full;obtain⟨xs,ho,_,hr⟩:=h.row;have hown:=h.own;rw[aL]at ho hcs0;rcases ho.2 with⟨rfl,_⟩ | ⟨g,cap,cur,rfl,_,hg,hn,hm,hcs,ht⟩
 .cases hown
 .have:g=b:=cI hown;subst this;rw[hc0]at hg;simp only[aZ,jj,cu]at hg;subst hg;rw[dL (by rw[cK,hcs0];exact ah _)]at ht;subst ht;exact⟨cap,cur0,rfl,hc0,hcs0,hn,hm,hr⟩
def dH.mk'{r:c4}{N:c6}{W:World}{b cap:Nat}{cur:iS}(h1:W.heap[b]?=some (.cells cur 46 (0,0)))(h2:cur.size=r.length*3)(h3:r.length<=cap)(h4:cap<=maxLen)(hcap:cap*3=cur.size)(h5:an N W (rQ r).flatten cur.toList):dH 46 3 (rQ r) N W (.slice (some ⟨b,0,none⟩) r.length cap) b:=
 ⟨rfl,⟨cur,h1,by rw[aL,h2]⟩,cur.toList,by
  rw[aL];exact⟨by rw[cK,h2],.inr ⟨b,cap,cur,rfl,dM _,h1,h3,h4,hcap.symm,dL (by rw[cK,h2];exact ah _)⟩⟩,fun t ht=>by obtain⟨a,_,rfl⟩:=dm.1 ht;rfl,h5⟩
def dH.ce8{r:c4}{N:c6}{W:World}{b n cap:Nat}{cur:iS}(h:dH 46 3 (rQ r) N W (.slice (some ⟨b,0,none⟩) n cap) b)(hc:W.heap[b]?=some (.cells cur 46 (0,0))):cap*3=cur.size:=by
 obtain⟨xs,ho,_⟩:=h.row;rcases ho.2 with⟨e,_⟩ | ⟨g,cap',cur',e,_,hg,hn,hm,hcs,ht⟩
 .cases e
 .simp only[jB,aZ,gm,cu]at e;obtain⟨rfl,_,rfl⟩:=e;rw[hc]at hg;simp only[aZ,jj,cu]at hg;subst hg;exact hcs.symm
def dH.sQ{r:c4}{N N':c6}{W:World}{v:Value}{b:Nat}(h:dH 46 3 (rQ r) N W v b)(hN:∀k,N' k->N k)(hb:¬N' b):(aC.slice 3 (rQ r)).rep N' W v:=by
 obtain⟨cap,cur,rfl,h1,h2,h3,h4,h5⟩:=h.cells;have h6:an N' W (rQ r).flatten cur.toList:=h5.mono fun k o hk ho _=>⟨fun h=>hk (hN k h),ho⟩
 have hl3:∀t∈rQ r,t.length=3:=fun t ht=>by obtain⟨a,_,rfl⟩:=dm.1 ht;rfl
 refine⟨_,cap,by rw[aL],by rw[aL];exact h3,h4,.inr ⟨b,0,cur,46,(0,0),rfl,hb,h1,fun i t ht=>?_⟩⟩;obtain⟨g1,g2⟩:=BG hl3 h6 i t ht;exact⟨g1,by rwa[bW]⟩
def dH.ints{r:c4}{N N':c6}{W W':World}{v:Value}{b:Nat}(h:dH 46 3 (rQ r) N W v b)(hk:xF N W N' W')(hb:W'.heap[b]?=W.heap[b]?):dH 46 3 (rQ r) N' W' v b:=by
 obtain⟨xs,h1,h2,h3⟩:=h.row;obtain⟨cur,hc,hcs⟩:=h.full;exact⟨h.own,⟨cur,hb.trans hc,hcs⟩,xs,oD h1 h.own hb,h2,TO hk h3⟩
structure uw(D:c6)(g cap m:Nat)(vs:j0)(bs:c7)(rows:b9)(W:World):Prop where
 own:W.ownsRow 0 28 1 (.slice (some ⟨g,0,none⟩) m cap) m vs
 lr:rows.length=m
 lb:bs.length=m
 inj:∀(i j b:Nat),bs[i]?=some b->bs[j]?=some b->i=j
 row:∀(j:Nat)(v:Value)(b:Nat)(r:c4),vs[j]?=some v->bs[j]?=some b->rows[j]?=some r->dH 46 3 (rQ r) D W v b
 db:∀b∈bs,D b
 dg:¬D g
section
variable{D:c6}{g cap m:Nat}{vs:j0}{bs:c7}{rows:b9}{W W':World}
def uw.lv(h:uw D g cap m vs bs rows W):vs.length=m:=by have:=h.own.1;omega
def uw.cells(h:uw D g cap m vs bs rows W):∃cur:Array Value,W.heap[g]?=some (.cells cur 28 (0,0))/\m<=cap/\cap<=maxLen/\cur.size=cap/\cur.toList.take m=vs:=by
 rcases h.own.2 with⟨e,_⟩ | ⟨g',cap',cur,e,_,hg,h1,h2,h3,h4⟩
 .cases e
 .simp only[jB,aZ,gm,cu,mQ]at e;obtain⟨rfl,rfl⟩:=e;exact⟨cur,hg,h1,h2,O,by rwa[eG]at h4⟩
def uw.at(h:uw D g cap m vs bs rows W){j:Nat}(hj:j<m):∃v b r,vs[j]?=some v/\bs[j]?=some b/\rows[j]?=some r/\dH 46 3 (rQ r) D W v b/\D b:=by
 have h1:=h.lv;have h2:=h.lb;have h3:=h.lr;have e2:bs[j]?=some (bs[j]' O):=bM O;exact⟨_,_,_,bM O,e2,bM O,h.row _ _ _ _ (bM O) e2 (bM O),h.db _ (dc e2)⟩
def uw.dJ(h:uw D g cap m vs bs rows W)(hk:av D W D W')(hb:∀b∈bs,W'.heap[b]?=W.heap[b]?)(hg:W'.heap[g]?=W.heap[g]?):uw D g cap m vs bs rows W':=
 ⟨oD h.own rfl hg,h.lr,h.lb,h.inj,fun j v b r h1 h2 h3=>(h.row j v b r h1 h2 h3).mono hk (hb b (dc h2)),h.db,h.dg⟩
def uw.glt(h:uw D g cap m vs bs rows W):g<W.heap.size:=by
 obtain⟨cur,hc,_⟩:=h.cells;exact(cJ.1 hc).1
def uw.below(h:uw D g cap m vs bs rows W)(hF:bf D W)(hb:Below W.heap.size W W'):uw D g cap m vs bs rows W':=
 h.dJ (av.below hb) (fun b hbm=>hb.block b (hF.1 b (h.db b hbm))) (hb.block g h.glt)
def aW{D:c6}{W W':World}(hF:bf D W)(hb:Below W.heap.size W W'):bf D W':=⟨fun b h=>cM (hF.1 b h) hb.size,hF.2.dJ (av.below hb)⟩
def iP{D:c6}{W W':World}{b:Nat}(hb:D b)(h:W.grownBy W' (some b)):av D W D W':=fun k o hk ho _=>⟨hk,(h.block k (cJ.1 ho).1 fun e=>hk (cI e▸hb)).trans ho⟩
def uw.elim(h:uw D g cap m vs bs rows W)(hF:bf D W){i kk b bk:Nat}{v vk:Value}{r r' p:c4}{cur cur':iS}(hv:vs[i]?=some v)(hb:bs[i]?=some b)(hr:rows[i]?=some r)
  (hvk:vs[kk]?=some vk) (hbk:bs[kk]?=some bk) (hrk:rows[kk]?=some p) (hne:i≠kk) (hW:W.grownBy W' (some b)) (hc:W.heap[b]?=some (.cells cur 46 (0,0))) (hc':W'.heap[b]?=some (.cells cur' 46 (0,0))) (hs:cur'.size=cur.size) (hl:r'.length=r.length)
  (hrep:an (fun k=>D k/\k≠bk) W' (rQ r').flatten cur'.toList):uw D g cap m vs bs (rows.set i r') W':=by
 have hDb:=h.db b (dc hb);have hk:=iP hDb hW;have hbb:∀j b',bs[j]?=some b'->j≠i->W'.heap[b']?=W.heap[b']?:=fun j b' hj hji=>hW.block b' (hF.1 b' (h.db b' (dc hj))) fun e=>hji (h.inj _ _ _ hj (cI e▸hb));have hkrow:=(h.row _ _ _ _ hvk hbk hrk).mono hk (hbb _ _ hbk (jg hne));refine⟨oD h.own rfl (hW.block g h.glt fun e=>h.dg (cI e▸hDb)),by rw[al];exact h.lr,h.lb,h.inj,fun j v' b' r2 h1 h2 h3=>?_,h.db,h.dg⟩;by_cases hji:j=i
 .subst hji;rw[hv]at h1;cases h1;rw[hb]at h2;cases h2;rw[lj (cL.1 hr).1]at h3;cases h3;have hrow:=h.row _ _ _ _ hv hb hr;obtain⟨cap1,cur1,rfl,hq1,hq2,hq3,hq4,_⟩:=hrow.cells;have hce:=hrow.ce8 hc;rw[hc]at hq1;simp only[aZ,jj,cu]at hq1;subst hq1;rw[<-hl]at *;refine dH.mk' hc' O O hq4 O (TO ?_ hrep);intro b2 cs T fz j2 k2 z2 hm2 hh2 hi2;obtain⟨_,curk,_,hck,_,_,_,hrk2⟩:=hkrow.cells;refine⟨fun hD=>?_,cs,T,fz,hh2,fun _ _ _ h=>h⟩;by_cases e:b2=bk
  .subst e;rw[hck]at hh2;simp only[aZ,jj]at hh2;obtain⟨rfl,_⟩:=hh2;exact OO hrk2 _ (dc (by rw[kU];exact hi2)) _ _ rfl
  .exact hm2 ⟨hD,e⟩
 .rw[np (jg hji)]at h3;exact(h.row _ _ _ _ h1 h2 h3).mono hk (hbb _ _ h2 hji)
def sg(k j i:Nat):Nat:=if i=j then k else if i=k then j else i
def fZ{α:Type}{l:List α}{k j:Nat}{x y:α}(hx:l[k]?=some x)(hy:l[j]?=some y)(i:Nat):(gi l k j x y)[i]?=l[sg k j i]?:=by
 have hk:=(cL.1 hx).1;have hj:=(cL.1 hy).1;unfold gi sg;by_cases h1:i=j
 .subst h1;rw[lj (by rw[al];exact hj),aF rfl,hx]
 .rw[np (jg h1),aG h1];by_cases h2:i=k
  .subst h2;rw[lj hk,aF rfl,hy]
  .rw[np (jg h2),aG h2]
def aT1{k j a b:Nat}(h:sg k j a=sg k j b):a=b:=by
 unfold sg at h;split at h<;>split at h<;>(try split at h)<;>(try split at h)<;>omega
def ji{α:Type}{l:List α}{k j:Nat}{x y:α}:(gi l k j x y).length=l.length:=by rw[gi,al,al]
theorem Ry{M:c6}{W:World}:∀{vs xs:j0},an M W (vs.map xV).flatten xs->xs=vs
 | [],[],_=>rfl
 | [],_::_,h=>h.elim
 | v::vs,x::xs,⟨h1,h2⟩=>by rw[show x=v from h1.1,Ry (vs:=vs) h2]
 | _::_,[],h=>h.elim
def dH.bV9{N:c6}{W:World}{v:Value}{b:Nat}{r:c4}(h:dH 46 3 (rQ r) N W v b)(k:IntKind)(z:Int):v≠.int k z:=by
 obtain⟨_,_,rfl,_⟩:=h.cells;intro e;cases e
def uw.swap(h:uw D g cap m vs bs rows W)(hF:bf D W){k j bx by':Nat}{x y:Value}{E:c6}{cur cur':iS}(hk:k<m)(hj:j<m)(hx:vs[k]?=some x)(hy:vs[j]?=some y)(hbx:bs[k]?=some bx)(hby:bs[j]?=some by')
  (hW:W.grownBy W' (some g)) (hc:W.heap[g]?=some (.cells cur 28 (0,0))) (hc':W'.heap[g]?=some (.cells cur' 28 (0,0))) (hs:cur'.size=cur.size) (hbe:∀i,m<=i->cur'[i]?=cur[i]?) (hrep:an E W' ((gi vs k j x y).map xV).flatten (cur'.toList.take m)) :
  uw D g cap m (gi vs k j x y) (gi bs k j bx by') (fT rows k j) W':=by
 obtain⟨cur0,hg,h1,h2,h3,h4⟩:=h.cells;rw[hc]at hg;simp only[aZ,jj,cu]at hg;subst hg;have hlv:=h.lv;have hlr:=h.lr;obtain⟨px,hpx⟩:∃p,rows[k]?=some p:=⟨_,bM O⟩
 obtain⟨py,hpy⟩:∃p,rows[j]?=some p:=⟨_,bM O⟩
 have hsw:fT rows k j=gi rows k j px py:=by
  unfold fT gi;rw[fI,fI,hpx,hpy];rfl
 rw[hsw]
 have hik:xF D W D W':=by
  intro b2 cs T fz j2 k2 z2 hm2 hh2 hi2;by_cases e:b2=g
  .subst e;rw[hc]at hh2;simp only[aZ,jj]at hh2;obtain⟨rfl,rfl,rfl⟩:=hh2;refine⟨hm2,cur',_,_,hc',fun j3 k3 z3 h3'=>?_⟩;by_cases hjm:j3<m
   .exfalso
    obtain⟨v,b,r,hv,_,_,hrow,_⟩:=h.at hjm;rw[<-h4,eh,aF hjm,kU,h3']at hv;exact hrow.bV9 _ _ (cI hv).symm
   .rw[hbe j3 O];exact h3'
  .exact⟨hm2,cs,T,fz,(hW.block b2 (cJ.1 hh2).1 fun e'=>e (cI e')).trans hh2,fun _ _ _ h=>h⟩
 have hmem:∀b∈gi bs k j bx by',b∈bs:=fun b hb=>by
  obtain⟨i,hi⟩:=kJ hb;rw[fZ hbx hby]at hi;exact dc hi
 refine⟨?_,by rw[ji];exact hlr,by rw[ji];exact h.lb,fun i1 i2 b e1 e2=>?_,fun i v b r e1 e2 e3=>?_,fun b hb=>h.db b (hmem b hb),h.dg⟩
 .refine⟨by rw[ji];omega,.inr ⟨g,cap,cur',rfl,dM _,hc',h1,h2,O,?_⟩⟩;rw[eG];exact Ry hrep
 .rw[fZ hbx hby]at e1 e2;exact aT1 (h.inj _ _ _ e1 e2)
 .rw[fZ hx hy]at e1;rw[fZ hbx hby]at e2;rw[fZ hpx hpy]at e3;have hDb:=h.db b (dc e2);exact(h.row _ _ _ _ e1 e2 e3).ints hik (hW.block b (hF.1 b hDb) fun e=>h.dg (cI e▸hDb))
end
def KQ:Tr:=.ret [(W 1 0),(WK (0))]
def JP:Tr:=.need (.prim [(W 0 0)] none) (.call ⟨.builtin .len,#[(.tmp 16)],#[197]⟩) 3 false KQ
def UZ:aj prog 125 (fun _=>none) (aH [1,1,0,0] (aM f136)) [(4,.v none)] ([17,18].map ResultVar.tmp) none false=JP:=aS
def Ik:Tr:=.ret [(W 2 0)]
def Js:Tr:=.need (.prim [(W 1 0),(W 0 0)] none) (.binOp .lss 3 (.tmp 18) (.tmp 17) 3) 0 false Ik
def WB:aj prog 125 (fun _=>none) (aH [1,1,0,1,0,0,0] (aM f136)) [(17,.v none),(18,.v none)] ([19].map ResultVar.tmp) none false=Js:=aS
def NT:Tr:=.ret [(.one (.ref 0 [(.u 0 0)]))]
def Vv:aj prog 125 (fun _=>none) (aH [1,1,0,1,0,0,1,1,0,0,0] (aM f136)) [(18,.v none)] ([5].map ResultVar.tmp) none false=NT:=aS
def Ij:Tr:=.ret [(W 1 0)]
def NV:Tr:=.need (.prim [(W 0 0),(WK (0))] none) (.binOp .lss 3 (.tmp 26) (.const (I3 (0))) 3) 4 false Ij
def WI:aj prog 125 (fun _=>none) (aH [1,1,0,1,0,0,1,1,0,0,1,1,0,0] (aM f136)) [(6,.v none)] ([27].map ResultVar.tmp) none false=NV:=aS
def MK:Tr:=.ret [(.one (.c (.k (.slice none 0 0)))),(.one (.c (.k (.bool false))))]
def Xk:aj prog 125 (fun _=>none) (aH [1,1,0,1,0,0,1,1,0,0,1,1,0,1,0,0] (aM f136)) [] ([2,3].map ResultVar.tmp) none false=MK:=aS
def NQ:Tr:=.ret [(W 0 0),(W 1 0),(WK (0))]
def MF:Tr:=.need (.prim [(W 0 0)] none) (.call ⟨.builtin .len,#[(.tmp 46)],#[197]⟩) 3 false NQ
def VU:aj prog 125 (fun _=>none) (aH [1,1,0,1,0,0,1,1,0,0,1,1,1,1,0] (aM f136)) [(4,.v none)] ([46,47,48].map ResultVar.tmp) none false=MF:=aS
def LP:Tr:=.ret [(W 2 0)]
def Mq:Tr:=.need (.prim [(W 1 0),(W 0 0)] none) (.binOp .lss 3 (.tmp 48) (.tmp 47) 3) 0 false LP
def WX:aj prog 125 (fun _=>none) (aH [1,1,0,1,0,0,1,1,0,0,1,1,1,1,1,0,0,0] (aM f136)) [(47,.v none),(48,.v none)] ([49].map ResultVar.tmp) none false=Mq:=aS
def LX:Tr:=.ret [(W 1 0),(W 3 0)]
def NY:Tr:=.need (.prim [(W 2 0)] none) (.load 28 (.tmp 51)) 28 false LX
def JW:Tr:=.need (.prim [(W 0 0),(W 1 0)] none) (.indexAddr 197 (.tmp 46) (.tmp 48)) 0 false NY
def WO:aj prog 125 (fun _=>none) (aH [1,1,0,1,0,0,1,1,0,0,1,1,1,1,1,0,0,1,1,0,0,0] (aM f136)) [(46,.v none),(48,.v none)] ([7,8].map ResultVar.tmp) none false=JW:=aS
def LG:Tr:=.ret [(W 1 0)]
def Mh:Tr:=.need (.prim [(W 0 0),(WK (1))] none) (.binOp .add 3 (.tmp 48) (.const (I3 (1))) 3) 3 false LG
def Xx:aj prog 125 (fun _=>none) (aH [1,1,0,1,0,0,1,1,0,0,1,1,1,1,1,0,0,1,1,1] (aM f136)) [(48,.v none)] ([48].map ResultVar.tmp) none false=Mh:=aS
def LQ:Tr:=.ret [(W 1 0)]
def KM:Tr:=.need (.prim [(W 0 0),(WK (1))] none) (.binOp .add 3 (.tmp 18) (.const (I3 (1))) 3) 3 false LQ
def Yc:aj prog 125 (fun _=>none) (aH [1,1,0,1,0,0,1,1,1] (aM f136)) [(18,.v none)] ([18].map ResultVar.tmp) none false=KM:=aS
def bF5(vs:j0):vc prog (fun o=>bD o (.ret [.one (.int .i64 (vs.length:Int)),.one (.int .i64 0)])) (aj prog 125 (fun _=>none) (aH [1,1,0,0] (aM f136)) [(4,.v none)] ([17,18].map ResultVar.tmp) none false) ([.v (.one (.slice 1 (vs.map xV)))].map In.env) []:=by
 rw[UZ];dsimp only[List.map,In.env,aU,aV];apply vn (ae tw (aL _));exact aR
def ca0(m k:Nat):vc prog (fun o=>bD o (.ret [.one (.bool (decide ((k:Int)<(m:Int))))])) (aj prog 125 (fun _=>none) (aH [1,1,0,1,0,0,0] (aM f136)) [(17,.v none),(18,.v none)] ([19].map ResultVar.tmp) none false) ([.v (.one (.int .i64 (m:Int))),.v (.one (.int .i64 (k:Int)))].map In.env) []:=by
 rw[WB];dsimp only[List.map,In.env,aU,aV];apply vn bO;exact aR
def bL0(k:Nat):vc prog (fun o=>bD o (.ret [.one (.aw [.int .i64 (k:Int)])])) (aj prog 125 (fun _=>none) (aH [1,1,0,1,0,0,1,1,0,0,0] (aM f136)) [(18,.v none)] ([5].map ResultVar.tmp) none false) ([.v (.one (.int .i64 (k:Int)))].map In.env) []:=by
 rw[Vv];dsimp only[List.map,In.env,aU,aV];exact aR
def cc5(z:Int):vc prog (fun o=>bD o (.ret [.one (.bool (decide (z<0)))])) (aj prog 125 (fun _=>none) (aH [1,1,0,1,0,0,1,1,0,0,1,1,0,0] (aM f136)) [(6,.v none)] ([27].map ResultVar.tmp) none false) ([.v (.one (.int .i64 z))].map In.env) []:=by
 rw[WI];dsimp only[List.map,In.env,aU,aV];apply vn bO;exact aR
def bY9  :vc prog (fun o=>bD o (.ret [.one (.exact (.slice none 0 0)),.one (.bool false)])) (aj prog 125 (fun _=>none) (aH [1,1,0,1,0,0,1,1,0,0,1,1,0,1,0,0] (aM f136)) [] ([2,3].map ResultVar.tmp) none false) ([].map In.env) []:=by
 rw[Xk];dsimp only[List.map,In.env,aU,aV];exact aR
def bW8(vs:j0):vc prog (fun o=>bD o (.ret [.one (.slice 1 (vs.map xV)),.one (.int .i64 (vs.length:Int)),.one (.int .i64 0)])) (aj prog 125 (fun _=>none) (aH [1,1,0,1,0,0,1,1,0,0,1,1,1,1,0] (aM f136)) [(4,.v none)] ([46,47,48].map ResultVar.tmp) none false) ([.v (.one (.slice 1 (vs.map xV)))].map In.env) []:=by
 rw[VU];dsimp only[List.map,In.env,aU,aV];apply vn (ae tw (aL _));exact aR
def bP9(m k:Nat):vc prog (fun o=>bD o (.ret [.one (.bool (decide ((k:Int)<(m:Int))))])) (aj prog 125 (fun _=>none) (aH [1,1,0,1,0,0,1,1,0,0,1,1,1,1,1,0,0,0] (aM f136)) [(47,.v none),(48,.v none)] ([49].map ResultVar.tmp) none false) ([.v (.one (.int .i64 (m:Int))),.v (.one (.int .i64 (k:Int)))].map In.env) []:=by
 rw[WX];dsimp only[List.map,In.env,aU,aV];apply vn bO;exact aR
def bM3(vs:j0)(i:Nat)(v:Value)(hv:vs[i]?=some v):vc prog (fun o=>bD o (.ret [.one (.int .i64 (i:Int)),.one (.exact v)])) (aj prog 125 (fun _=>none) (aH [1,1,0,1,0,0,1,1,0,0,1,1,1,1,1,0,0,1,1,0,0,0] (aM f136)) [(46,.v none),(48,.v none)] ([7,8].map ResultVar.tmp) none false) ([.v (.one (.slice 1 (vs.map xV))),.v (.one (.int .i64 (i:Int)))].map In.env) []:=by
 rw[WO];dsimp only[List.map,In.env,aU,aV];apply vn (aN (f:=xV) tw (m:=i) O (bI i) hv);apply vn (bq aW5);exact aR
def bR9(k:Nat)(hk:k<1099511627776:=by omega):vc prog (fun o=>bD o (.ret [.one (.int .i64 ((k:Int)+1))])) (aj prog 125 (fun _=>none) (aH [1,1,0,1,0,0,1,1,0,0,1,1,1,1,1,0,0,1,1,1] (aM f136)) [(48,.v none)] ([48].map ResultVar.tmp) none false) ([.v (.one (.int .i64 (k:Int)))].map In.env) []:=by
 rw[Xx];dsimp only[List.map,In.env,aU,aV];apply vn (aB O O);exact aR
def bD2(k:Nat)(hk:k<1099511627776:=by omega):vc prog (fun o=>bD o (.ret [.one (.int .i64 ((k:Int)+1))])) (aj prog 125 (fun _=>none) (aH [1,1,0,1,0,0,1,1,1] (aM f136)) [(18,.v none)] ([18].map ResultVar.tmp) none false) ([.v (.one (.int .i64 (k:Int)))].map In.env) []:=by
 rw[Yc];dsimp only[List.map,In.env,aU,aV];apply vn (aB O O);exact aR
theorem Om{α:Type}(c:α->Bool):∀(l:List α)(i:Nat),nG c l i=match l.findIdx? c with | some j=>((i+j:Nat):Int) | none=>-1
 | [],i=>by simp[nG]
 | x::xs,i=>by
   rw[nG,List.findIdx?_cons];split
   .rename_i h;simp
   .rename_i h;rw[Om c xs (i+1)];cases xs.findIdx? c with
    | none=>rfl
    | some j=>
      show((i+1+j:Nat):Int)=((i+(j+1):Nat):Int);rw[show i+1+j=i+(j+1) by omega]
section
variable{D:c6}{g cap m:Nat}{vs:j0}{bs:c7}{rows:b9}{W W':World}
def uw.eQ(h:uw D g cap m vs bs rows W){M:c6}(hM:∀k,M k->D k)(hb:∀b∈bs,¬M b):(aC.slice 1 (rows.map cQ)).rep M W (.slice (some ⟨g,0,none⟩) m cap):=by
 obtain⟨cur,hg,h1,h2,h3,h4⟩:=h.cells;have hlr:=h.lr;refine⟨_,cap,by rw[aL,hlr],by rw[aL];omega,h2,.inr ⟨g,0,cur,_,_,rfl,fun hm=>h.dg (hM _ hm),hg,fun i t ht=>?_⟩⟩;rw[dR,yM]at ht;obtain⟨r,hr,rfl⟩:=ht;have hi:i<m:=by have:=(cL.1 hr).1;omega
 obtain⟨v,b,r',hv,hbb,hr',hrow,hDb⟩:=h.at hi;rw[hr]at hr';cases hr';refine⟨rfl,?_⟩
 have e:List.take 1 (List.drop (0+i*1) cur.toList)=[v]:=by
  rw[<-h4,eh,aF hi]at hv;obtain⟨hlt,hv⟩:=cL.1 hv;rw[bW,eG,jW hlt,hv];rfl
 rw[e];exact⟨hrow.sQ hM (hb b (dc hbb)),trivial⟩
def uw.xY(h:uw D g cap m vs bs rows W){N:c6}(hN:∀k,N k->D k){kk bk:Nat}{vk:Value}{p:c4}(hvk:vs[kk]?=some vk)(hbk:bs[kk]?=some bk)(hrk:rows[kk]?=some p)(hnb:¬N bk) :
  (aC.slice 1 ((vs.map xV).set kk [aC.slice 3 (rQ p)])).rep N W (.slice (some ⟨g,0,none⟩) m cap):=by
 obtain⟨cur,hg,h1,h2,h3,h4⟩:=h.cells;have hlv:=h.lv;refine⟨_,cap,by rw[al,aL,hlv],by rw[al,aL];omega,h2,.inr ⟨g,0,cur,_,_,rfl,fun hm=>h.dg (hN _ hm),hg,fun i t ht=>?_⟩⟩;have hi:i<m:=by have:=(cL.1 ht).1;rw[al,aL]at this;omega
 obtain⟨v,b,r',hv,hbb,hr',hrow,hDb⟩:=h.at hi
 have e:List.take 1 (List.drop (0+i*1) cur.toList)=[v]:=by
  have hv':=hv;rw[<-h4,eh,aF hi]at hv';obtain⟨hlt,hv'⟩:=cL.1 hv';rw[bW,eG,jW hlt,hv'];rfl
 rw[e];by_cases hik:kk=i
 .subst hik;rw[lj (by rw[aL];omega)]at ht;cases ht;rw[hbk]at hbb;cases hbb;rw[hrk]at hr';cases hr';exact⟨rfl,hrow.sQ hN hnb,trivial⟩
 .rw[np hik,dR,hv]at ht;cases ht;exact⟨rfl,⟨rfl,hrow.one⟩,trivial⟩
def uw.xs(h:uw D g cap m vs bs rows W){N:c6}(hg:¬N g):(aC.slice 1 (vs.map xV)).rep N W (.slice (some ⟨g,0,none⟩) m cap):=by
 obtain⟨cur,hgc,h1,h2,h3,h4⟩:=h.cells;have hlv:=h.lv;refine⟨_,cap,by rw[aL,hlv],by rw[aL];omega,h2,.inr ⟨g,0,cur,_,_,rfl,hg,hgc,fun i t ht=>?_⟩⟩;have hi:i<m:=by have:=(cL.1 ht).1;rw[aL]at this;omega
 obtain⟨v,b,r',hv,hbb,hr',hrow,hDb⟩:=h.at hi;rw[dR,hv]at ht;cases ht
 have e:List.take 1 (List.drop (0+i*1) cur.toList)=[v]:=by
  rw[<-h4,eh,aF hi]at hv;obtain⟨hlt,hv⟩:=cL.1 hv;rw[bW,eG,jW hlt,hv];rfl
 rw[e];exact⟨rfl,⟨rfl,hrow.one⟩,trivial⟩
def uw.rep(h:uw D g cap m vs bs rows W){N:c6}:an N W (vs.map xV).flatten vs:=by
 have:∀v∈vs,v.oneCell'=true:=fun v hv=>by
  obtain⟨i,hi⟩:=kJ hv;have hl:=h.lv;obtain⟨v',b,r',hv',hbb,hr',hrow,_⟩:=h.at (j:=i) (by have:=(cL.1 hi).1;omega);rw[hi]at hv';cases hv';exact hrow.one
 clear h
 induction vs with
 | nil=>trivial
 | cons v vs ih=>exact⟨⟨rfl,this v cE⟩,ih fun v hv=>this v (cg _ hv)⟩
end
structure Fr(S:c6)(w W:World):Prop where
 os:W.os=w.os
 tape:W.tape=w.tape
 output:W.output=w.output
 size:w.heap.size<=W.heap.size
 old:∀k,k<w.heap.size->¬S k->W.heap[k]?=w.heap[k]?
def Fr.grown{S:c6}{w W W':World}{b:Nat}(h:Fr S w W)(hb:w.heap.size<=b\/S b)(hg:W.grownBy W' (some b)):Fr S w W':=
 ⟨hg.os.trans h.os,hg.tape.trans h.tape,hg.output.trans h.output,bG h.size hg.size,fun k hk hn=>(hg.block k (by have:=h.size;omega) fun e=>by
  have:=cI e;subst this;exact hb.elim (fun h=>O) hn).trans (h.old k hk hn)⟩
def Fr.below{S:c6}{w W W':World}(h:Fr S w W)(hg:Below W.heap.size W W'):Fr S w W':=
 ⟨hg.os.trans h.os,hg.tape.trans h.tape,hg.output.trans h.output,bG h.size hg.size,fun k hk hn=>(hg.block k (by have:=h.size;omega)).trans (h.old k hk hn)⟩
def gA(A:Nat):Nat->Nat
 | 0=>A
 | k+1=>4*gA A k+1
attribute [local go_sem] Oper.semAt_some
def qn(M:c6)(W:World)(o:Option (List Rat))(e:Ending):Prop:=match o with
 | none=>e=.returned (pack [.slice none 0 0,.bool false])
 | some x=>∃u,e=.returned (pack [u,.bool true])/\(aC.slice 3 (rQ x)).rep M W u
def fX{D M:c6}{W:World}(h:bf D W)(hM:∀k,M k->D k):bf M W:=⟨fun b hb=>h.1 b (hM b hb),h.2.sub hM⟩
theorem an1{A:Nat}:∀k,A<=gA A k
 | 0=>ah _
 | k+1=>by have:=an1 (A:=A) k;simp only[gA];omega
def xL{c:aC}{M N:c6}{W:World}{v:Value}(h:c.rep M W v)(hN:∀k,N k->M k):c.rep N W v:=aC.mono _ (fun b o hb ho _=>⟨fun h=>hb (hN b h),ho⟩) h
def zZ{α:Type}{l:List α}{i:Nat}{x:α}(h:l[i]?=some x):l.set i x=l:=by
 apply gU;intro j;rw[nk];by_cases e:i=j
 .subst e;rw[aF rfl,aF (cL.1 h).1,h]
 .rw[aG e]
def Fu{K1:j4}{id:Nat}{Q:iN}{a:Act}{w:World}(h:Q .normal a w):Exit.then K1 (Exit.inBlock id Q) (.exit id) a w:=wR h
set_option maxRecDepth 100000 in
set_option maxHeartbeats 2000000 in
def DM(M S:c6)(w:World)(hM:bf (fun k=>M k\/S k) w)(hS:∀k,S k->k<w.heap.size/\¬M k)(gf:Nat)(lb:iS)(rows:b9)(m L A:Nat)(hT:vL m L A rows)(hm:0<m)(hmL:m<=L)(hL:L<1099511627776)(hA1:1<=A)(hA:∀k,k<=m->gA A k<=1000000000)(hm':m<549755813888)
  (hG:Gen prog 46 3 gf lb (rows.map rQ) S S M w) (hgf:∀args w,(callFunc gf args).run prog w=.ok (.enter gf args) w) :
  Calls prog 136 #[.func (.func gf) #[] lb] w fun e W'=>Fr S w W'/\qn M W' (fQ rows) e:=by
 refine(bC (n:=1001)).1 ?_;refine jF func136 rfl trivial ?_ rfl;simp only[ntmps136,cq,bB,bu,Nat.reduceAdd,Nat.reduceSub,eE,eF,eJ,eI,List.nil_append,List.cons_append];have hmr:=hT.len;refine sU fun K0 hK0=>?_;replace hK0:Mt _:=hK0
 gi_wp2
 unfold Mt at hK0;refine hK0 _ _ ?_;clear hK0 K0;refine sU fun K0 hK0=>?_;replace hK0:Mt _:=hK0
 gi_wp2
 refine⟨trivial,?_⟩;refine(bC.2 (YP M S w hM hS gf lb (rows.map rQ) hG hgf (by rw[aL];omega))).mono ?_;rintro e W1 ⟨va,vs,bs,rfl,hmat⟩
 gi_wp2
 unfold Mt at hK0;refine hK0 _ _ ?_;clear hK0 K0;generalize ha:(Act.mk _ _)=a1;have hsz1:a1.tmps.size=125:=by rw[<-ha];rfl
 have hdf1:a1.defers=[]:=by rw[<-ha]
 have h14:a1.tmps.getD 4 undef=va:=by rw[<-ha];rfl
 clear ha
 obtain⟨g,cap,hva,hgn⟩:∃g cap,va=.slice (some ⟨g,0,none⟩) m cap/\w.heap.size<=g:=by
  have ho:=hmat.own;rw[aL,hmr]at ho;rcases ho.2 with⟨_,h0⟩ | ⟨g,cap,cur,e,hg,_⟩
  .omega
  .exact⟨g,cap,e,hg⟩
 have hlv:vs.length=m:=by have:=hmat.own.1;rw[aL]at this;omega
 have hlbs:bs.length=m:=by have:=hmat.lb;rwa[aL,hmr]at this
 have hrw1:∀(j:Nat)(v:Value)(b:Nat)(r:c4),vs[j]?=some v->bs[j]?=some b->rows[j]?=some r->dH 46 3 (rQ r) (fun k=>M k\/va.ownBlock=some k\/k∈bs\/S k) W1 v b:=fun j v b r h1 h2 h3=>hmat.row j v b _ h1 h2 (by rw[dR,h3];rfl)
 have hblt:∀b∈bs,b<W1.heap.size:=fun b hb=>by
  obtain⟨j,hj⟩:=kJ hb;have hjl:=(cL.1 hj).1;exact(hrw1 j _ b _ (bM (show j<vs.length by omega)) hj (bM (show j<rows.length by omega))).lt
 have hbM:∀b∈bs,¬M b:=fun b hb hm=>(hmat.bl b hb).elim (fun h=>by have:=hM.1 b (.inl hm);omega) (fun h=>(hS b h).2 hm);have hbS:=hmat.bl;obtain⟨D,hD⟩:∃D:Nat->Prop,∀k,D k↔M k\/S k\/k∈bs:=⟨_,fun k=>mZ⟩
 have hMD:∀k,M k->D k:=fun k h=>(hD k).2 (.inl h);have hDb:∀b∈bs,D b:=fun b hb=>(hD b).2 (.inr (.inr hb))
 have hDg:¬D g:=fun h=>by
  rcases(hD g).1 h with h | h | h
  .have:=hM.1 g (.inl h);omega
  .have:=(hS g h).1;omega
  .exact hmat.vb g h (by rw[hva];rfl)
 have hbD:∀k,D k->k<w.heap.size->M k\/S k:=fun k h hk=>by
  rcases(hD k).1 h with h | h | h
  .exact .inl h
  .exact .inr h
  .exact(hbS k h).elim (fun h=>O) .inr
 have hgood:∀W',Fr S w W'->Good (Mb D g) W':=fun W' hf=>hM.2.dJ fun k o hk ho _=>by
  have hlt:=(cJ.1 ho).1;exact⟨fun h=>h.elim (fun h=>hk (hbD k h hlt)) (fun h=>O),(hf.old k hlt fun h=>hk (.inr h)).trans ho⟩
 have hFg:∀W',Fr S w W'->bf D W'->g<W'.heap.size->bf (Mb D g) W':=fun W' hf hF hlt=>⟨fun k hk=>hk.elim (hF.1 k) (fun e=>by rw[e];exact hlt),hgood W' hf⟩
 have hfr1:Fr S w W1:=⟨hmat.wos.1,hmat.wos.2.1,hmat.wos.2.2,hmat.size,hmat.old⟩
 have hF1:bf D W1:=⟨fun k hk=>by
  rcases(hD k).1 hk with h | h | h
  .have:=hM.1 k (.inl h);have:=hmat.size;omega
  .have:=(hS k h).1;have:=hmat.size;omega
  .exact hblt k h,(hgood W1 hfr1).sub fun k h=>.inl h⟩
 have hsol1:uw D g cap m vs bs rows W1:=by
  refine⟨?_,hmr,hlbs,fun i j b h1 h2=>?_,fun j v b r h1 h2 h3=>(hrw1 j v b r h1 h2 h3).less fun k hk=>?_,hDb,hDg⟩
  .have ho:=hmat.own;rw[aL,hmr,hva]at ho;refine⟨ho.1,?_⟩;rcases ho.2 with⟨h,_⟩ | ⟨g',cap',cur,e,_,rest⟩
   .cases h
   .exact .inr ⟨g',cap',cur,e,dM _,rest⟩
  .exact(List.getElem?_inj (cL.1 h1).1 hmat.nd).1 (h1.trans h2.symm)
  .rcases(hD k).1 hk with h | h | h
   .exact .inl h
   .exact .inr (.inr (.inr h))
   .exact .inr (.inr (.inl h))
 rw[hva]at h14;clear hmat hrw1 hblt hG hgf hM hva;have h14r:(aC.slice 1 (vs.map xV)).rep D W1 (a1.tmps.getD 4 undef):=by rw[h14];exact hsol1.xs hDg
 refine cn (cn (dK.2 (bV jN.wp (n0:=W1.heap.size) (N:=125) (ins:=[(4,.v none)]) (xs:=[.v (.one (.slice 1 (vs.map xV)))]) fo ⟨rfl,trivial⟩ (tg (bF5 vs)) aS (ah _) hF1 hsz1 hdf1 ⟨h14r,trivial⟩ ?_)));intro a2 w2 us2 hag2 hb2 hsz2 hdf2 hr2 hrep2;have hus:=bA hr2;subst hus;have h217:a2.tmps.getD 17 undef=.int .i64 (m:Int):=by rw[<-hlv];exact hrep2.1.1
 have h218:a2.tmps.getD 18 undef=.int .i64 ((0:Nat):Int):=hrep2.2.1.1;have h24:=(aO hag2 4 aS).trans h14;show Code.wpIn _ _ _ _ _ _ _
 refine pT (rh (fun j a' W'=>∃(k:Nat)(vs':j0)(bs':c7)(rk:b9),j=m-k/\k<=m/\a'.tmps.size=125/\a'.defers=[]/\a'.tmps.getD 4 undef=.slice (some ⟨g,0,none⟩) m cap/\a'.tmps.getD 17 undef=.int .i64 (m:Int)/\a'.tmps.getD 18 undef=.int .i64 (k:Int)/\uw D g cap m vs' bs' rk W'/\bf D W'/\vL m L (gA A k) rk/\iy (m-k) k rk=iy m 0 rows/\Fr S w W'/\(∀b∈bs',b∈bs)) m
  ⟨0,vs,bs,rows,rfl,dM _,hsz2,hdf2,h24,h217,h218,hsol1.below hF1 hb2,aW hF1 hb2,hT,rfl,hfr1.below hb2,fun b h=>h⟩ ?round)
 case round=>
  clear hsol1 hF1 hfr1 hag2 hb2 hsz2 hdf2 hr2 hrep2 h217 h218 h24 h14 hsz1 hdf1 hlbs hlv hT h14r;rintro j a2 w2 ⟨k,vs',bs',rk,rfl,hkm,hsz2,hdf2,t4,t17,t18,hsol,hF,hT,hsv,hfr,hbb⟩;have hlv:=hsol.lv;have hlr:=hsol.lr;have hlb:=hsol.lb;show Code.wpIn _ _ _ _ _ _ _;refine cn (dK.2 (bV jN.wp (n0:=w2.heap.size) (N:=125) (ins:=[(17,.v none),(18,.v none)]) (xs:=[.v (.one (.int .i64 (m:Int))),.v (.one (.int .i64 (k:Int)))]) fo ⟨rfl,rfl,trivial⟩ (tg (ca0 m k)) aS (ah _) hF hsz2 hdf2 ⟨⟨t17,rfl⟩,⟨t18,rfl⟩,trivial⟩ ?_));intro a3 w3 us3 hag3 hb3 hsz3 hdf3 hr3 hrep3;have hus:=bA hr3;subst hus;have h19:a3.tmps.getD 19 undef=.bool (decide ((k:Int)<(m:Int))):=hrep3.1.1;replace t4:=(aO hag3 4 aS).trans t4;replace t17:=(aO hag3 17 aS).trans t17;replace t18:=(aO hag3 18 aS).trans t18;replace hsol:=hsol.below hF hb3;replace hF:=aW hF hb3;replace hfr:=hfr.below hb3;clear hag3 hb3 hr3 hrep3 hsz2 hdf2;show Code.wpIn _ _ _ _ _ _ _;refine cn (qK (t:=decide ((k:Int)<(m:Int))) h19 ?_);by_cases hlt:(k:Int)<(m:Int)
  rotate_left
  .rw[dn hlt];obtain rfl:k=m:=O
   refine yQ (km ?_);show Code.wpIn _ _ _ _ _ _ _;have t4r:(eQ rk).rep M w3 (a3.tmps.getD 4 undef):=by rw[t4];exact hsol.eQ hMD (fun b hb=>hbM b (hbb b hb))
   refine dK.2 (FI jN.wp (n0:=w3.heap.size) (N:=125) (ins:=[(4,.v none)]) (xs:=[.v (.one (eQ rk))]) fo ⟨rfl,trivial⟩ (tg (bE2 rk L (gA A k) hT.row hL (bG hA1 (an1 k)) (by have:=hA k (ah _);omega))) aS (ah _) (fX hF hMD) hsz3 hdf3 ⟨t4r,trivial⟩ ?_);intro e a4 w4 us4 he hb4 hsz4 hdf4 hr4 hrep4
   have hsv':fQ rows=some ((List.range rk.length).map (lY rk)):=by
    rw[fE,iy]at hsv;rw[fQ,hmr,<-hsv];rfl
   have hpost:Fr S w w4/\qn M w4 (fQ rows) (.returned (pack us4)):=by
    refine⟨hfr.below hb4,?_⟩;rw[hsv']
    match us4,hrep4 with
    | [u,v],hrep4=>
      have hv:v=.bool true:=hrep4.2.1.1;subst hv;exact⟨u,rfl,hrep4.1⟩
    | [],h=>exact h.elim
    | [_],h=>exact h.2.elim
    | _::_::_::_,h=>exact h.2.2.elim
   have hres:=gN f136 a4.tmps us4 hr4;cases e with
   | exit id=>cases he
   | normal=>exact Qy hres hdf4 hpost
   | ret=>exact gB hres hdf4 hpost
  rw[bz hlt];refine qR ?_;have hkm':k<m:=O
  have hA9:=hA k hkm;have hA8:=bG hA1 (an1 (A:=A) k);show Code.wpIn _ _ _ _ _ _ _;refine sU fun K9 hK9=>pT ?_
  have hN9:∀(a9:Act)(w9:World)(vs9:j0)(bs9:c7)(r9:b9),a9.tmps.size=125->a9.defers=[]->a9.tmps.getD 4 undef=.slice (some ⟨g,0,none⟩) m cap->a9.tmps.getD 17 undef=.int .i64 (m:Int)->a9.tmps.getD 18 undef=.int .i64 (k:Int)->uw D g cap m vs9 bs9 r9 w9->bf D w9->vL m L (gA A (k+1)) r9->iy (m-(k+1)) (k+1) r9=iy m 0 rows->Fr S w w9->(∀b∈bs9,b∈bs)->K9 a9 w9:=by
   intro a9 w9 vs9 bs9 r9 q1 q2 q3 q4 q5 q6 q7 q8 q9 q10 q11;refine hK9 _ _ ?_;refine dK.2 (bV jN.wp (n0:=w9.heap.size) (N:=125) (ins:=[(18,.v none)]) (xs:=[.v (.one (.int .i64 (k:Int)))]) fo ⟨rfl,trivial⟩ (tg (bD2 k)) aS (ah _) q7 q1 q2 ⟨⟨q5,rfl⟩,trivial⟩ ?_);intro a10 w10 us10 hag10 hb10 hsz10 hdf10 hr10 hrep10;have hus:=bA hr10;subst hus;exact⟨m-(k+1),O,k+1,vs9,bs9,r9,rfl,O,hsz10,hdf10,(aO hag10 4 aS).trans q3,(aO hag10 17 aS).trans q4,hrep10.1.1,q6.below q7 hb10,aW q7 hb10,q8,q9,q10.below hb10,q11⟩
  clear hK9;have hglt:=hsol.glt;show Code.wpIn _ _ _ _ _ _ _;refine cn (dK.2 (bV jN.wp (n0:=w3.heap.size) (N:=125) (ins:=[(18,.v none)]) (xs:=[.v (.one (.int .i64 (k:Int)))]) fo ⟨rfl,trivial⟩ (tg (bL0 k)) aS (ah _) (hFg _ hfr hF hglt) hsz3 hdf3 ⟨⟨t18,rfl⟩,trivial⟩ ?_));intro a4 w4 us4 hag4 hb4 hsz4 hdf4 hr4 hrep4;have hus:=bA hr4;subst hus;have t5:(aC.aw [.int .i64 (k:Int)]).rep (Mb D g) w4 (a4.tmps.getD 5 undef):=hrep4.1;replace t4:=(aO hag4 4 aS).trans t4;replace t17:=(aO hag4 17 aS).trans t17;replace t18:=(aO hag4 18 aS).trans t18;replace hsol:=hsol.below hF hb4;replace hF:=aW hF hb4;replace hfr:=hfr.below hb4;clear hag4 hb4 hr4 hrep4 hsz3 hdf3 h19 hglt;have t4r:(eQ rk).rep M w4 (a4.tmps.getD 4 undef):=by rw[t4];exact hsol.eQ hMD (fun b hb=>hbM b (hbb b hb))
  have t5r:=xL (N:=M) t5 (fun q h=>.inl (hMD q h));show Code.wpIn _ _ _ _ _ _ _;refine cn (dK.2 (bV jN.wp (n0:=w4.heap.size) (N:=125) (ins:=[(4,.v none),(5,.ref 1)]) (xs:=[.v (.one (eQ rk)),.ref [.int .i64 (k:Int)]]) fo ⟨rfl,rfl,trivial⟩ (tg (bP7 rk k L (fun r hr=>(hT.row r hr).1) hL)) aS (ah _) (fX hF hMD) hsz4 hdf4 ⟨t4r,t5r,trivial⟩ ?_));intro a5 w5 us5 hag5 hb5 hsz5 hdf5 hr5 hrep5;have hus:=bA hr5;subst hus;obtain⟨z,hz⟩:∃z,nG (bw7 k) (rk.drop k) 0=z:=⟨_,rfl⟩
  have h6:a5.tmps.getD 6 undef=.int .i64 z:=by rw[<-hz];exact hrep5.1.1
  replace t4:=(aO hag5 4 aS).trans t4;replace t17:=(aO hag5 17 aS).trans t17;replace t18:=(aO hag5 18 aS).trans t18;replace t5:(aC.aw [.int .i64 (k:Int)]).rep (Mb D g) w5 (a5.tmps.getD 5 undef):=by rw[aO hag5 5 aS];exact aC.mono _ (av.below hb5) t5
  replace hsol:=hsol.below hF hb5;replace hF:=aW hF hb5;replace hfr:=hfr.below hb5;clear hag5 hb5 hr5 hrep5 hsz4 hdf4 t4r t5r;show Code.wpIn _ _ _ _ _ _ _;refine cn (cn (dK.2 (bV jN.wp (n0:=w5.heap.size) (N:=125) (ins:=[(6,.v none)]) (xs:=[.v (.one (.int .i64 z))]) fo ⟨rfl,trivial⟩ (tg (cc5 z)) aS (ah _) hF hsz5 hdf5 ⟨⟨h6,rfl⟩,trivial⟩ ?_)));intro a6 w6 us6 hag6 hb6 hsz6 hdf6 hr6 hrep6;have hus:=bA hr6;subst hus;have h27:a6.tmps.getD 27 undef=.bool (decide (z<0)):=hrep6.1.1;replace h6:=(aO hag6 6 aS).trans h6;replace t4:=(aO hag6 4 aS).trans t4;replace t17:=(aO hag6 17 aS).trans t17;replace t18:=(aO hag6 18 aS).trans t18;replace t5:(aC.aw [.int .i64 (k:Int)]).rep (Mb D g) w6 (a6.tmps.getD 5 undef):=by rw[aO hag6 5 aS];exact aC.mono _ (av.below hb6) t5
  replace hsol:=hsol.below hF hb6;replace hF:=aW hF hb6;replace hfr:=hfr.below hb6;clear hag6 hb6 hr6 hrep6 hsz5 hdf5;rw[Om]at hz;obtain⟨f,hf⟩:∃f,m-k=f+1:=⟨m-k-1,O⟩
  rw[hf,iy]at hsv;show Code.wpIn _ _ _ _ _ _ _;refine qK (t:=decide (z<0)) h27 ?_;cases hpv:(rk.drop k).findIdx? (bw7 k)with
  | none=>
    rw[hpv]at hz;subst hz;rw[show HI k rk=none from hpv]at hsv;refine cn (dK.2 (bV jN.wp (n0:=w6.heap.size) (N:=125) (ins:=[]) (xs:=[]) fo trivial (tg bY9) aS (ah _) hF hsz6 hdf6 trivial ?_));intro a7 w7 us7 hag7 hb7 hsz7 hdf7 hr7 hrep7;refine wpIn_ret ?_;have hres:=gN f136 a7.tmps us7 hr7
    have hpost:Fr S w w7/\qn M w7 (fQ rows) (.returned (pack us7)):=by
     refine⟨hfr.below hb7,?_⟩;rw[fQ,hmr,<-hsv]
     match us7,hrep7 with
     | [u,v],hrep7=>
       have hu:u=.slice none 0 0:=hrep7.1.1;have hv:v=.bool false:=hrep7.2.1.1;subst hu hv;exact rfl
     | [],h=>exact h.elim
     | [_],h=>exact h.2.elim
     | _::_::_::_,h=>exact h.2.2.elim
    exact(show bodyPost prog f136 (fun e W'=>Fr S w W'/\qn M W' (fQ rows) e) .ret a7 w7 from gB hres hdf7 hpost)
  | some i=>
  rw[hpv]at hz;rw[show HI k rk=some i from hpv]at hsv;replace hz:((0+i:Nat):Int)=z:=hz;rw[bW]at hz;subst hz;rw[dn O];refine qR ?_
  have hki:k+i<m:=by
   obtain⟨hlt,_⟩:=Ta.1 hpv;rw[dF]at hlt;omega
  obtain⟨x,bx,rx,hx,hbx,hrx,_,_⟩:=hsol.at (j:=k) hkm';obtain⟨y,by',ry,hy,hby,hry,_,_⟩:=hsol.at (j:=k+i) hki;obtain⟨cur,hgc,hc1,hc2,hc3,hc4⟩:=hsol.cells;have hglt:=hsol.glt;have hxl:(vs'.map xV).length=m:=by rw[aL];exact hlv
  show Code.wpIn _ _ _ _ _ _ _;refine cn (dK.2 (zJ jN.wp (g:=g) (cap:=cap) (cur:=cur) (N:=125) (t0:=4) (E:=28) (sz:=1) (ts:=vs'.map xV) (ins:=[(5,.ref 1),(6,.v none)]) (xs:=[.ref [.int .i64 (k:Int)],.v (.one (.int .i64 (i:Int)))]) fo ⟨rfl,rfl,trivial⟩ (bE4 vs' k i x y hx hy) aS (hFg _ hfr hF hglt) (.inr rfl) hsz6 hdf6 (fun t ht=>by obtain⟨v,_,rfl⟩:=dm.1 ht;rfl) ⟨t5,⟨h6,rfl⟩,trivial⟩ (by rw[hxl];exact t4) hgc (by rw[hxl];omega) (by rw[hxl];exact hc1) hc2 (by rw[hxl,eG,hc4];exact hsol.rep) ?_));intro a7 w7 us7 cur7 hag7 hg7 hsz7 hdf7 hr7 hgc7 hcs7 hbe7 _ hrep7;rw[hxl,eG]at hbe7 hrep7;have hsol7:=hsol.swap hF hkm' hki hx hy hbx hby hg7 hgc hgc7 hcs7 hbe7 hrep7
  have hbb7:∀b∈gi bs' k (k+i) bx by',b∈bs:=fun b hb=>by
   obtain⟨q,hq⟩:=kJ hb;rw[fZ hbx hby]at hq;exact hbb b (dc hq)
  have hk7:=iP (D:=Mb D g) (.inr rfl) hg7;have hF7g:=hFg _ hfr hF hglt;have hF7:bf D w7:=fX (M:=D) (D:=Mb D g) ⟨fun q hq=>cM (hF7g.1 q hq) hg7.size,hF7g.2.dJ hk7⟩ (fun q h=>.inl h);have hfr7:=hfr.grown (.inl hgn) hg7;replace t4:=(aO hag7 4 aS).trans t4;replace t17:=(aO hag7 17 aS).trans t17;replace t18:=(aO hag7 18 aS).trans t18;replace t5:(aC.aw [.int .i64 (k:Int)]).rep (Mb D g) w7 (a7.tmps.getD 5 undef):=by rw[aO hag7 5 aS];exact aC.mono _ hk7 t5
  have hT7:vL m L (gA A k) (fT rk k (k+i)):=hT.swap hkm' hki;clear hsol hfr hF hF7g hag7 hg7 hr7 hgc7 hcs7 hbe7 hrep7 hgc hc1 hc2 hc3 hc4 hsz6 hdf6 hbb hT h6 h27 hk7 hx hy hbx hby hrx hry cur cur7 hxl hpv hlb hlv;rw[hlr]at hsv;obtain⟨r1,hr1⟩:∃r1,fT rk k (k+i)=r1:=⟨_,rfl⟩
  obtain⟨vs1,hvs1⟩:∃vs1,gi vs' k (k+i) x y=vs1:=⟨_,rfl⟩
  obtain⟨bs1,hbs1⟩:∃bs1,gi bs' k (k+i) bx by'=bs1:=⟨_,rfl⟩
  rw[hr1,hvs1,hbs1]at hsol7;rw[hbs1]at hbb7;rw[hr1]at hT7;replace hsv:iy f (k+1) (cj k r1 m)=iy m 0 rows:=by rw[<-hr1];exact hsv
  clear hr1 hvs1 hbs1 hlr rk vs' bs';have hlr:=hsol7.lr;have hlv:=hsol7.lv;obtain⟨vp,bp,p,hvp,hbp,hrp,_,hDbp⟩:=hsol7.at (j:=k) hkm';have hpk:r1.getD k []=p:=by rw[fI,hrp];rfl
  have t4x:(aC.slice 1 (vs1.map xV)).rep D w7 (a7.tmps.getD 4 undef):=by rw[t4];exact hsol7.xs hDg
  show Code.wpIn _ _ _ _ _ _ _;refine cn (dK.2 (bV jN.wp (n0:=w7.heap.size) (N:=125) (ins:=[(4,.v none)]) (xs:=[.v (.one (.slice 1 (vs1.map xV)))]) fo ⟨rfl,trivial⟩ (tg (bW8 vs1)) aS (ah _) hF7 hsz7 hdf7 ⟨t4x,trivial⟩ ?_));intro a8 w8 us8 hag8 hb8 hsz8 hdf8 hr8 hrep8;have hus:=bA hr8;subst hus;have t46:(aC.slice 1 (vs1.map xV)).rep D w8 (a8.tmps.getD 46 undef):=hrep8.1;have t47:a8.tmps.getD 47 undef=.int .i64 (m:Int):=by rw[<-hlv];exact hrep8.2.1.1
  have t48:a8.tmps.getD 48 undef=.int .i64 ((0:Nat):Int):=hrep8.2.2.1.1;replace t4:=(aO hag8 4 aS).trans t4;replace t17:=(aO hag8 17 aS).trans t17;replace t18:=(aO hag8 18 aS).trans t18;replace t5:(aC.aw [.int .i64 (k:Int)]).rep (Mb D g) w8 (a8.tmps.getD 5 undef):=by rw[aO hag8 5 aS];exact aC.mono _ (av.below hb8) t5
  have hsol8:=hsol7.below hF7 hb8;have hF8:=aW hF7 hb8;have hfr8:=hfr7.below hb8;clear hag8 hb8 hr8 hrep8 hsz7 hdf7 hsol7 hF7 hfr7 t4x;show Code.wpIn _ _ _ _ _ _ _
  refine pT (rh (fun j a' W'=>∃(q:Nat),j=m-q/\q<=m/\a'.tmps.size=125/\a'.defers=[]/\a'.tmps.getD 4 undef=.slice (some ⟨g,0,none⟩) m cap/\a'.tmps.getD 17 undef=.int .i64 (m:Int)/\a'.tmps.getD 18 undef=.int .i64 (k:Int)/\(aC.aw [.int .i64 (k:Int)]).rep (Mb D g) W' (a'.tmps.getD 5 undef)/\(aC.slice 1 (vs1.map xV)).rep D W' (a'.tmps.getD 46 undef)/\a'.tmps.getD 47 undef=.int .i64 (m:Int)/\a'.tmps.getD 48 undef=.int .i64 (q:Int)/\uw D g cap m vs1 bs1 (cj k r1 q) W'/\bf D W'/\Fr S w W') m
   ⟨0,rfl,dM _,hsz8,hdf8,t4,t17,t18,t5,t46,t47,t48,by rw[xN];exact hsol8,hF8,hfr8⟩ ?round2)
  case round2=>
   clear hsz8 hdf8 t4 t17 t18 t5 t46 t47 t48 hsol8 hF8 hfr8;rintro j a2 w2 ⟨q,rfl,hqm,hsz2,hdf2,t4,t17,t18,t5,t46,t47,t48,hsol,hF,hfr⟩;show Code.wpIn _ _ _ _ _ _ _;refine cn (dK.2 (bV jN.wp (n0:=w2.heap.size) (N:=125) (ins:=[(47,.v none),(48,.v none)]) (xs:=[.v (.one (.int .i64 (m:Int))),.v (.one (.int .i64 (q:Int)))]) fo ⟨rfl,rfl,trivial⟩ (tg (bP9 m q)) aS (ah _) hF hsz2 hdf2 ⟨⟨t47,rfl⟩,⟨t48,rfl⟩,trivial⟩ ?_));intro a3 w3 us3 hag3 hb3 hsz3 hdf3 hr3 hrep3;have hus:=bA hr3;subst hus;have h49:a3.tmps.getD 49 undef=.bool (decide ((q:Int)<(m:Int))):=hrep3.1.1;replace t4:=(aO hag3 4 aS).trans t4;replace t17:=(aO hag3 17 aS).trans t17;replace t18:=(aO hag3 18 aS).trans t18;replace t47:=(aO hag3 47 aS).trans t47;replace t48:=(aO hag3 48 aS).trans t48;replace t5:(aC.aw [.int .i64 (k:Int)]).rep (Mb D g) w3 (a3.tmps.getD 5 undef):=by rw[aO hag3 5 aS];exact aC.mono _ (av.below hb3) t5
   replace t46:(aC.slice 1 (vs1.map xV)).rep D w3 (a3.tmps.getD 46 undef):=by rw[aO hag3 46 aS];exact aC.mono _ (av.below hb3) t46
   replace hsol:=hsol.below hF hb3;replace hF:=aW hF hb3;replace hfr:=hfr.below hb3;clear hag3 hb3 hr3 hrep3 hsz2 hdf2;show Code.wpIn _ _ _ _ _ _ _;refine cn (qK (t:=decide ((q:Int)<(m:Int))) h49 ?_);by_cases hlt:(q:Int)<(m:Int)
   rotate_left
   .rw[dn hlt];obtain rfl:q=m:=O
    refine yQ (km ?_);exact hN9 _ _ _ _ _ hsz3 hdf3 t4 t17 t18 hsol hF (hT7.elim hA8 hkm' _) (by rw[show q-(k+1)=f by omega];exact hsv) hfr hbb7
   rw[bz hlt];refine qR ?_;have hqm':q<m:=O
   show Code.wpIn _ _ _ _ _ _ _;refine sU fun K8 hK8=>pT ?_
   have hN8:∀(a9:Act)(w9:World),a9.tmps.size=125->a9.defers=[]->a9.tmps.getD 4 undef=.slice (some ⟨g,0,none⟩) m cap->a9.tmps.getD 17 undef=.int .i64 (m:Int)->a9.tmps.getD 18 undef=.int .i64 (k:Int)->(aC.aw [.int .i64 (k:Int)]).rep (Mb D g) w9 (a9.tmps.getD 5 undef)->(aC.slice 1 (vs1.map xV)).rep D w9 (a9.tmps.getD 46 undef)->a9.tmps.getD 47 undef=.int .i64 (m:Int)->a9.tmps.getD 48 undef=.int .i64 (q:Int)->uw D g cap m vs1 bs1 (cj k r1 (q+1)) w9->bf D w9->Fr S w w9->K8 a9 w9:=by
    intro a9 w9 q1 q2 q3 q4 q5 q6 q7 q8 q9 q10 q11 q12;refine hK8 _ _ ?_;refine dK.2 (bV jN.wp (n0:=w9.heap.size) (N:=125) (ins:=[(48,.v none)]) (xs:=[.v (.one (.int .i64 (q:Int)))]) fo ⟨rfl,trivial⟩ (tg (bR9 q)) aS (ah _) q11 q1 q2 ⟨⟨q9,rfl⟩,trivial⟩ ?_);intro a10 w10 us10 hag10 hb10 hsz10 hdf10 hr10 hrep10;have hus:=bA hr10;subst hus;refine⟨m-(q+1),O,q+1,rfl,O,hsz10,hdf10,(aO hag10 4 aS).trans q3,(aO hag10 17 aS).trans q4,(aO hag10 18 aS).trans q5,?_,?_,(aO hag10 47 aS).trans q8,hrep10.1.1,q10.below q11 hb10,aW q11 hb10,q12.below hb10⟩
    .rw[aO hag10 5 aS];exact aC.mono _ (av.below hb10) q6
    .rw[aO hag10 46 aS];exact aC.mono _ (av.below hb10) q7
   clear hK8;obtain⟨v,b,r0,hv,hb,hr0,hrow,hDb'⟩:=hsol.at (j:=q) hqm';obtain⟨r,hr⟩:∃r,r1[q]?=some r:=⟨_,bM O⟩
   rw[mK (.inl (ah q)) hr]at hr0;obtain rfl:r=r0:=cI hr0;obtain⟨hrl,hrf⟩:=hT7.row r (dc hr);obtain⟨hpl,hpf⟩:=hT7.row p (dc hrp);have hrpe:(cj k r1 q)[k]?=some p:=mK (.inr rfl) hrp;show Code.wpIn _ _ _ _ _ _ _;refine cn (dK.2 (bV jN.wp (n0:=w3.heap.size) (N:=125) (ins:=[(46,.v none),(48,.v none)]) (xs:=[.v (.one (.slice 1 (vs1.map xV))),.v (.one (.int .i64 (q:Int)))]) fo ⟨rfl,rfl,trivial⟩ (tg (bM3 vs1 q v hv)) aS (ah _) hF hsz3 hdf3 ⟨t46,⟨t48,rfl⟩,trivial⟩ ?_));intro a4 w4 us4 hag4 hb4 hsz4 hdf4 hr4 hrep4;have hus:=bA hr4;subst hus;have h7:a4.tmps.getD 7 undef=.int .i64 (q:Int):=hrep4.1.1;have h8:a4.tmps.getD 8 undef=v:=hrep4.2.1.1;replace t4:=(aO hag4 4 aS).trans t4;replace t17:=(aO hag4 17 aS).trans t17;replace t18:=(aO hag4 18 aS).trans t18;replace t47:=(aO hag4 47 aS).trans t47;replace t48:=(aO hag4 48 aS).trans t48;replace t5:(aC.aw [.int .i64 (k:Int)]).rep (Mb D g) w4 (a4.tmps.getD 5 undef):=by rw[aO hag4 5 aS];exact aC.mono _ (av.below hb4) t5
   replace t46:(aC.slice 1 (vs1.map xV)).rep D w4 (a4.tmps.getD 46 undef):=by rw[aO hag4 46 aS];exact aC.mono _ (av.below hb4) t46
   replace hrow:=hrow.mono (av.below hb4) (hb4.block b (hF.1 b hDb'));replace hsol:=hsol.below hF hb4;replace hF:=aW hF hb4;replace hfr:=hfr.below hb4;clear hag4 hb4 hr4 hrep4 hsz3 hdf3 h49;have h8r:(aC.slice 3 (rQ r)).rep M w4 (a4.tmps.getD 8 undef):=by rw[h8];exact hrow.sQ hMD (hbM b (hbb7 b (dc hb)))
   have t5r:=xL (N:=M) t5 (fun q h=>.inl (hMD q h));show Code.wpIn _ _ _ _ _ _ _;refine cn (cn (dK.2 (bV jN.wp (n0:=w4.heap.size) (N:=125) (ins:=[(7,.v none),(8,.v none),(5,.ref 1)]) (xs:=[.v (.one (.int .i64 (q:Int))),.v (.one (aC.slice 3 (rQ r))),.ref [.int .i64 (k:Int)]]) fo ⟨rfl,rfl,rfl,trivial⟩ (tg (bC9 q k r)) aS (ah _) (fX hF hMD) hsz4 hdf4 ⟨⟨h7,rfl⟩,h8r,t5r,trivial⟩ ?_)));intro a5 w5 us5 hag5 hb5 hsz5 hdf5 hr5 hrep5;have hus:=bA hr5;subst hus;have h63:a5.tmps.getD 63 undef=.bool (decide (q=k\/r.getD k 0=0)):=hrep5.1.1;replace h8:=(aO hag5 8 aS).trans h8;replace t4:=(aO hag5 4 aS).trans t4;replace t17:=(aO hag5 17 aS).trans t17;replace t18:=(aO hag5 18 aS).trans t18;replace t47:=(aO hag5 47 aS).trans t47;replace t48:=(aO hag5 48 aS).trans t48;replace t5:(aC.aw [.int .i64 (k:Int)]).rep (Mb D g) w5 (a5.tmps.getD 5 undef):=by rw[aO hag5 5 aS];exact aC.mono _ (av.below hb5) t5
   replace t46:(aC.slice 1 (vs1.map xV)).rep D w5 (a5.tmps.getD 46 undef):=by rw[aO hag5 46 aS];exact aC.mono _ (av.below hb5) t46
   replace hrow:=hrow.mono (av.below hb5) (hb5.block b (hF.1 b hDb'));replace hsol:=hsol.below hF hb5;replace hF:=aW hF hb5;replace hfr:=hfr.below hb5;clear hag5 hb5 hr5 hrep5 hsz4 hdf4 h8r t5r h7;show Code.wpIn _ _ _ _ _ _ _;refine qK (t:=decide (q=k\/r.getD k 0=0)) h63 ?_;by_cases hsk:q=k\/r.getD k 0=0
   .rw[bz hsk];refine yQ (Fu ?_);refine hN8 _ _ hsz5 hdf5 t4 t17 t18 t5 t46 t47 t48 ?_ hF hfr;by_cases hqk:q=k
    .rw[xa k r1 hqk];exact hsol
    .rw[<-pQ hqk hr,eW,aF (hsk.resolve_left hqk),zZ (mK (.inl (ah q)) hr)];exact hsol
   .rw[dn hsk];refine qR ?_;have hqk:q≠k:=fun h=>hsk (.inl h);have hr0':r.getD k 0≠0:=fun h=>hsk (.inr h);have hbne:b≠bp:=fun e=>by subst e;exact hqk (hsol.inj _ _ _ hb hbp)
    obtain⟨capb,cur,hve,hgc,hcs,hcl,hcm,hrep⟩:=hrow.cells;have hN:∀z,(D z/\z≠bp)->D z:=fun z h=>h.1;have t4y:(aC.slice 1 ((vs1.map xV).set k [aC.slice 3 (rQ p)])).rep (fun z=>D z/\z≠bp) w5 (a5.tmps.getD 4 undef):=by rw[t4];exact hsol.xY hN hvp hbp hrpe (fun h=>h.2 rfl)
    have t5y:=xL (N:=fun z=>D z/\z≠bp) t5 (fun q h=>.inl h.1);have hrl3:(rQ r).length=r.length:=aL _;show Code.wpIn _ _ _ _ _ _ _;refine dK.2 (zJ jN.wp (g:=b) (cap:=capb) (cur:=cur) (N:=125) (t0:=8) (E:=46) (sz:=3) (ts:=rQ r) (ins:=[(4,.v none),(5,.ref 1)]) (xs:=[.v (.one (.slice 1 ((vs1.map xV).set k [aC.slice 3 (rQ p)]))),.ref [.int .i64 (k:Int)]]) fo ⟨rfl,rfl,trivial⟩ (bS9 r p k (gA A k) ((vs1.map xV).set k [aC.slice 3 (rQ p)]) (lj (by rw[aL];omega)) hA8 hA9 hrf hpf) aS (fX hF hN) ⟨hDb',hbne⟩ hsz5 hdf5 (fun t ht=>by obtain⟨a,_,rfl⟩:=dm.1 ht;rfl) ⟨t4y,t5y,trivial⟩ (by rw[hrl3,h8];exact hve) hgc (by rw[hrl3];omega) (by rw[hrl3];exact hcl) hcm (by rw[hrl3,dL (by rw[cK,hcs];exact ah _)];exact hrep.mono fun k o hk ho _=>⟨fun h=>hk h.1,ho⟩) ?_);intro a6 w6 us6 cur6 hag6 hg6 hsz6 hdf6 hr6 hgc6 hcs6 hbe6 _ hrep6;rw[hrl3,dL (by rw[cK,hcs6,hcs];exact ah _)]at hrep6;have hk6:=iP (D:=Mb D g) (.inl hDb') hg6;have hk6':=iP hDb' hg6;refine hN8 _ _ hsz6 hdf6 ((aO hag6 4 aS).trans t4) ((aO hag6 17 aS).trans t17) ((aO hag6 18 aS).trans t18) ?_ ?_ ((aO hag6 47 aS).trans t47) ((aO hag6 48 aS).trans t48) ?_ ⟨fun z hz=>cM (hF.1 z hz) hg6.size,hF.2.dJ hk6'⟩ (hfr.grown (hbS b (hbb7 b (dc hb))) hg6)
    .rw[aO hag6 5 aS];exact aC.mono _ hk6 t5
    .rw[aO hag6 46 aS];exact aC.mono _ hk6' t46
    .rw[<-pQ hqk hr,eW,hpk,aG hr0'];exact hsol.elim hF hv hb (mK (.inl (ah q)) hr) hvp hbp hrpe hqk hg6 hgc hgc6 hcs6 (lz _ _ _ _ _) hrep6
end Go.Sy
namespace Go.Sy
open Go Go.Proofs Go.RowKit Tryz Ord
def bZ5:Tr:=xQ 131 0 7 28 28 (iK 132 0 0 1 9 10 28 28 28 (.ret [(.one (.gv 203 [(.ref 0 [(.u 2 0)]),(.ref 0 [(.u 0 0)]),(.ref 0 [(.u 3 0)])]))]))
def aV7:af prog f138 dV [.v none,.v none]=bZ5:=aS
def bP6:Tr:=.ret [(.one (.gv 202 [(.ref 0 [(.u 0 0)]),(.ref 0 [(.u 1 0)])]))]
def bu0:af prog f137 dV [.v none,.v none]=bP6:=aS
def bk5:Tr:=di 46 3 46 91 (tc 65 47 3 92 46 (gO 205 [(.one (.c (.sr 3 45))),(G3 48)] [none] [88,93] [98,46] 98 true (Ak 49 29 94 (oa 1 24 9 50 87 95 29 (cT 7 1 3 25 (vY 0 52 8 51))))))
def bp5:Tr:=mh 112 38 38 1 38 2 39 73 74 (kv 76 29 29 1 29 2 40 58 75 (kv 86 27 27 1 27 2 41 54 76 (gW 1 0 7 0 28 78 79 (di 43 3 46 80 (.need (.lit 3 [[(.u 44 0),(.u 44 1),(.u 44 2)],[(.u 42 0),(.u 42 1),(.u 42 2)],[(.u 25 0),(.u 25 1),(.u 25 2)],[(.u 21 0),(.u 21 1),(.u 21 2)]]) (.buildSlice 98 4 #[(0,(tT 81)),(1,(tT 82)),(2,(tT 83)),(3,(tT 84))]) 98 false (gW 0 0 7 0 28 89 90 bk5))))))
def bi9:Tr:=di 32 3 46 65 (mh 88 31 31 1 31 2 33 62 66 (cT 7 1 3 69 (gW 2 0 35 0 28 68 70 (di 36 3 46 71 (mh 88 34 34 1 34 2 37 67 72 (tq 6 bp5))))))
def bj2:Tr:=gW 5 0 7 0 28 51 52 (di 26 3 46 53 (gW 4 0 7 0 28 55 56 (di 28 3 46 57 (gW 2 0 7 0 28 59 60 (di 30 3 46 61 (gW 2 0 7 0 28 63 64 bi9))))))
def bp4:Tr:=tq 6 (kv 76 18 18 1 18 2 19 41 42 (kv 112 16 16 1 16 2 20 37 43 (gW 2 0 7 0 28 45 46 (di 22 3 46 47 (yF 113 2 3 3 46 (kv 112 23 23 1 23 2 24 48 49 bj2))))))
def bW9:Tr:=gW 2 0 11 0 28 28 30 (di 12 3 46 31 (gW 2 0 7 0 28 33 34 (di 14 3 46 35 (mh 86 13 13 1 13 2 15 32 36 (gW 4 0 7 0 28 38 39 (di 17 3 46 40 bp4))))))
def bN1:Tr:=xQ 131 0 18 28 28 (iK 132 0 0 1 20 21 28 28 28 (bL 4 0 23 28 (.loop 0 [lK 0,lV 3 0,.nilrow] (fN 7 0 6 3 25 24 0 (aY 10 0 (cT 7 1 3 29 bW9) (bb6 8 9))))))
def bP5:Tr:=mw 84 0 15 28 28 bN1
def av5:af prog f139 dV [.v none,.v none,.v none]=bP5:=aS
def bE8:Tr:=gO 133 [(W 1 0),(.agg [tN,(tE (.bool false)),tN]),(.one (.gv 196 [(.ref 0 [(.u 0 0)])]))] [none] [4,5,6] [3,46,184] 28 true (cd 2)
def QY:af prog f195 dV [.v none,.ref 1]=bE8:=aS
def CE(x y:c4)(A:Nat)(hA1:1<=A)(hx:∀a∈x,Fit A a)(hy:∀a∈y,Fit A a)(h2:2<=x.length)(hxy:y.length=x.length)(hA:A<=100000000:=by omega)(hs:x.length<1099511627776:=by omega):aX prog 138 [(.one (sQ x):aQ),(.one (sQ y):aQ)] (.ret [.one (.gv 203 [.aw [sQ (dX x)],.aw [sQ x],.aw [sQ (cD x y)]])]):=by
 refine eD func138 aV7 ?_;apply aA (oH x A hA1 hx hs h2).QT;apply aA (rl x y A hA1 hx hy hs h2 hxy hA).QT;exact aR
def SL(f v:Value):aX prog 137 [(.one (.exact f):aQ),(.one (.exact v):aQ)] (.ret [.one (.gv 202 [.aw [.exact f],.aw [.exact v]])]):=by
 refine eD func137 bu0 ?_;exact aR
def qM.args{P:j5}{f:FuncId}{ps bs:List aQ}{o:Nat->List aQ}(h:qM P f ps o)(hs:ai bs ps):qM P f bs o:=⟨h.1,fun M w vs hM hv=>h.2 M w vs hM (cC.sub hs hv)⟩
def rL(n i:Nat):List Rat:=((List.replicate (n+1) 0).set n 0).set i ((1:Int):Rat)
def xZ(n i:Nat):(rL n i).length=n+1:=by rw[rL,al,al,dU]
def xA(n i:Nat)(hn:n<1099511627775:=by omega)(hi:i<n+1:=by omega):qM prog 195 [(.one (.int .i64 (i:Int)):aQ),(.one (.aw ([.int .i64 (n:Int)])):aQ)] (fun n0=>[.one (.jL n0 46 3 (rQ (rL n i)))]):=by
 refine Ae (args:=[.v none,.ref 1]) (ins:=[.v (.one (.int .i64 (i:Int))),.ref ([.int .i64 (n:Int)])]) (hints:=(fun _=>none)) fo aS func195 ⟨rfl,rfl,trivial⟩ (fun n0=>?_);rw[QY];dsimp only[List.map,In.env,aU,aV];refine Xc (ts:=[.one (.jL n0 46 3 (rQ (rL n i)))]) (iE.DH (qM.args (OX n 0 196 [.aw [.int .i64 (i:Int)]] (rL n i) O (xZ n i) (CQ i _ (by rw[al,dU];exact hi) (by rw[al,dU];omega))) ⟨.inl rfl,nO,.inl rfl,trivial⟩) oI) rfl ?_;dsimp only[aU,aV];exact Af rfl
def cvP(x y d:c4)(i:Nat):List Rat:=[y.getD i 0,(cD x y).getD i 0-(dX x).getD i 0*((d.getD i 0+d.getD i 0+d.getD (i+1) 0)/((6:Int):Rat)),d.getD i 0/((2:Int):Rat),(d.getD (i+1) 0-d.getD i 0)/((dX x).getD i 0*((6:Int):Rat))]
def jG(x y d:c4)(i:Nat):List Rat:=vj (cvP x y d i) (-(x.getD i 0))
def yW(x y d:c4)(A:Nat)(hA1:1<=A)(hA:A<=10000000)(hx:∀a∈x,Fit A a)(hy:∀a∈y,Fit A a)(hd:∀a∈d,Fit A a)(hs:x.length<1099511627776)(h2:2<=x.length)(hxy:y.length=x.length)(hxd:d.length=x.length)(hsh:∀i,i+1<x.length->aX prog 205 [.one (sQ (cvP x y d i)),qT (-(x.getD i 0))] (.ret [.one (sQ (jG x y d i))])):aX prog 139 [(.one (sQ x):aQ),(.one (sQ y):aQ),(.one (sQ d):aQ)] (.ret [.agg [sQ x,eQ ((List.range (x.length-1)).map (jG x y d))]]):=by
 refine eD func139 av5 ?_;apply aA (Oi (rQ x) (by rw[aL];exact hs)) rfl;apply aA (oH x A hA1 hx hs h2).QT;apply aA (rl x y A hA1 hx hy hs h2 hxy).QT;apply vn (ae bX ((aL _).trans (jd x)));refine bZ {i:Nat // i<=x.length-1} (fun g=>[.one (.int .i64 (g.1:Int)),.one (sQ x),.rows (((List.range g.1).map (jG x y d)).map cQ)]) (fun g=>x.length-1-g.1) ⟨0,dM _⟩ ai.rfl (fun _=>rfl) ?_;rintro⟨i,hi⟩;dsimp only[aU,aV]at hi|-;have hll:((List.range i).map (jG x y d)).length=i:=aT
 have hwl:=jd x;have hsl:=xS x y;have hwf:=oG hA1 hx;have hsf:=tP hx hy hA1;apply vn bO;refine l4 ?_ ?_<;>intro h6
 .have hi':i+1<x.length:=O
  apply vn (aB O O);dsimp only[aU,aV];apply vn (aN bX (m:=i+1) O O (aa (show i+1<d.length by omega)));apply vn (ab cb bY aT (.inl rfl));dsimp only[aU,aV];apply vn (aN bX (m:=i) O (bI i) (aa (show i<d.length by omega)));apply vn (ab cb bY aT (.inl rfl));apply aA (lZ _ _ A A (aD hd _ hA1) (aD hd _ hA1));dsimp only[aU,aV];apply vn (aN bX (m:=i) O (bI i) (aa (show i<(dX x).length by omega)));apply vn (ab cb bY aT (.inl rfl));apply aA (dp 6);apply aA (ig _ _ (A+A+1) 62 (aD hwf _) (Fit.int O O));apply aA (qP _ _ (A+A+1) (A+A+1+62) ((aD hd _ hA1).sub (aD hd _ hA1)) ((aD hwf _).mul (Fit.int O O)));rw[re];dsimp only[aU,aV];apply vn (aN bX (m:=i) O (bI i) (aa (show i<d.length by omega)));apply vn (ab cb bY aT (.inl rfl));apply aA (dp 2);apply aA (qP _ _ A 62 (aD hd _ hA1) (Fit.int O O));rw[re];dsimp only[aU,aV];apply vn (aN bX (m:=i) O (bI i) (aa (show i<(cD x y).length by omega)));apply vn (ab cb bY aT (.inl rfl));dsimp only[aU,aV];apply vn (aN bX (m:=i) O (bI i) (aa (show i<(dX x).length by omega)));apply vn (ab cb bY aT (.inl rfl));dsimp only[aU,aV];apply vn (aN bX (m:=i) O (bI i) (aa (show i<d.length by omega)));apply vn (ab cb bY aT (.inl rfl));dsimp only[aU,aV];apply vn (aN bX (m:=i) O (bI i) (aa (show i<d.length by omega)));apply vn (ab cb bY aT (.inl rfl));apply aA (oV _ _ A A (aD hd _ hA1) (aD hd _ hA1));apply vn (aB O O);dsimp only[aU,aV];apply vn (aN bX (m:=i+1) O O (aa (show i+1<d.length by omega)));apply vn (ab cb bY aT (.inl rfl));apply aA (oV _ _ (A+A+1) A ((aD hd _ hA1).add (aD hd _ hA1)) (aD hd _ hA1));apply aA (dp 6);apply aA (qP _ _ (A+A+1+A+1) 62 (((aD hd _ hA1).add (aD hd _ hA1)).add (aD hd _ hA1)) (Fit.int O O));rw[re];apply aA (ig _ _ (A+A+1) (A+A+1+A+1+62) (aD hwf _) ((((aD hd _ hA1).add (aD hd _ hA1)).add (aD hd _ hA1)).div (Fit.int O O)));apply aA (lZ _ _ (4*A+2) (A+A+1+(A+A+1+A+1+62)) (aD hsf _) ((aD hwf _).mul ((((aD hd _ hA1).add (aD hd _ hA1)).add (aD hd _ hA1)).div (Fit.int O O))));dsimp only[aU,aV];apply vn (aN bX (m:=i) O (bI i) (aa (show i<y.length by omega)));apply vn (ab cb bY aT (.inl rfl));apply et (us:=rQ (cvP x y d i));dsimp only[aU,aV];apply vn (aN bX (m:=i) O (bI i) (aa (show i<x.length by omega)));apply vn (ab cb bY aT (.inl rfl));apply aA (ZW _);apply aA (hsh i hi');apply et (us:=[cQ (jG x y d i)]);refine kq (xs:=(List.range i).map (jG x y d)) (x:=jG x y d i) (f:=cQ) rfl rfl O (by simp only[maxLen];omega) ?_;rw[show(List.range i).map (jG x y d)++[jG x y d i]=(List.range (i+1)).map (jG x y d) by rw[gy,cG];rfl];apply vn (aB O O);dsimp only[aU,aV];exact aq rfl ⟨⟨i+1,O⟩,ai.rfl,by show x.length-1-(i+1)<x.length-1-i;omega⟩
 rw[show i=x.length-1 by omega];exact aR
section
variable{P:j5}{ops:j7}{Q:iN}
def wE(I:(Nat->Bool)->Act->World->Prop)
  (step:∀(L:c9)(i:Nat)(o:Oper)(a:Act)(w:World),ops[i]?=some o->L i=false->(∀j∈bQ o,L j=true)->(∀j o',ops[j]?=some o'->L j=true->∀x∈bQ o',L x=true)->I L a w->wpOp P ops Q i (I fun j=>L j || j==i) a w)
  (hlt:∀i o,ops[i]?=some o->∀j∈bQ o,j<i)
  (fin:∀(L:c9)a w,(∀j,j<ops.size->L j=true)->I L a w->Q .normal a w) :
  ∀(fuel:Nat)(listed:Array Bool)a w,listed.size=ops.size->(∀j o',ops[j]?=some o'->listed.getD j false=true->∀x∈bQ o',listed.getD x false=true)->((List.range ops.size).filter fun j=>!listed.getD j true).length<=fuel->I (fun j=>listed.getD j false) a w->wpAny P .any ops Q fuel listed a w:=by
 have hdone:∀(listed:Array Bool)a w,listed.size=ops.size->Region.ready .any ops listed=[]->I (fun j=>listed.getD j false) a w->Q .normal a w:=by
  intro listed a w hsz hr hI;refine fin _ a w ?_ hI;intro j
  induction j using Nat.strongRecOn with
  | _ j ih=>
    intro hj;cases hl:listed.getD j false with
    | true=>rfl
    | false=>
      exfalso
      obtain⟨o,hoj⟩:∃o,ops[j]?=some o:=⟨_,ra hj⟩
      have:j∈Region.ready .any ops listed:=by
       rw[uo];refine⟨?_,o,hoj,fun e he hb=>?_⟩
       .have hjs:j<listed.size:=O
        simp only[jq,ra hjs,gH]at hl|-;exact hl
       .have hm:e.on∈bQ o:=qB.2 ⟨e,he,hb,rfl⟩;have hlt':=hlt j o hoj e.on hm;exact ih e.on hlt' O
      rw[hr]at this;cases this
 intro fuel
 induction fuel with
 | zero=>
   intro listed a w hsz hcl hfu hI
   have hr:Region.ready .any ops listed=[]:=by
    apply aq5.2;intro j hj;rw[uo]at hj;obtain⟨h1,o,h2,_⟩:=hj;have hjs:j<ops.size:=(cJ.1 h2).1
    have hm:j∈(List.range ops.size).filter fun j=>!listed.getD j true:=by
     rw[wJ];exact⟨fO.2 hjs,by rw[h1];rfl⟩
    have hl:=ap2 hm;omega
   exact⟨hr,hdone listed a w hsz hr hI⟩
 | succ fuel ih=>
   intro listed a w hsz hcl hfu hI;refine⟨fun hr=>hdone listed a w hsz hr hI,fun i hi=>?_⟩;rw[uo]at hi;obtain⟨hl,o,hoi,haft⟩:=hi;have his:i<ops.size:=(cJ.1 hoi).1;have hils:i<listed.size:=O
   have hlf:listed.getD i false=false:=by
    simp only[jq,ra hils,gH]at hl|-;exact hl
   have hdeps:∀j∈bQ o,listed.getD j false=true:=fun j hj=>by
    obtain⟨e,he,hb,rfl⟩:=qB.1 hj;exact haft e he hb
   refine xD ?_ (step (fun j=>listed.getD j false) i o a w hoi hlf hdeps hcl hI)
   .intro a' w' hI'
    have hset:(fun j=>(listed.setIfInBounds i true).getD j false)=fun j=>listed.getD j false || j==i:=by
     funext j
     by_cases hji:j=i
     .subst hji;simp[hils]
     .rw[_root_.Go.getD_set_ne false (jg hji)];simp[hji]
    refine ih _ a' w' (by simp[hsz]) (fun j o' hj hl x hx=>?_) ?_ (by rw[hset];exact hI')
    .have hs:=fun k=>congrFun hset k;rw[hs]at hl|-;rw[na]at hl|-;rcases hl with hl | hl
     .exact .inl (hcl j o' hj hl x hx)
     .obtain rfl:j=i:=by simpa using hl
      rw[hoi]at hj;cases hj;exact .inl (hdeps x hx)
    have h1:((List.range ops.size).filter fun j=>!(listed.setIfInBounds i true).getD j true).length<((List.range ops.size).filter fun j=>!listed.getD j true).length:=by
     have e1:((List.range ops.size).filter fun j=>!(listed.setIfInBounds i true).getD j true)=((List.range ops.size).filter fun j=>!listed.getD j true).filter fun j=>j != i:=by
      rw[List.filter_filter];apply List.filter_congr;intro j _;by_cases hji:j=i
      .subst hji;simp[hils]
      .rw[_root_.Go.getD_set_ne true (jg hji)];simp[hji]
     rw[e1,ak2];refine⟨i,?_,aT⟩;rw[wJ];exact⟨fO.2 his,by rw[hl];rfl⟩
    omega
end
end Go.Sy
