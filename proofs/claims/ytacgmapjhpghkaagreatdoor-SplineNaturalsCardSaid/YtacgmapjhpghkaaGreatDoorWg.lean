/- Part. -/
import Derived.Test.YtacgmapjhpghkaaGreatDoorWf
set_option linter.all false
set_option maxRecDepth 100000
namespace Go.Sy
open Go Go.Proofs Go.RowKit Go.Shelf Tryz Ord
attribute [local go_sem] Oper.semAt_some
def aW8(B b:Nat)(bs:j0)(w:World)(h:Lib.IsBuilderF 209 5 B b bs w) :
  Calls prog 166 #[.pointer (some ⟨b,0,none⟩)] w fun e w'=>e=.returned (.int .i64 bs.length)/\w'=w:=
 Any.Builder_Len_f { Tryz.Sb with } B b bs w h
def eq_nil(a:Addr)(n cap:Nat)(w:World):Sem.run prog (binOp BinOp.eql 98 (.slice (some a) n cap) (.slice none 0 0)) w=.ok (.bool false) w:=by
 obtain⟨ie,hu,_⟩:=br mG;simp[binOp,Ut w 98 _ (some a) n cap hu]
def ap3{F:Fence}{nF:Nat}{ops:j7}{rest:j8}{o:Oper}{a:Act}{Q:iN}{w:World}(hgd:o.guard=none)(s x:j6)
  (ho:o.op=.call { callee:=.builtin .append,args:=#[s,x],argTypes:=#[98,98] }) (base:Nat) (v:Value) (xs:j0) (hs:a.eval s=v) (hown:w.ownsRow base 46 3 v 0 xs) (ad:Addr) (m c:Nat) (news:j0)
  (hx:a.eval x=.slice (some ad) m c) (hl:news.length=m*3) (hn:∀j u,news[j]?=some u->w.cell? (ad.add j)=some u) (h1:∀u∈news,u.oneCell'=true) (hk:m<1099511627776) (hbase:base<=w.heap.size)
  (h:∀v' w',w'.ownsRow base 46 3 v' (0+m) (xs++news)->w.grownBy w' v.ownBlock->wpListIn F nF prog ops Q rest (a.put o.dst v') w') :
  wpListIn F nF prog ops Q (o::rest) a w:=by
 obtain⟨ie,hu,hie,hies,hieb⟩:=br mG;obtain⟨ie',zv,hi,hz,hzc,_,hzs⟩:=ed (show jm prog 46=some [.slice none 0 0,.bool false,.slice none 0 0] by kernel_rfl);rw[hie]at hi;simp only[aZ]at hi;subst hi;exact al4 w hgd s x 98 ho base 46 ie zv 3 _ hu hie hz hies hieb (by rw[hzs,hies]) bY v 0 xs hs hown ad m c news hx hl hn h1 (by simp only[maxLen];omega) O hbase (fun v' w' h2 h3 _ h5=>h v' w' h2 h3)
def Xl(b off k:Nat):(⟨b,off,none⟩:Addr).add k=⟨b,off+k,none⟩:=by
 unfold Addr.add;by_cases h:k=0
 .subst h;rfl
 .rw[aG h]
def aM5(g n:Nat)(news:j0)(w:World):Prop:=∃cur fz,w.heap[g]?=some (.cells cur 46 fz)/\cur.toList.take (n*3)=news
def aN7(b off n cap:Nat)(news:j0)(w:World)(hl:news.length=n*3)(hnw:∀j u,news[j]?=some u->w.cell? ((⟨b,off,none⟩:Addr).add j)=some u)(h1:∀u∈news,u.oneCell'=true)(hn:n≠0)(hb:n<1099511627776) :
  Calls prog 207 #[.slice (some ⟨b,off,none⟩) n cap] w fun e w'=>∃g cap',e=.returned (.slice (some ⟨g,0,none⟩) n cap')/\w.heap.size<=g/\aM5 g n news w'/\Below w.heap.size w w':=by
 refine(bC (n:=1000)).1 ?_;refine jF func207 rfl trivial ?_ rfl;simp only[ntmps207,cq,bB,bu,Nat.reduceAdd,Nat.reduceSub,eE,eF,eJ,eI,List.nil_append,List.cons_append];have e0:=eq_nil ⟨b,off,none⟩ n cap w;have hW1:(w.alloc (.cells #[] 46)).ownsRow w.heap.size 46 3 (.slice (some ⟨w.heap.size,0,none⟩) 0 0) 0 []:=⟨rfl,.inr ⟨_,0,#[],rfl,ah _,cr w _,ah _,by simp[maxLen],rfl,rfl⟩⟩
 have hold:∀j u,news[j]?=some u->(w.alloc (.cells #[] 46)).cell? ((⟨b,off,none⟩:Addr).add j)=some u:=fun j u hj=>by
  have:=hnw j u hj;rw[Xl]at this|-;unfold World.cell? at this|-;dsimp only at this|-;cases hh:w.heap[b]? with
  | none=>rw[hh]at this;cases this
  | some o=>
    rw[dB _ _ _ (cJ.1 hh).1,hh];rw[hh]at this;exact this
 have hb2:=(cS w.heap.size w).alloc (ah _) (.cells #[] 46);have hsz1:(w.alloc (.cells #[] 46)).heap.size=w.heap.size+1:=cz ..
 gi_wp2_with (gi_at_builtin;refine ap3 rfl _ _ rfl w.heap.size (.slice (some ⟨w.heap.size,0,none⟩) 0 0) [] rfl hW1 ⟨b,off,none⟩ n cap news rfl hl hold h1 hb O ?_;intro v' w3 hv3 hg3)
 refine gB (kN rfl _ _ _) rfl ?_;rw[bW,List.nil_append]at hv3;rcases hv3.2 with⟨_,h0⟩ | ⟨g,cap',cur,rfl,hg,hgb,_,_,_,ht⟩
 .exact absurd h0 hn
 .exact⟨g,cap',rfl,hg,⟨cur,_,hgb,ht⟩,hb2.grown hg3 O (fun k e=>by cases e;exact ah _)⟩
theorem OS{M:c6}{w:World}{all:iS}:∀{p:c4}{off:Nat},(∀i t,(rQ p)[i]?=some t->t.length=3/\an M w t ((all.toList.drop (off+i*3)).take 3))->((all.toList.drop off).take (p.length*3)).length=p.length*3/\(∀u∈(all.toList.drop off).take (p.length*3),u.oneCell'=true)
 | [],off,_=>aT
 | q::p,off,hel=>by
   obtain⟨_,h2⟩:=hel 0 (qC q) rfl;rw[ns,cV]at h2
   obtain⟨h3,h4⟩:=OS (p:=p) (off:=off+3) fun i t hi=>by
    have:=hel (i+1) t hi
    rwa[show off+(i+1)*3=off+3+i*3 by omega]at this
   have hl:=h2.length
   have e:(all.toList.drop off).take ((q::p).length*3)=(all.toList.drop off).take 3++(all.toList.drop (off+3)).take (p.length*3):=by
    rw[bB,bt,ee,gp,Bz,gu]
   rw[e];refine⟨by rw[cF,h3,<-hl,bB];simp only[bB,bu];omega,fun u hu=>?_⟩;rcases dx.1 hu with hu | hu
   .exact h2.one u hu
   .exact h4 u hu
def bx9{l:j0}{k:Nat}{u0 u1 u2:Value}(h:(l.drop k).take 3=[u0,u1,u2]):l[k]?=some u0/\l[k+1]?=some u1/\l[k+2]?=some u2:=by
 have g:∀j,j<3->l[k+j]?=((l.drop k).take 3)[j]?:=fun j hj=>by rw[eh,aF hj,fG]
 have h0:=g 0 O;have h1:=g 1 O;have h2:=g 2 O;rw[h]at h0 h1 h2;exact⟨h0,h1,h2⟩
def qi{w:World}{b k:Nat}{all:iS}{T:TypeId}{fz:Nat×Nat}{u:Value}(hb:w.heap[b]?=some (.cells all T fz))(h:all.toList[k]?=some u):w.cell? ⟨b,k,none⟩=some u:=by
 unfold World.cell?;rw[hb]
 simpa using h
def at7{M:c6}{w:World}(hM:bf M w){q:Rat}{u0 u1 u2:Value}(h:an M w (qC q) [u0,u1,u2]):Calls prog 23 #[.agg #[u0,u1,u2]] w fun e w1=>e=.returned (.int .i64 q.num.sign)/\Below w.heap.size w w1:=by
 refine((mV q).2 M w [.agg #[u0,u1,u2]] hM ⟨⟨[u0,u1,u2],rfl,h⟩,trivial⟩).mono ?_;rintro e w1 ⟨hb1,vs,rfl,hvs⟩;obtain⟨v1,rfl,hv1⟩:=pP hvs;obtain⟨rfl,_⟩:=hv1;exact⟨rfl,hb1⟩
def bd3(M:c6)(w:World)(hM:bf M w)(v:Value)(p:c4)(hv:(sQ p).rep M w v)(hp:p≠[])(hlast:p.getD (p.length-1) 0≠0)(hb:p.length<1099511627776:=by omega) :
  Calls prog 157 #[v] w fun e w'=>∃g cap' news,e=.returned (.slice (some ⟨g,0,none⟩) p.length cap')/\w.heap.size<=g/\aM5 g p.length news w'/\Below w.heap.size w w'/\∀i,i<p.length->an M w (qC (p.getD i 0)) ((news.drop (i*3)).take 3):=by
 obtain⟨a,cap,rfl,hcc,hm,hel⟩:=hv;rw[aL]at hcc|-;have hp0:p.length≠0:=fun e=>hp (ep e);rcases hel with h | ⟨b,off,all,T,fz,rfl,hMb,hbk,hel⟩
 .exact absurd (List.map_eq_nil_iff.1 h) hp
 have hpi:(0:Int)<p.length:=O
 obtain⟨hnl,hn1⟩:=OS hel;have hrp:∀i,i<p.length->an M w (qC (p.getD i 0)) ((all.toList.drop (off+i*3)).take 3):=fun i hi=>(hel i _ (by rw[dR,aa hi];rfl)).2;have hrl:=hrp (p.length-1) O;obtain⟨u0,u1,u2,hu⟩:=ay0 hrl.length.symm;rw[hu]at hrl;obtain⟨c0,c1,c2⟩:=bx9 hu;replace c0:=qi hbk c0;replace c1:=qi hbk c1;replace c2:=qi hbk c2;have hlb:=(cJ.1 hbk).1;refine(bC (n:=1000)).1 ?_;refine jF func157 rfl trivial ?_ rfl;simp only[ntmps157,cq,bB,bu,Nat.reduceAdd,Nat.reduceSub,eE,eF,eJ,eI,List.nil_append,List.cons_append]
 gi_wp2
 rename_i K1 hK1;generalize hK:Exit.then _ _=K;refine rh (fun j a' W'=>a'={ tmps:=#[.slice (some ⟨b,off,none⟩) p.length cap,undef,.slice none 0 0,.int .i64 p.length,.slice (some ⟨b,off,none⟩) p.length cap,.int .i64 p.length,undef,undef,undef,undef,undef,undef,undef,undef,undef,undef,undef,undef,undef,undef,undef,undef,undef],defers:=[] } /\ W'=w) 0 ⟨rfl,rfl⟩ ?_;rintro j a' W' ⟨rfl,rfl⟩;have hs:((p.getD (p.length-1) 0).num.sign)≠0:=fun e=>hlast (sign_zero.1 e);have q:=at7 hM hrl;generalize (p.getD (p.length-1) 0).num.sign=sg at hs q
 have hcl:∀{w1:World},Below W'.heap.size W' w1->∀j u,((all.toList.drop off).take (p.length*3))[j]?=some u->w1.cell? ((⟨b,off,none⟩:Addr).add j)=some u:=fun {w1} hb1 j u hj=>by
  rw[Xl];rw[eh]at hj;split at hj
  .rw[fG]at hj;exact qi ((hb1.block b hlb).trans hbk) hj
  .cases hj
 gi_wp2_with (refine⟨trivial,?_⟩;gi_at_call 23;refine(bC.2 q).mono ?_;clear q;rintro e w1 ⟨rfl,hb1⟩)
 subst hK;refine hK1 _ _ ?_;have q:=aN7 b off p.length cap _ w1 hnl (hcl hb1) hn1 hp0 hb
 gi_wp2_with (refine⟨trivial,?_⟩;gi_at_call 207;refine(bC.2 q).mono ?_;clear q;rintro e w2 ⟨g,cap',rfl,hg,hr,hb2⟩)
 refine gB (kN rfl _ _ _) rfl ⟨g,cap',_,rfl,bG hb1.size hg,hr,hb1.trans (hb2.mono hb1.size),fun i hi=>?_⟩;have:=hrp i hi
 rwa[mg,jh,de (by have:=cY 3 hi;rw[uP]at this;omega),gu]
end Go.Sy
namespace Go.Sy
open Go Go.Proofs Go.RowKit Go.Shelf Tryz Ord
attribute [local go_sem] Oper.semAt_some
def aY2(t:iS)(h:t.size=67):t=#[t.getD 0 undef,t.getD 1 undef,t.getD 2 undef,t.getD 3 undef,t.getD 4 undef,t.getD 5 undef,t.getD 6 undef,t.getD 7 undef,t.getD 8 undef,t.getD 9 undef,t.getD 10 undef,t.getD 11 undef,t.getD 12 undef,t.getD 13 undef,t.getD 14 undef,t.getD 15 undef,t.getD 16 undef,t.getD 17 undef,t.getD 18 undef,t.getD 19 undef,t.getD 20 undef,t.getD 21 undef,t.getD 22 undef,t.getD 23 undef,t.getD 24 undef,t.getD 25 undef,t.getD 26 undef,t.getD 27 undef,t.getD 28 undef,t.getD 29 undef,t.getD 30 undef,t.getD 31 undef,t.getD 32 undef,t.getD 33 undef,t.getD 34 undef,t.getD 35 undef,t.getD 36 undef,t.getD 37 undef,t.getD 38 undef,t.getD 39 undef,t.getD 40 undef,t.getD 41 undef,t.getD 42 undef,t.getD 43 undef,t.getD 44 undef,t.getD 45 undef,t.getD 46 undef,t.getD 47 undef,t.getD 48 undef,t.getD 49 undef,t.getD 50 undef,t.getD 51 undef,t.getD 52 undef,t.getD 53 undef,t.getD 54 undef,t.getD 55 undef,t.getD 56 undef,t.getD 57 undef,t.getD 58 undef,t.getD 59 undef,t.getD 60 undef,t.getD 61 undef,t.getD 62 undef,t.getD 63 undef,t.getD 64 undef,t.getD 65 undef,t.getD 66 undef]:=(qo t 67 h).trans rfl
def Qn(bs:dO)(q:Rat):List UInt8:=if bs=[]then(if q<0 then[45]else[])else if q<0 then[32,45,32]else[32,43,32]
def Vz(bs:dO)(i:Nat)(q:Rat):List UInt8:=
 if q=0 then bs else
  if i=0 then bs++Qn bs q++my q.abs
  else bs++Qn bs q++(if my q.abs=[49]then[]else my q.abs++[32])++[120]++(if 1<i then[94]++dec i else[])
def tD(p:c4):Nat->List UInt8
 | 0=>[]
 | k+1=>Vz (tD p k) (p.length-1-k) (p.getD (p.length-1-k) 0)
structure TxS(w:World)(g L:Nat)(news:j0)(bs:dO)(W:World):Prop where
 bld:Lib.IsBuilderF 209 5 w.heap.size w.heap.size (Lib.byteCells bs) W
 bel:Below w.heap.size w W
 row:aM5 g L news W
 gn:w.heap.size<g
def aM5.lt{g n:Nat}{news:j0}{w:World}(h:aM5 g n news w):g<w.heap.size:=by
 obtain⟨cur,fz,h,_⟩:=h;exact(cJ.1 h).1
def TxS.call{w:World}{g L:Nat}{news:j0}{bs:dO}{W W':World}(h:TxS w g L news bs W)(hb:Below W.heap.size W W'):TxS w g L news bs W':=by
 have hl:=h.row.lt;refine⟨mq h.bld fun j o ho _=>gS hb j o ho,h.bel.trans (hb.mono h.bel.size),?_,h.gn⟩;obtain⟨cur,fz,h1,h2⟩:=h.row;exact⟨cur,fz,(hb.block g hl).trans h1,h2⟩
def TxS.write{w:World}{g L:Nat}{news:j0}{bs cs:dO}{W W':World}(h:TxS w g L news bs W)(h1:Lib.IsBuilderF 209 5 w.heap.size w.heap.size (Lib.byteCells cs) W')(h2:Below w.heap.size W W')(h3:Lib.OthersKept 5 (some w.heap.size) W W'):TxS w g L news cs W':=by
 refine⟨h1,h.bel.trans h2,?_,h.gn⟩;obtain⟨cur,fz,e1,e2⟩:=h.row;have hg:=h.gn;exact⟨cur,fz,h3 g _ e1 (by intro e;cases e;omega) (by intro c fz e;cases e),e2⟩
def bz1(M:c6)(w W:World)(k:Nat):Prop:=M k\/(w.heap.size<=k/\k<W.heap.size)
abbrev wA(w:World):World:=w.alloc (.cells #[.pointer none,.slice none 0 0] 209)
abbrev MA(M:c6)(w:World)(k:Nat):Prop:=M k\/k=w.heap.size
def bb8(w:World):(wA w).heap.size=w.heap.size+1:=cz ..
def bA8{M:c6}{w:World}:av M w (MA M w) (wA w):=fun k o hk ho _=>by
 have hlt:=(cJ.1 ho).1;exact⟨fun h=>h.elim hk (fun h=>O),(dB _ _ _ hlt).trans ho⟩
def bC5{M:c6}{w W:World}(hb:Below w.heap.size w W):av (MA M w) (wA w) (bz1 M w W) W:=fun k o hk ho _=>by
 have hlt:=(cJ.1 ho).1;rw[bb8]at hlt;have hne:k≠w.heap.size:=fun e=>hk (.inr e);have hlt:k<w.heap.size:=O
 refine⟨fun h=>h.elim (fun h=>hk (.inl h)) (fun h=>O),(hb.block k hlt).trans ?_⟩;rw[<-ho];exact(dB _ _ _ hlt).symm
def ai4{M:c6}{w W:World}(hM:bf M w)(hb:Below w.heap.size w W):bf (bz1 M w W) W:=by
 refine⟨fun k h=>h.elim (fun h=>cM (hM.1 k h) hb.size) (fun h=>h.2),hM.2.dJ fun k o hk ho _=>?_⟩;have hlt:=(cJ.1 ho).1;exact⟨fun h=>h.elim hk (fun h=>O),(hb.block k hlt).trans ho⟩
def aZ2{M:c6}{w:World}(hM:bf M w){q:Rat}(hf:Fit 64 q)(h0:q≠0)(hn1:q.num.natAbs<1000000000)(hd1:q.den<1000000000){u0 u1 u2:Value}(h:an M w (qC q) [u0,u1,u2]) :
  Calls prog 168 #[.agg #[u0,u1,u2]] w fun e w1=>Below w.heap.size w w1/\∃v,e=.returned v/\Calls prog 74 #[v] w1 fun e w2=>e=.returned (.string ⟨(my q.abs).toArray⟩)/\Below w1.heap.size w1 w2:=by
 refine((bG4 q).2 M w [.agg #[u0,u1,u2]] hM ⟨⟨[u0,u1,u2],rfl,h⟩,trivial⟩).mono ?_;rintro e w1 ⟨hb1,vs,rfl,hvs⟩;obtain⟨v1,rfl,hv1⟩:=pP hvs
 have hA:q.abs.num.natAbs=q.num.natAbs/\q.abs.den=q.den:=by
  have:=Bq q;exact⟨by rw[this.1];omega,this.2⟩
 refine⟨hb1,_,rfl,?_⟩;refine((DI q.abs ⟨by rw[hA.1];exact hf.1,by rw[hA.2];exact hf.2⟩ (by rw[hA.1];intro e;exact h0 (mR.1 (Int.natAbs_eq_zero.1 e))) (by rw[hA.1];exact hn1) (by rw[hA.2];exact hd1)).2 M w1 [v1] (ja hM hb1) ⟨hv1,trivial⟩).mono ?_;rintro e w2 ⟨hb2,vs,rfl,hvs⟩;obtain⟨v2,rfl,hv2⟩:=pP hvs;obtain⟨rfl,_⟩:=hv2;exact⟨rfl,hb2⟩
def bJ8(a b:dO):(⟨a.toArray⟩:ByteArray)++⟨b.toArray⟩=⟨(a++b).toArray⟩:=by
 apply Tf;rw[am3];simp
structure YL(w:World)(g L:Nat)(news:j0)(n1:Nat)(u0 u1 u2:Value)(bs:dO)(W:World):Prop where
 t:TxS w g L news bs W
 box:W.heap[n1]?=some (.cells #[u0,u1,u2] 46 (0,0))
 bn:w.heap.size<n1
def YL.call{w:World}{g L n1:Nat}{news:j0}{u0 u1 u2:Value}{bs:dO}{W W':World}(h:YL w g L news n1 u0 u1 u2 bs W)(hb:Below W.heap.size W W'):YL w g L news n1 u0 u1 u2 bs W':=
 ⟨h.t.call hb,(hb.block _ (cJ.1 h.box).1).trans h.box,h.bn⟩
section
variable{M:c6}{w:World}{g L n1:Nat}{news:j0}{u0 u1 u2:Value}{bs:dO}{W:World}(h:YL w g L news n1 u0 u1 u2 bs W)
include h
def YL.c:W.cell? ⟨n1,0,none⟩=some u0/\W.cell? ⟨n1,1,none⟩=some u1/\W.cell? ⟨n1,2,none⟩=some u2:=⟨bH h.box rfl,bH h.box rfl,bH h.box rfl⟩
def YL.sign(hM:bf M w){q:Rat}(hr:an (MA M w) (wA w) (qC q) [u0,u1,u2]):Calls prog 23 #[.agg #[u0,u1,u2]] W fun e W'=>e=.returned (.int .i64 q.num.sign)/\YL w g L news n1 u0 u1 u2 bs W':=
 (at7 (ai4 hM h.t.bel) (hr.mono (bC5 h.t.bel))).mono fun e W' ⟨h1,h2⟩=>⟨h1,h.call h2⟩
def YL.len:Calls prog 166 #[.pointer (some ⟨w.heap.size,0,none⟩)] W fun e W'=>e=.returned (.int .i64 (bs.length:Nat))/\YL w g L news n1 u0 u1 u2 bs W':=by
 refine(aW8 _ _ _ W h.t.bld).mono ?_;rintro e W' ⟨rfl,rfl⟩;rw[xf];exact⟨rfl,h⟩
def YL.wr(s:dO)(hs:s.length<=1000000)(hb:bs.length<=100000000):Calls prog 167 #[.pointer (some ⟨w.heap.size,0,none⟩),.string ⟨s.toArray⟩] W fun e W'=>(∃r,e=.returned r)/\YL w g L news n1 u0 u1 u2 (bs++s) W':=by
 refine(wZ w.heap.size w.heap.size _ ⟨s.toArray⟩ W h.t.bld (by rw[xf];show bs.length+s.toArray.size<=_;rw[cq];omega) h.t.bel.size).mono ?_;rintro e W' ⟨rfl,h1,h2,h3⟩;rw[yG,<-wu]at h1;refine⟨⟨_,rfl⟩,h.t.write h1 h2 h3,h3 n1 _ h.box (by intro e;have:=h.bn;cases e;omega) (by intro c fz e;cases e),h.bn⟩
end
def YL.abs{M:c6}{w:World}{g L n1:Nat}{news:j0}{u0 u1 u2:Value}{bs:dO}{W:World}(h:YL w g L news n1 u0 u1 u2 bs W)(hM:bf M w){q:Rat}(hf:Fit 64 q)(h0:q≠0)(hn1:q.num.natAbs<1000000000)(hd1:q.den<1000000000)(hr:an (MA M w) (wA w) (qC q) [u0,u1,u2]) :
  Calls prog 168 #[.agg #[u0,u1,u2]] W fun e W1=>∃v,e=.returned v/\Calls prog 74 #[v] W1 fun e W2=>e=.returned (.string ⟨(my q.abs).toArray⟩)/\YL w g L news n1 u0 u1 u2 bs W2:=by
 refine(aZ2 (ai4 hM h.t.bel) hf h0 hn1 hd1 (hr.mono (bC5 h.t.bel))).mono ?_;rintro e W1 ⟨hb1,v,rfl,hc⟩;exact⟨v,rfl,hc.mono fun e W2 ⟨h1,h2⟩=>⟨h1,(h.call hb1).call h2⟩⟩
set_option maxHeartbeats 1000000 in
def bh8(M:c6)(w:World)(hM:bf M w)(v:Value)(p:c4)(hv:(sQ p).rep M w v)(hp:p≠[])(hlast:p.getD (p.length-1) 0≠0)(hb:p.length<1000)
  (hf:∀a∈p,Fit 64 a/\a.num.natAbs<1000000000/\a.den<1000000000) (ht:tD p p.length≠[]) (hlen:∀k,k<=p.length->(tD p k).length<=1000000) :
  Calls prog 73 #[v] w fun e w'=>e=.returned (.string ⟨(tD p p.length).toArray⟩)/\Below w.heap.size w w':=by
 refine(bC (n:=1000)).1 ?_;refine jF func73 rfl trivial ?_ rfl;simp only[ntmps73,cq,bB,bu,Nat.reduceAdd,Nat.reduceSub,eE,eF,eJ,eI,List.nil_append,List.cons_append];have o0:=aC.one _ hv;have hbA:=(cS w.heap.size w).alloc (ah _) (.cells #[.pointer none,.slice none 0 0] 209);have hsA:=bb8 w;have hA0:=cr w (.cells #[.pointer none,.slice none 0 0] 209);have q:=bd3 (MA M w) (wA w) ⟨fun k h=>h.elim (fun h=>by have:=hM.1 k h;omega) (fun h=>O),hM.2.dJ bA8⟩ v p (aC.mono _ bA8 hv) hp hlast
 gi_wp2_with (refine⟨trivial,?_⟩;gi_at_call 157;refine(bC.2 q).mono ?_;clear q;rintro e w1 ⟨g,cap,news,rfl,hg,hr,hb1,hrow⟩)
 rename_i K1 hK1;rw[hsA]at hg hb1
 have hT1:TxS w g p.length news [] w1:=by
  refine⟨?_,hbA.trans (hb1.mono O),hr,O⟩;exact mq (Sp (.inl ⟨ah _,_,hA0,⟨rfl,.inl ⟨rfl,rfl⟩⟩,by simp[Value.ownBlock]⟩)) fun j o ho _=>(hb1.block j (by have:=(cJ.1 ho).1;rw[bb8]at this;exact this)).trans ho
 clear hb1 hr hbA hsA hA0 hv o0;generalize hKK:Exit.inBlock 0 _=KK;refine rh (fun j a' W'=>∃k,j=k/\k<=p.length/\a'.tmps.size=67/\a'.defers=[]/\a'.tmps.getD 0 undef=.slice (some ⟨g,0,none⟩) p.length cap/\a'.tmps.getD 3 undef=.pointer (some ⟨w.heap.size,0,none⟩)/\a'.tmps.getD 4 undef=.int .i64 ((k:Int)-1)/\TxS w g p.length news (tD p (p.length-k)) W') p.length ⟨_,rfl,ah _,rfl,rfl,rfl,rfl,rfl,by rw[fE];exact hT1⟩ ?_;rintro j ⟨t,d⟩ W ⟨k,rfl,hk,hsz,rfl,t0,t3,t4,hT⟩;clear hT1;dsimp only at hsz t0 t3 t4;rw[aY2 t hsz,t0,t3,t4];clear t0 t3 t4;generalize t.getD 1 undef=y1;generalize t.getD 2 undef=y2;generalize t.getD 5 undef=y5;generalize t.getD 6 undef=y6;rcases j with _ | i
 .rw[Uu]at hT;have hL:(Lib.byteCells (tD p p.length)).length≠0:=by rw[xf];exact fun e=>ht (ep e)
  have q:=aW8 w.heap.size w.heap.size _ W hT.bld;generalize (Lib.byteCells (tD p p.length)).length=LL at hL q;have q2:=Tryz.Builder_String_any_k w.heap.size w.heap.size _ W hT.bld hT.bel.size;have hbel:=hT.bel
  gi_wp2
  subst hKK;refine hK1 _ _ ?_
  gi_wp2_with (refine⟨trivial,?_⟩;gi_at_call 166;refine(bC.2 q).mono ?_;clear q;rintro e w2 ⟨rfl,rfl⟩)
  gi_wp2_with (refine⟨trivial,?_⟩;gi_at_call 170;refine(bC.2 q2).mono ?_;clear q2;rintro e w3 ⟨rfl,b1,hl1,ho1⟩)
  exact gB (kN rfl _ _ _) rfl ⟨rfl,hbel.trans hl1⟩
 have hi:i<p.length:=hk;rw[show((i+1:Nat):Int)-1=(i:Int) by omega];have hri:=hrow i hi;obtain⟨u0,u1,u2,hu⟩:=ay0 hri.length.symm;rw[hu]at hri
 obtain⟨o0,o1,o2⟩:u0.oneCell'=true/\u1.oneCell'=true/\u2.oneCell'=true:=by
  have:=hri.one;exact⟨this _ aT,this _ aT,this _ aT⟩
 obtain⟨c0,c1,c2⟩:W.cell? ⟨g,i*3,none⟩=some u0/\W.cell? ⟨g,i*3+1,none⟩=some u1/\W.cell? ⟨g,i*3+2,none⟩=some u2:=by
  obtain⟨cur,fz,e1,e2⟩:=hT.row;obtain⟨d0,d1,d2⟩:=bx9 hu;rw[<-e2]at d0 d1 d2
  have key:∀{m:Nat}{u:Value},(cur.toList.take (p.length*3))[m]?=some u->W.cell? ⟨g,m,none⟩=some u:=fun {m u} h=>by
   rw[eh]at h;split at h
   .exact qi e1 h
   .cases h
  exact⟨key d0,key d1,key d2⟩
 have hqm:p.getD i 0∈p:=dc (aa hi);obtain⟨hf1,hf2,hf3⟩:=hf _ hqm
 have htx:tD p (p.length-i)=Vz (tD p (p.length-(i+1))) i (p.getD i 0):=by
  rw[show p.length-i=p.length-(i+1)+1 by omega,tD,show p.length-1-(p.length-(i+1))=i by omega]
 have hlb:=hlen (p.length-(i+1)) O;generalize tD p (p.length-(i+1))=bs at hT htx hlb;generalize p.getD i 0=q at hri htx hf1 hf2 hf3;have hgl:=hT.row.lt;have hnn:(0:Int)<=i:=O
 gi_wp2
 rename_i K5 hK5 K7 hK7 K6 hK6;have hnew:=cr W (.cells #[.slice none 0 0,.bool false,.slice none 0 0] 46);rw[DZ hnew o0 o1 o2]
 have hB1:YL w g p.length news W.heap.size u0 u1 u2 bs ((W.alloc (.cells #[.slice none 0 0,.bool false,.slice none 0 0] 46)).setRow W.heap.size #[u0,u1,u2]):=by
  have hb:=below_setRow (g:=W.heap.size) ((cS W.heap.size W).alloc (ah _) (.cells #[.slice none 0 0,.bool false,.slice none 0 0] 46)) (ah _) #[u0,u1,u2];exact⟨hT.call hb,iV _ _ _ _ _ _ hnew,O⟩
 generalize (W.alloc (.cells #[.slice none 0 0,.bool false,.slice none 0 0] 46)).setRow W.heap.size #[u0,u1,u2]=W1 at hB1|-;generalize W.heap.size=n1 at hB1|-;clear c0 c1 c2 hgl hT hnew
 have hback:∀(t':iS)(W':World),t'.size=67->t'.getD 0 undef=.slice (some ⟨g,0,none⟩) p.length cap->t'.getD 3 undef=.pointer (some ⟨w.heap.size,0,none⟩)->t'.getD 4 undef=.int .i64 (i:Int)->TxS w g p.length news (tD p (p.length-i)) W'->K5 ⟨t',[]⟩ W':=by
  intro t' W' hs' s0 s3 s4 hT';rw[aY2 t' hs',s0,s3,s4];clear s0 s3 s4;refine hK5 _ _ ?_
  gi_wp2
  exact⟨i,O,i,rfl,O,rfl,trivial,rfl,rfl,rfl,hT'⟩
 clear hK5;have q1:=hB1.sign hM hri;obtain⟨b0,b1,b2⟩:=hB1.c
 gi_wp2_with (refine⟨trivial,?_⟩;gi_at_call 23;refine(bC.2 q1).mono ?_;clear q1;rintro e w2 ⟨rfl,hB2⟩)
 .rename_i h;have hq0:q=0:=sign_zero.1 (by simpa using h);exact hback _ _ rfl rfl rfl rfl (by rw[htx,Vz,aF hq0];exact hB2.t)
 rename_i h K14 hK14 K9 hK9 KL hKL;have hq0:q≠0:=fun e=>by rw[sign_zero.2 e]at h;cases h
 have hsl:(Qn bs q).length<=3:=by unfold Qn;split<;>split<;>decide
 have htl:(my q.abs).length<=1000:=by
  have hA:=Bq q;have l1:(dec q.abs.num.natAbs).length<=9:=gT O (by rw[show(10:Nat)^9=1000000000 by decide,hA.1];omega);have l2:(dec q.abs.den).length<=9:=gT O (by rw[show(10:Nat)^9=1000000000 by decide,hA.2];omega);rw[show my q.abs=((if q.abs.num<0 then[45]else[])++dec q.abs.num.natAbs)++if q.abs.den=1 then[]else[47]++dec q.abs.den from rfl];split<;>split<;>simp only[cF,bB,bu]<;>omega
 have hdl:(dec i).length<=10:=gT O O
 have htail:∀(t':iS)(W':World),t'.size=67->t'.getD 0 undef=.slice (some ⟨g,0,none⟩) p.length cap->t'.getD 3 undef=.pointer (some ⟨w.heap.size,0,none⟩)->t'.getD 4 undef=.int .i64 (i:Int)->t'.getD 5 undef=.pointer (some ⟨n1,0,none⟩)->YL w g p.length news n1 u0 u1 u2 (bs++Qn bs q) W'->K14 ⟨t',[]⟩ W':=by
  clear hB2 hB1 hK9 hKL b0 b1 b2;intro t' W' hs' s0 s3 s4 s5 hB;rw[aY2 t' hs',s0,s3,s4,s5];clear s0 s3 s4 s5;obtain⟨b0,b1,b2⟩:=hB.c;have qA:=hB.abs hM hf1 hq0 hf2 hf3 hri;refine hK14 _ _ ?_
  gi_wp2_with (refine⟨trivial,?_⟩;gi_at_call 168;refine(bC.2 qA).mono ?_;clear qA;rintro e w3 ⟨v,rfl,qT⟩)
  gi_wp2_with (refine⟨trivial,?_⟩;gi_at_call 74;refine(bC.2 qT).mono ?_;clear qT;rintro e w4 ⟨rfl,hB4⟩)
  .rename_i h1 K16 hK16 K50 hK50;have hi0:i=0:=by simpa using h1
   gi_wp2_with (refine⟨trivial,?_⟩;gi_at_call 167;refine(bC.2 (hB4.wr (my q.abs) O (by simp only[cF];omega))).mono ?_;rintro e w5 ⟨⟨r,rfl⟩,hB5⟩)
   exact hback _ _ rfl rfl rfl (by rw[hi0];rfl) (by rw[htx,Vz,aG hq0,aF hi0];exact hB5.t)
  .rename_i h1 K19 hK19 h2 K54 hK54;have hi0:i≠0:=by simpa using h1
   have h1t:my q.abs≠[49]:=by simpa using h2
   gi_wp2_with (refine⟨trivial,?_⟩;gi_at_call 167;rw[show(⟨(my q.abs).toArray⟩:ByteArray)++⟨#[32]⟩=⟨(my q.abs++[32]).toArray⟩from bJ8 _ [32]];refine(bC.2 (hB4.wr (my q.abs++[32]) (by simp only[cF,bB,bu];omega) (by simp only[cF];omega))).mono ?_;rintro e w5 ⟨⟨r,rfl⟩,hB5⟩)
   gi_wp2_with (refine⟨trivial,?_⟩;gi_at_call 167;refine(bC.2 (hB5.wr [120] bY (by simp only[cF,bB,bu];omega))).mono ?_;rintro e w6 ⟨⟨r6,rfl⟩,hB6⟩)
   .rename_i h6 K21 hK21;have qI:=Cg i w6 _ (ai4 hM hB6.t.bel).2
    gi_wp2_with (refine⟨trivial,?_⟩;gi_at_call 169;refine(bC.2 qI).mono ?_;clear qI;rintro e w7 ⟨rfl,hb7⟩)
    have hB7:=hB6.call hb7
    gi_wp2_with (refine⟨trivial,?_⟩;gi_at_call 167;rw[show(⟨#[94]⟩:ByteArray)++⟨(dec i).toArray⟩=⟨([94]++dec i).toArray⟩from bJ8 [94] _];refine(bC.2 (hB7.wr ([94]++dec i) (by simp only[cF,bB,bu];omega) (by simp only[cF,bB,bu];omega))).mono ?_;rintro e w8 ⟨⟨r8,rfl⟩,hB8⟩)
    exact hback _ _ rfl rfl rfl rfl (by rw[htx,Vz,aG hq0,aG hi0,aG h1t,aF O];exact hB8.t)
   .rename_i h6;exact hback _ _ rfl rfl rfl rfl (by rw[htx,Vz,aG hq0,aG hi0,aG h1t,aG O,cB];exact hB6.t)
  .rename_i h1 h2 K20 hK20 K57 hK57;have hi0:i≠0:=by simpa using h1
   have h1t:my q.abs=[49]:=by simpa using h2
   gi_wp2_with (refine⟨trivial,?_⟩;gi_at_call 167;refine(bC.2 (hB4.wr [120] bY (by simp only[cF,bB,bu];omega))).mono ?_;rintro e w6 ⟨⟨r6,rfl⟩,hB6⟩)
   .rename_i h6 K21 hK21;have qI:=Cg i w6 _ (ai4 hM hB6.t.bel).2
    gi_wp2_with (refine⟨trivial,?_⟩;gi_at_call 169;refine(bC.2 qI).mono ?_;clear qI;rintro e w7 ⟨rfl,hb7⟩)
    have hB7:=hB6.call hb7
    gi_wp2_with (refine⟨trivial,?_⟩;gi_at_call 167;rw[show(⟨#[94]⟩:ByteArray)++⟨(dec i).toArray⟩=⟨([94]++dec i).toArray⟩from bJ8 [94] _];refine(bC.2 (hB7.wr ([94]++dec i) (by simp only[cF,bB,bu];omega) (by simp only[cF,bB,bu];omega))).mono ?_;rintro e w8 ⟨⟨r8,rfl⟩,hB8⟩)
    exact hback _ _ rfl rfl rfl rfl (by rw[htx,Vz,aG hq0,aG hi0,aF h1t,cB,aF O];exact hB8.t)
   .rename_i h6;exact hback _ _ rfl rfl rfl rfl (by rw[htx,Vz,aG hq0,aG hi0,aF h1t,cB,aG O,cB];exact hB6.t)
 obtain⟨b0,b1,b2⟩:=hB2.c
 have hqs:q.num.sign=-1/\q<0\/q.num.sign=1/\¬q<0:=by
  rcases Sw q.num 0 with h | h | h
  .exact .inl ⟨qD h,Rat.not_le.1 fun e=>by have:=SQ.2 e;omega⟩
  .exact absurd (mR.1 h) hq0
  .exact .inr ⟨gZ h,fun e=>absurd (SQ.1 O) (Rat.not_le.2 e)⟩
 clear h;by_cases hbs:bs=[]
 .have hb0:((bs.length:Nat):Int)=0:=by rw[hbs];rfl
  have hbl:bs.length=0:=by rw[hbs];rfl
  rcases hqs with⟨hsg,hqn⟩ | ⟨hsg,hqn⟩
  .gi_wp2_with (refine⟨trivial,?_⟩;gi_at_call 166;refine(bC.2 hB2.len).mono ?_;rintro e w3 ⟨rfl,hB3⟩;obtain⟨b0,b1,b2⟩:=hB3.c)
   gi_wp2_with (refine⟨trivial,?_⟩;gi_at_call 23;refine(bC.2 (hB3.sign hM hri)).mono ?_;rintro e w4 ⟨rfl,hB4⟩;obtain⟨b0,b1,b2⟩:=hB4.c)
   gi_wp2_with (refine⟨trivial,?_⟩;gi_at_call 167;refine(bC.2 (hB4.wr [45] bY O)).mono ?_;rintro e w5 ⟨⟨r,rfl⟩,hB5⟩)
   exact htail _ _ rfl rfl rfl rfl rfl (by rw[Qn,aF hbs,aF hqn];exact hB5)
  .gi_wp2_with (refine⟨trivial,?_⟩;gi_at_call 166;refine(bC.2 hB2.len).mono ?_;rintro e w3 ⟨rfl,hB3⟩;obtain⟨b0,b1,b2⟩:=hB3.c)
   gi_wp2_with (refine⟨trivial,?_⟩;gi_at_call 23;refine(bC.2 (hB3.sign hM hri)).mono ?_;rintro e w4 ⟨rfl,hB4⟩;obtain⟨b0,b1,b2⟩:=hB4.c)
   gi_wp2_with (refine⟨trivial,?_⟩;gi_at_call 166;refine(bC.2 hB4.len).mono ?_;rintro e w5 ⟨rfl,hB5⟩;obtain⟨b0,b1,b2⟩:=hB5.c)
   refine⟨trivial,?_⟩;rename_i Kz hKz;refine hKz _ _ ?_
   gi_wp2_with (refine⟨trivial,?_⟩;gi_at_call 166;refine(bC.2 hB5.len).mono ?_;rintro e w6 ⟨rfl,hB6⟩;obtain⟨b0,b1,b2⟩:=hB6.c)
   exact htail _ _ rfl rfl rfl rfl rfl (by rw[Qn,aF hbs,aG hqn,cB];exact hB6)
 .have hb0:¬((bs.length:Nat):Int)=0:=by have:bs.length≠0:=fun e=>hbs (ep e);omega
  have hbp:(0:Int)<(bs.length:Nat):=by have:bs.length≠0:=fun e=>hbs (ep e);omega
  rcases hqs with⟨hsg,hqn⟩ | ⟨hsg,hqn⟩
  .gi_wp2_with (refine⟨trivial,?_⟩;gi_at_call 166;refine(bC.2 hB2.len).mono ?_;rintro e w3 ⟨rfl,hB3⟩;obtain⟨b0,b1,b2⟩:=hB3.c)
   refine⟨trivial,?_⟩;rename_i Kz hKz;refine hKz _ _ ?_
   gi_wp2_with (refine⟨trivial,?_⟩;gi_at_call 166;refine(bC.2 hB3.len).mono ?_;rintro e w4 ⟨rfl,hB4⟩;obtain⟨b0,b1,b2⟩:=hB4.c)
   gi_wp2_with (refine⟨trivial,?_⟩;gi_at_call 23;refine(bC.2 (hB4.sign hM hri)).mono ?_;rintro e w5 ⟨rfl,hB5⟩;obtain⟨b0,b1,b2⟩:=hB5.c)
   gi_wp2_with (refine⟨trivial,?_⟩;gi_at_call 167;refine(bC.2 (hB5.wr [32,45,32] bY O)).mono ?_;rintro e w6 ⟨⟨r,rfl⟩,hB6⟩)
   exact htail _ _ rfl rfl rfl rfl rfl (by rw[Qn,aG hbs,aF hqn];exact hB6)
  .gi_wp2_with (refine⟨trivial,?_⟩;gi_at_call 166;refine(bC.2 hB2.len).mono ?_;rintro e w3 ⟨rfl,hB3⟩;obtain⟨b0,b1,b2⟩:=hB3.c)
   refine⟨trivial,?_⟩;rename_i Kz hKz;refine hKz _ _ ?_
   gi_wp2_with (refine⟨trivial,?_⟩;gi_at_call 166;refine(bC.2 hB3.len).mono ?_;rintro e w4 ⟨rfl,hB4⟩;obtain⟨b0,b1,b2⟩:=hB4.c)
   gi_wp2_with (refine⟨trivial,?_⟩;gi_at_call 23;refine(bC.2 (hB4.sign hM hri)).mono ?_;rintro e w5 ⟨rfl,hB5⟩;obtain⟨b0,b1,b2⟩:=hB5.c)
   gi_wp2_with (refine⟨trivial,?_⟩;gi_at_call 166;refine(bC.2 hB5.len).mono ?_;rintro e w6 ⟨rfl,hB6⟩;obtain⟨b0,b1,b2⟩:=hB6.c)
   gi_wp2_with (refine⟨trivial,?_⟩;gi_at_call 167;refine(bC.2 (hB6.wr [32,43,32] bY O)).mono ?_;rintro e w7 ⟨⟨r,rfl⟩,hB7⟩)
   exact htail _ _ rfl rfl rfl rfl rfl (by rw[Qn,aG hbs,aG hqn];exact hB7)
def RA(p:c4)(hp:p≠[])(hlast:p.getD (p.length-1) 0≠0)(hb:p.length<1000)
  (hf:∀a∈p,Fit 64 a/\a.num.natAbs<1000000000/\a.den<1000000000) (ht:tD p p.length≠[]) (hlen:∀k,k<p.length+1->(tD p k).length<=1000000):aX prog 73 [.one (sQ p)] (.ret [bS (tD p p.length)]):=by
 refine⟨ay aS,fun M w vs hM hv=>?_⟩;obtain⟨v,rfl,hv⟩:=pP hv;refine(bh8 M w hM v p hv.1 hp hlast hb hf ht fun k hk=>hlen k O).mono ?_;rintro e w' ⟨rfl,hb⟩;exact⟨hb,[_],rfl,⟨rfl,rfl⟩,trivial⟩
def cw1:aX prog 73 [.one (sQ [-1,9/2,-3,1/2])] (.ret [bS [49,47,50,32,120,94,51,32,45,32,51,32,120,94,50,32,43,32,57,47,50,32,120,32,45,32,49]]):=by
 have h:=RA [-1,9/2,-3,1/2] bY b7 bY (by unfold Fit;decide +kernel) b7 b7
 rwa[show tD [-1,9/2,-3,1/2] ([-1,9/2,-3,1/2]:List Rat).length=[49,47,50,32,120,94,51,32,45,32,51,32,120,94,50,32,43,32,57,47,50,32,120,32,45,32,49] by decide +kernel]at h
def cj8:aX prog 73 [.one (sQ [0,0,3,-2])] (.ret [bS [45,50,32,120,94,51,32,43,32,51,32,120,94,50]]):=by
 have h:=RA [0,0,3,-2] bY b7 bY (by unfold Fit;decide +kernel) b7 b7
 rwa[show tD [0,0,3,-2] ([0,0,3,-2]:List Rat).length=[45,50,32,120,94,51,32,43,32,51,32,120,94,50] by decide +kernel]at h
def cw5:aX prog 73 [.one (sQ [2,-1])] (.ret [bS [45,120,32,43,32,50]]):=by
 have h:=RA [2,-1] bY b7 bY (by unfold Fit;decide +kernel) b7 b7
 rwa[show tD [2,-1] ([2,-1]:List Rat).length=[45,120,32,43,32,50] by decide +kernel]at h
end Go.Sy
namespace Go.Sy
open Go Go.Proofs Tryz Ord
def lg:Tr:=hx128Q 
def bf9:Tr:=ir 54 0 3 3 125 (aY 55 0 (nE 35 0 1 28 129 (di 56 3 46 130 (OU 74 57 131 9 (.need (.prim [(W 58 0),(.one (.c (.k (.string ⟨#[51]⟩))))] none) (.binOp .eql 9 (tT 132) (.const (.string ⟨#[51]⟩)) 9) 4 false (cd 59))))) lg)
def bq8:Tr:=aY 50 0 (ir 36 0 0 54 115 (aY 51 0 (bL 34 0 119 28 (ir 52 0 5 3 120 (aY 53 0 (bL 35 0 124 28 bf9) lg))) lg)) lg
def bf8:Tr:=xQ 73 44 102 98 9 (.need (.prim [(W 45 0),(.one (.c (.k (.string ⟨#[45,50,32,120,94,51,32,43,32,51,32,120,94,50]⟩))))] none) (.binOp .eql 9 (tT 103) (.const (.string ⟨#[45,50,32,120,94,51,32,43,32,51,32,120,94,50]⟩)) 9) 4 false (aY 46 0 (nE 19 1 1 29 108 (eZ 47 98 109 (xQ 73 48 110 98 9 (.need (.prim [(W 49 0),(.one (.c (.k (.string ⟨#[45,120,32,43,32,50]⟩))))] none) (.binOp .eql 9 (tT 111) (.const (.string ⟨#[45,120,32,43,32,50]⟩)) 9) 4 false bq8)))) lg))
def bq4:Tr:=.need (.prim [(W 39 0),(.one (.c (.k (.string ⟨#[49,47,50,32,120,94,51,32,45,32,51,32,120,94,50,32,43,32,57,47,50,32,120,32,45,32,49]⟩))))] none) (.binOp .eql 9 (tT 91) (.const (.string ⟨#[49,47,50,32,120,94,51,32,45,32,51,32,120,94,50,32,43,32,57,47,50,32,120,32,45,32,49]⟩)) 9) 4 false (aY 40 0 (OU 74 9 94 9 (.need (.prim [(W 41 0),(.one (.c (.k (.string ⟨#[54]⟩))))] none) (.binOp .eql 9 (tT 95) (.const (.string ⟨#[54]⟩)) 9) 4 false (aY 42 0 (nE 15 1 0 29 100 (eZ 43 98 101 bf8)) lg))) lg)
def bi0:Tr:=Av 71 30 78 205 28 (aI3 2 4 (Av 71 32 80 205 28 (.need (.call 36 [(W 31 0),(WK 1),(W 33 0),(G3 28)] [none,none,none]) (.call ⟨.value (.func 36),#[(tT 79),(.const (I3 1)),(tT 81),(tT 82)],#[28,3,28,46]⟩) 78 false (nE 4 1 1 29 88 (eZ 37 98 89 (xQ 73 38 90 98 9 bq4))))))
def bm0:Tr:=lS 24 1 3 64 (aY 25 0 lg (bL 19 1 69 29 (lS 26 2 3 70 (aY 27 0 lg (.need (.call 72 [(WK 1),(WK 2)] [(some 3),none]) (.call ⟨.value (.func 72),#[(.const (I3 1)),(.const (I3 2))],#[2,2]⟩) 55 false (.need (.lit 1 [[(.k (.int .i64 0))],[(.k (.int .i64 0))],[(.k (.int .i64 1))],[(.k (.int .i64 1))]]) (.buildSlice 205 4 #[(0,(.const (I3 0))),(1,(.const (I3 0))),(2,(.const (I3 1))),(3,(.const (I3 1)))]) 205 false bi0))))))
def bt2:Tr:=lS 10 0 54 51 (aY 21 0 lg (lS 16 0 54 54 (aY 22 0 lg (lS 20 0 54 58 (aY 23 0 lg (bL 15 1 63 29 bm0))))))
def bn9:Tr:=Av 71 11 36 205 28 (aI3 0 1 (Av 71 13 38 205 28 (gO 50 [(W 12 0),(W 14 0),(.agg [tN,(tE (.bool false)),tN]),(.agg [tN,(tE (.bool false)),tN])] [(some 2),none] [37,39,40,41] [28,28,46,46] 57 false (.need (.lit 1 [[(.k (.int .i64 0))],[(.k (.int .i64 0))],[(.k (.int .i64 1))],[(.k (.int .i64 2))],[(.k (.int .i64 2))]]) (.buildSlice 205 5 #[(0,(.const (I3 0))),(1,(.const (I3 0))),(2,(.const (I3 1))),(3,(.const (I3 2))),(4,(.const (I3 2)))]) 205 false (Av 71 17 46 205 28 (.need (.call 34 [(W 18 0),(WK 1),(WK 1)] [(some 2),none]) (.call ⟨.value (.func 34),#[(tT 47),(.const (I3 1)),(.const (I3 1))],#[28,3,3]⟩) 57 false bt2))))))
def bF7:Tr:=lS 5 0 54 22 (aY 6 0 lg (bL 4 1 26 29 (lS 7 2 3 27 (aY 8 0 lg (gO 20 [(G2 4)] [(some 3),none] [31] [31] 55 false (aI3 0 1 bn9))))))
def bL2:Tr:=bB6 2 (Av 71 0 15 205 28 (bB6 0 (Av 71 2 17 205 28 (Ww 49 1 3 0 2 16 18 28 28 57 bF7))))
def aK8:af prog f14 dV []=bL2:=aS
def oW(zs:List Int)(qs:c4)(h:zs.map (fun(z:Int)=>(z:Rat))=qs)(hz:∀z∈zs,-9223372036854775808<=z/\z<9223372036854775808)(hl:zs.length<1099511627776):aX prog 71 [.one (.slice 1 (zs.map zI))] (.ret [.one (sQ qs)]):=by subst h;exact bh2 zs hz hl
def bj8:aX prog 20 [.agg (tA [0,1,2] [[0,3/2,0,-1/2],[-1,9/2,-3,1/2]])] (.ret [qT 6,.one (.int .i64 0)]):=by
 have h:=bl3 [0,1,2] [[0,3/2,0,-1/2],[-1,9/2,-3,1/2]] 62 b7 ⟨O,O,b7,b7,bY,bY⟩
 rwa[show Pf [0,1,2] [[0,3/2,0,-1/2],[-1,9/2,-3,1/2]] ([[0,3/2,0,-1/2],[-1,9/2,-3,1/2]]:List (List Rat)).length=6 by decide +kernel]at h
def bv3:aX prog 50 [.one (sQ [0,1]),.one (sQ [0,1]),.agg z3,.agg z3] (.ret [.agg (tA [0,1] [[0,0,3,-2]]),.one (.int .i64 0)]):=bE3.sub ⟨aC.Sub.same,aC.Sub.same,nO,nO,trivial⟩
def rD  :aX prog 14 [] (.ret [.one (.bool true)]):=by
 refine dh (args:=[]) (ins:=[]) (hints:=(fun _=>none)) fo aS func14 trivial ?_;rw[aK8];dsimp only[List.map,In.env,aU,aV];apply et (us:=([0,1,2]:List Int).map zI);apply aA (oW [0,1,2] [0,1,2] b7 bY bY);apply et (us:=([0,1,0]:List Int).map zI);apply aA (oW [0,1,0] [0,1,0] b7 bY bY);apply aA cc8;apply vn iC;refine l4 ?_ ?_<;>intro h6
 .exact absurd rfl h6
 apply vn (ae uE (aL _));apply vn iC;dsimp only[aU,aV];refine l4 ?_ ?_<;>intro h10
 .exact absurd rfl h10
 apply aA bj8;apply et (us:=([0,1]:List Int).map zI);apply aA (oW [0,1] [0,1] b7 bY bY);apply et (us:=([0,1]:List Int).map zI);apply aA (oW [0,1] [0,1] b7 bY bY);apply aA bv3;apply et (us:=([0,0,1,2,2]:List Int).map zI);apply aA (oW [0,0,1,2,2] [0,0,1,2,2] b7 bY bY);dsimp only[aU,aV];apply aA bN4;apply vn iC;refine l4 ?_ ?_<;>intro h22
 .exact absurd rfl h22
 apply vn iC;refine l4 ?_ ?_<;>intro h25
 .exact absurd rfl h25
 apply vn iC;refine l4 ?_ ?_<;>intro h28
 .exact absurd rfl h28
 apply vn (ae uE (aL _));apply vn iC;refine l4 ?_ ?_<;>intro h32
 .exact absurd rfl h32
 apply vn (ae uE (aL _));apply vn iC;dsimp only[aU,aV];refine l4 ?_ ?_<;>intro h36
 .exact absurd rfl h36
 apply aA (bS0 1 2);apply et (us:=([0,0,1,1]:List Int).map zI);apply aA (oW [0,0,1,1] [0,0,1,1] b7 bY bY);apply et (us:=([2,4]:List Int).map zI);apply aA (oW [2,4] [2,4] b7 bY bY);rw[show(if(2:Int)=0 then(0:Rat)else((1:Int):Rat)/((2:Int):Rat))=1/2 by decide +kernel];apply aA bI4;apply vn (aN (f:=cQ) (xs:=[[0,3/2,0,-1/2],[-1,9/2,-3,1/2]]) uE (m:=1) O rfl rfl);apply vn (bq ae1);dsimp only[aU,aV];apply aA cw1;apply vn zV;refine l4 ?_ ?_<;>intro h48
 .apply aA (DI 6 b7 b7 b7 b7);apply vn zV;refine l4 ?_ ?_<;>intro h51
  .apply vn (aN (f:=cQ) (xs:=[[0,0,3,-2]]) uE (m:=0) O rfl rfl);apply vn (bq ae1);apply aA cj8;apply vn zV;dsimp only[aU,aV];refine l4 ?_ ?_<;>intro h56
   .apply vn (aN (f:=cQ) (xs:=[[0,1],[2,-1]]) uE (m:=1) O rfl rfl);apply vn (bq ae1);apply aA cw5;apply vn zV;refine l4 ?_ ?_<;>intro h61
    .apply vn cW;refine l4 ?_ ?_<;>intro h63
     .apply vn (ae bX (aL _));apply vn cW;refine l4 ?_ ?_<;>intro h66
      .apply vn (ae bX (aL _));dsimp only[aU,aV];apply vn cW;refine l4 ?_ ?_<;>intro h69
       .apply vn (aN (f:=qC) (xs:=[2,3,4]) bX (m:=1) O rfl rfl);apply vn (ab cb bY aT (.inl rfl));apply aA (DI 3 b7 b7 b7 b7);apply vn zV;dsimp only[aU,aV];refine aR ?_;show[aQ.one (aC.bool (decide _))]=[aQ.one (aC.bool true)];rw[bz b7]
       exact absurd rfl h69
      exact absurd rfl h66
     exact absurd rfl h63
    exact absurd b7 h61
   exact absurd b7 h56
  exact absurd b7 h51
 exact absurd b7 h48
end Go.Sy
