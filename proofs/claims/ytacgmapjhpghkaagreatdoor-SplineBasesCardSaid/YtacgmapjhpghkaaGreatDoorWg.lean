/- Part. -/
import Derived.Test.YtacgmapjhpghkaaGreatDoorWf
set_option linter.all false
set_option maxRecDepth 100000
namespace Go.Sy
open Go Go.Proofs Go.RowKit Go.Shelf Tryz Ord
attribute [local go_sem] Oper.semAt_some
theorem aI8(B b:Nat)(bs:List Value)(w:World)(h:Lib.IsBuilderF 209 5 B b bs w) :
  Calls prog 166 #[.pointer (some ⟨b,0,none⟩)] w fun e w'=>e=.returned (.int .i64 bs.length)/\w'=w:=
 Any.Builder_Len_f { Tryz.Pf with } B b bs w h
theorem eq_nil(a:Addr)(n cap:Nat)(w:World):Sem.run prog (binOp BinOp.eql 98 (.slice (some a) n cap) (.slice none 0 0)) w=.ok (.bool false) w:=by
 obtain⟨ie,hu,_⟩:=bZ kg;simp[binOp,PL w 98 _ (some a) n cap hu]
theorem ap3{F:Fence}{nF:Nat}{ops:Array Oper}{rest:List Oper}{o:Oper}{a:Act}{Q:Exit->Act->World->Prop}{w:World}(hgd:o.guard=none)(s x:Operand)
  (ho:o.op=.call { callee:=.builtin .append,args:=#[s,x],argTypes:=#[98,98] }) (base:Nat) (v:Value) (xs:List Value) (hs:a.eval s=v) (hown:w.ownsRow base 46 3 v 0 xs) (ad:Addr) (m c:Nat) (news:List Value)
  (hx:a.eval x=.slice (some ad) m c) (hl:news.length=m*3) (hn:∀j u,news[j]?=some u->w.cell? (ad.add j)=some u) (h1:∀u∈news,u.oneCell'=true) (hk:m<1099511627776) (hbase:base<=w.heap.size)
  (h:∀v' w',w'.ownsRow base 46 3 v' (0+m) (xs++news)->w.grownBy w' v.ownBlock->wpListIn F nF prog ops Q rest (a.put o.dst v') w') :
  wpListIn F nF prog ops Q (o::rest) a w:=by
 obtain⟨ie,hu,hie,hies,hieb⟩:=bZ kg;obtain⟨ie',zv,hi,hz,hzc,_,hzs⟩:=fw (show oE prog 46=some [.slice none 0 0,.bool false,.slice none 0 0] by kernel_rfl);rw[hie]at hi;simp only[aW]at hi;subst hi;exact Zp w hgd s x 98 ho base 46 ie zv 3 _ hu hie hz hies hieb (by rw[hzs,hies]) (by decide) v 0 xs hs hown ad m c news hx hl hn h1 (by simp only[maxLen];omega) (by omega) hbase (fun v' w' h2 h3 _ h5=>h v' w' h2 h3)
theorem Up(b off k:Nat):(⟨b,off,none⟩:Addr).add k=⟨b,off+k,none⟩:=by
 unfold Addr.add;by_cases h:k=0
 ·subst h;rfl
 ·rw[aG h]
def ay5(g n:Nat)(news:List Value)(w:World):Prop:=∃cur fz,w.heap[g]?=some (.cells cur 46 fz)/\cur.toList.take (n*3)=news
theorem az8(b off n cap:Nat)(news:List Value)(w:World)(hl:news.length=n*3)(hnw:∀j u,news[j]?=some u->w.cell? ((⟨b,off,none⟩:Addr).add j)=some u)(h1:∀u∈news,u.oneCell'=true)(hn:n≠0)(hb:n<1099511627776) :
  Calls prog 207 #[.slice (some ⟨b,off,none⟩) n cap] w fun e w'=>∃g cap',e=.returned (.slice (some ⟨g,0,none⟩) n cap')/\w.heap.size<=g/\ay5 g n news w'/\Below w.heap.size w w':=by
 refine(au (n:=1000)).1 ?_;refine iH func207 rfl trivial ?_ rfl;simp only[ntmps207,cw,an,bo,Nat.reduceAdd,Nat.reduceSub,dx,dk,du,di,List.nil_append,List.cons_append];have e0:=eq_nil ⟨b,off,none⟩ n cap w;have hW1:(w.alloc (.cells #[] 46)).ownsRow w.heap.size 46 3 (.slice (some ⟨w.heap.size,0,none⟩) 0 0) 0 []:=⟨rfl,.inr ⟨_,0,#[],rfl,aa _,dX w _,aa _,by simp[maxLen],rfl,rfl⟩⟩
 have hold:∀j u,news[j]?=some u->(w.alloc (.cells #[] 46)).cell? ((⟨b,off,none⟩:Addr).add j)=some u:=fun j u hj=>by
  have:=hnw j u hj;rw[Up]at this|-;unfold World.cell? at this|-;dsimp only at this|-;cases hh:w.heap[b]? with
  | none=>rw[hh]at this;cases this
  | some o=>
    rw[dE _ _ _ (cZ.1 hh).1,hh];rw[hh]at this;exact this
 have hb2:=(cu w.heap.size w).alloc (aa _) (.cells #[] 46);have hsz1:(w.alloc (.cells #[] 46)).heap.size=w.heap.size+1:=cy ..
 gi_wp2_with (gi_at_builtin;refine ap3 rfl _ _ rfl w.heap.size (.slice (some ⟨w.heap.size,0,none⟩) 0 0) [] rfl hW1 ⟨b,off,none⟩ n cap news rfl hl hold h1 hb (by omega) ?_;intro v' w3 hv3 hg3)
 refine gZ (jP rfl _ _ _) rfl ?_;rw[bM,List.nil_append]at hv3;rcases hv3.2 with⟨_,h0⟩ | ⟨g,cap',cur,rfl,hg,hgb,_,_,_,ht⟩
 ·exact absurd h0 hn
 ·exact⟨g,cap',rfl,hg,⟨cur,_,hgb,ht⟩,hb2.grown hg3 (by omega) (fun k e=>by cases e;exact aa _)⟩
theorem LB{M:Nat->Prop}{w:World}{all:Array Value}:∀{p:List Rat}{off:Nat},(∀i t,(rQ p)[i]?=some t->t.length=3/\ai M w t ((all.toList.drop (off+i*3)).take 3))->((all.toList.drop off).take (p.length*3)).length=p.length*3/\(∀u∈(all.toList.drop off).take (p.length*3),u.oneCell'=true)
 | [],off,_=>by simp
 | q::p,off,hel=>by
   obtain⟨_,h2⟩:=hel 0 (qC q) rfl;rw[lX,bq]at h2
   obtain⟨h3,h4⟩:=LB (p:=p) (off:=off+3) fun i t hi=>by
    have:=hel (i+1) t hi
    rwa[show off+(i+1)*3=off+3+i*3 by omega]at this
   have hl:=h2.length
   have e:(all.toList.drop off).take ((q::p).length*3)=(all.toList.drop off).take 3++(all.toList.drop (off+3)).take (p.length*3):=by
    rw[an,bX,eN,gG,Ak,gF]
   rw[e];refine⟨by rw[cJ,h3,<-hl,an];simp only[an,bo];omega,fun u hu=>?_⟩;rcases fI.1 hu with hu | hu
   ·exact h2.one u hu
   ·exact h4 u hu
theorem bj5{l:List Value}{k:Nat}{u0 u1 u2:Value}(h:(l.drop k).take 3=[u0,u1,u2]):l[k]?=some u0/\l[k+1]?=some u1/\l[k+2]?=some u2:=by
 have g:∀j,j<3->l[k+j]?=((l.drop k).take 3)[j]?:=fun j hj=>by rw[dm,aK hj,eo]
 have h0:=g 0 (by omega);have h1:=g 1 (by omega);have h2:=g 2 (by omega);rw[h]at h0 h1 h2;exact⟨h0,h1,h2⟩
theorem ot{w:World}{b k:Nat}{all:Array Value}{T:TypeId}{fz:Nat×Nat}{u:Value}(hb:w.heap[b]?=some (.cells all T fz))(h:all.toList[k]?=some u):w.cell? ⟨b,k,none⟩=some u:=by
 unfold World.cell?;rw[hb]
 simpa using h
theorem af3{M:Nat->Prop}{w:World}(hM:cC M w){q:Rat}{u0 u1 u2:Value}(h:ai M w (qC q) [u0,u1,u2]):Calls prog 23 #[.agg #[u0,u1,u2]] w fun e w1=>e=.returned (.int .i64 q.num.sign)/\Below w.heap.size w w1:=by
 refine((lM q).2 M w [.agg #[u0,u1,u2]] hM ⟨⟨[u0,u1,u2],rfl,h⟩,trivial⟩).mono ?_;rintro e w1 ⟨hb1,vs,rfl,hvs⟩;obtain⟨v1,rfl,hv1⟩:=sj hvs;obtain⟨rfl,_⟩:=hv1;exact⟨rfl,hb1⟩
theorem aO5(M:Nat->Prop)(w:World)(hM:cC M w)(v:Value)(p:List Rat)(hv:(sQ p).rep M w v)(hp:p≠[])(hlast:p.getD (p.length-1) 0≠0)(hb:p.length<1099511627776:=by omega) :
  Calls prog 157 #[v] w fun e w'=>∃g cap' news,e=.returned (.slice (some ⟨g,0,none⟩) p.length cap')/\w.heap.size<=g/\ay5 g p.length news w'/\Below w.heap.size w w'/\∀i,i<p.length->ai M w (qC (p.getD i 0)) ((news.drop (i*3)).take 3):=by
 obtain⟨a,cap,rfl,hcc,hm,hel⟩:=hv;rw[aI]at hcc|-;have hp0:p.length≠0:=fun e=>hp (eV e);rcases hel with h | ⟨b,off,all,T,fz,rfl,hMb,hbk,hel⟩
 ·exact absurd (List.map_eq_nil_iff.1 h) hp
 have hpi:(0:Int)<p.length:=by omega
 obtain⟨hnl,hn1⟩:=LB hel;have hrp:∀i,i<p.length->ai M w (qC (p.getD i 0)) ((all.toList.drop (off+i*3)).take 3):=fun i hi=>(hel i _ (by rw[cn,aX hi];rfl)).2;have hrl:=hrp (p.length-1) (by omega);obtain⟨u0,u1,u2,hu⟩:=aB3 hrl.length.symm;rw[hu]at hrl;obtain⟨c0,c1,c2⟩:=bj5 hu;replace c0:=ot hbk c0;replace c1:=ot hbk c1;replace c2:=ot hbk c2;have hlb:=(cZ.1 hbk).1;refine(au (n:=1000)).1 ?_;refine iH func157 rfl trivial ?_ rfl;simp only[ntmps157,cw,an,bo,Nat.reduceAdd,Nat.reduceSub,dx,dk,du,di,List.nil_append,List.cons_append]
 gi_wp2
 rename_i K1 hK1;generalize hK:Exit.then _ _=K;refine pU (fun j a' W'=>a'={ tmps:=#[.slice (some ⟨b,off,none⟩) p.length cap,undef,.slice none 0 0,.int .i64 p.length,.slice (some ⟨b,off,none⟩) p.length cap,.int .i64 p.length,undef,undef,undef,undef,undef,undef,undef,undef,undef,undef,undef,undef,undef,undef,undef,undef,undef],defers:=[] } /\ W'=w) 0 ⟨rfl,rfl⟩ ?_;rintro j a' W' ⟨rfl,rfl⟩;have hs:((p.getD (p.length-1) 0).num.sign)≠0:=fun e=>hlast (sign_zero.1 e);have q:=af3 hM hrl;generalize (p.getD (p.length-1) 0).num.sign=sg at hs q
 have hcl:∀{w1:World},Below W'.heap.size W' w1->∀j u,((all.toList.drop off).take (p.length*3))[j]?=some u->w1.cell? ((⟨b,off,none⟩:Addr).add j)=some u:=fun {w1} hb1 j u hj=>by
  rw[Up];rw[dm]at hj;split at hj
  ·rw[eo]at hj;exact ot ((hb1.block b hlb).trans hbk) hj
  ·cases hj
 gi_wp2_with (refine⟨trivial,?_⟩;gi_at_call 23;refine(au.2 q).mono ?_;clear q;rintro e w1 ⟨rfl,hb1⟩)
 subst hK;refine hK1 _ _ ?_;have q:=az8 b off p.length cap _ w1 hnl (hcl hb1) hn1 hp0 hb
 gi_wp2_with (refine⟨trivial,?_⟩;gi_at_call 207;refine(au.2 q).mono ?_;clear q;rintro e w2 ⟨g,cap',rfl,hg,hr,hb2⟩)
 refine gZ (jP rfl _ _ _) rfl ⟨g,cap',_,rfl,aq hb1.size hg,hr,hb1.trans (hb2.mono hb1.size),fun i hi=>?_⟩;have:=hrp i hi
 rwa[nm,kK,dQ (by have:=cN 3 hi;rw[PD]at this;omega),gF]
end Go.Sy
namespace Go.Sy
open Go Go.Proofs Go.RowKit Go.Shelf Tryz Ord
attribute [local go_sem] Oper.semAt_some
theorem aK3(t:Array Value)(h:t.size=67):t=#[t.getD 0 undef,t.getD 1 undef,t.getD 2 undef,t.getD 3 undef,t.getD 4 undef,t.getD 5 undef,t.getD 6 undef,t.getD 7 undef,t.getD 8 undef,t.getD 9 undef,t.getD 10 undef,t.getD 11 undef,t.getD 12 undef,t.getD 13 undef,t.getD 14 undef,t.getD 15 undef,t.getD 16 undef,t.getD 17 undef,t.getD 18 undef,t.getD 19 undef,t.getD 20 undef,t.getD 21 undef,t.getD 22 undef,t.getD 23 undef,t.getD 24 undef,t.getD 25 undef,t.getD 26 undef,t.getD 27 undef,t.getD 28 undef,t.getD 29 undef,t.getD 30 undef,t.getD 31 undef,t.getD 32 undef,t.getD 33 undef,t.getD 34 undef,t.getD 35 undef,t.getD 36 undef,t.getD 37 undef,t.getD 38 undef,t.getD 39 undef,t.getD 40 undef,t.getD 41 undef,t.getD 42 undef,t.getD 43 undef,t.getD 44 undef,t.getD 45 undef,t.getD 46 undef,t.getD 47 undef,t.getD 48 undef,t.getD 49 undef,t.getD 50 undef,t.getD 51 undef,t.getD 52 undef,t.getD 53 undef,t.getD 54 undef,t.getD 55 undef,t.getD 56 undef,t.getD 57 undef,t.getD 58 undef,t.getD 59 undef,t.getD 60 undef,t.getD 61 undef,t.getD 62 undef,t.getD 63 undef,t.getD 64 undef,t.getD 65 undef,t.getD 66 undef]:=(rS t 67 h).trans rfl
def Nu(bs:List UInt8)(q:Rat):List UInt8:=if bs=[]then(if q<0 then[45]else[])else if q<0 then[32,45,32]else[32,43,32]
def SQ(bs:List UInt8)(i:Nat)(q:Rat):List UInt8:=
 if q=0 then bs else
  if i=0 then bs++Nu bs q++lg q.abs
  else bs++Nu bs q++(if lg q.abs=[49]then[]else lg q.abs++[32])++[120]++(if 1<i then[94]++dec i else[])
def qx(p:List Rat):Nat->List UInt8
 | 0=>[]
 | k+1=>SQ (qx p k) (p.length-1-k) (p.getD (p.length-1-k) 0)
structure TxS(w:World)(g L:Nat)(news:List Value)(bs:List UInt8)(W:World):Prop where
 bld:Lib.IsBuilderF 209 5 w.heap.size w.heap.size (Lib.byteCells bs) W
 bel:Below w.heap.size w W
 row:ay5 g L news W
 gn:w.heap.size<g
theorem ay5.lt{g n:Nat}{news:List Value}{w:World}(h:ay5 g n news w):g<w.heap.size:=by
 obtain⟨cur,fz,h,_⟩:=h;exact(cZ.1 h).1
theorem TxS.call{w:World}{g L:Nat}{news:List Value}{bs:List UInt8}{W W':World}(h:TxS w g L news bs W)(hb:Below W.heap.size W W'):TxS w g L news bs W':=by
 have hl:=h.row.lt;refine⟨lY h.bld fun j o ho _=>fv hb j o ho,h.bel.trans (hb.mono h.bel.size),?_,h.gn⟩;obtain⟨cur,fz,h1,h2⟩:=h.row;exact⟨cur,fz,(hb.block g hl).trans h1,h2⟩
theorem TxS.write{w:World}{g L:Nat}{news:List Value}{bs cs:List UInt8}{W W':World}(h:TxS w g L news bs W)(h1:Lib.IsBuilderF 209 5 w.heap.size w.heap.size (Lib.byteCells cs) W')(h2:Below w.heap.size W W')(h3:Lib.OthersKept 5 (some w.heap.size) W W'):TxS w g L news cs W':=by
 refine⟨h1,h.bel.trans h2,?_,h.gn⟩;obtain⟨cur,fz,e1,e2⟩:=h.row;have hg:=h.gn;exact⟨cur,fz,h3 g _ e1 (by intro e;cases e;omega) (by intro c fz e;cases e),e2⟩
def bk9(M:Nat->Prop)(w W:World)(k:Nat):Prop:=M k\/(w.heap.size<=k/\k<W.heap.size)
abbrev wA(w:World):World:=w.alloc (.cells #[.pointer none,.slice none 0 0] 209)
abbrev MA(M:Nat->Prop)(w:World)(k:Nat):Prop:=M k\/k=w.heap.size
theorem aN3(w:World):(wA w).heap.size=w.heap.size+1:=cy ..
theorem bm7{M:Nat->Prop}{w:World}:bF M w (MA M w) (wA w):=fun k o hk ho _=>by
 have hlt:=(cZ.1 ho).1;exact⟨fun h=>h.elim hk (fun h=>by omega),(dE _ _ _ hlt).trans ho⟩
theorem bn8{M:Nat->Prop}{w W:World}(hb:Below w.heap.size w W):bF (MA M w) (wA w) (bk9 M w W) W:=fun k o hk ho _=>by
 have hlt:=(cZ.1 ho).1;rw[aN3]at hlt;have hne:k≠w.heap.size:=fun e=>hk (.inr e);have hlt:k<w.heap.size:=by omega
 refine⟨fun h=>h.elim (fun h=>hk (.inl h)) (fun h=>by omega),(hb.block k hlt).trans ?_⟩;rw[<-ho];exact(dE _ _ _ hlt).symm
theorem YM{M:Nat->Prop}{w W:World}(hM:cC M w)(hb:Below w.heap.size w W):cC (bk9 M w W) W:=by
 refine⟨fun k h=>h.elim (fun h=>cj (hM.1 k h) hb.size) (fun h=>h.2),hM.2.eJ fun k o hk ho _=>?_⟩;have hlt:=(cZ.1 ho).1;exact⟨fun h=>h.elim hk (fun h=>by omega),(hb.block k hlt).trans ho⟩
theorem aL2{M:Nat->Prop}{w:World}(hM:cC M w){q:Rat}(hf:Fit 64 q)(h0:q≠0)(hn1:q.num.natAbs<1000000000)(hd1:q.den<1000000000){u0 u1 u2:Value}(h:ai M w (qC q) [u0,u1,u2]) :
  Calls prog 168 #[.agg #[u0,u1,u2]] w fun e w1=>Below w.heap.size w w1/\∃v,e=.returned v/\Calls prog 74 #[v] w1 fun e w2=>e=.returned (.string ⟨(lg q.abs).toArray⟩)/\Below w1.heap.size w1 w2:=by
 refine((br4 q).2 M w [.agg #[u0,u1,u2]] hM ⟨⟨[u0,u1,u2],rfl,h⟩,trivial⟩).mono ?_;rintro e w1 ⟨hb1,vs,rfl,hvs⟩;obtain⟨v1,rfl,hv1⟩:=sj hvs
 have hA:q.abs.num.natAbs=q.num.natAbs/\q.abs.den=q.den:=by
  have:=zA q;exact⟨by rw[this.1];omega,this.2⟩
 refine⟨hb1,_,rfl,?_⟩;refine((BF q.abs ⟨by rw[hA.1];exact hf.1,by rw[hA.2];exact hf.2⟩ (by rw[hA.1];intro e;exact h0 (lL.1 (Int.natAbs_eq_zero.1 e))) (by rw[hA.1];exact hn1) (by rw[hA.2];exact hd1)).2 M w1 [v1] (il hM hb1) ⟨hv1,trivial⟩).mono ?_;rintro e w2 ⟨hb2,vs,rfl,hvs⟩;obtain⟨v2,rfl,hv2⟩:=sj hvs;obtain⟨rfl,_⟩:=hv2;exact⟨rfl,hb2⟩
theorem bv0(a b:List UInt8):(⟨a.toArray⟩:ByteArray)++⟨b.toArray⟩=⟨(a++b).toArray⟩:=by
 apply Mz;rw[ae7];simp
structure VV(w:World)(g L:Nat)(news:List Value)(n1:Nat)(u0 u1 u2:Value)(bs:List UInt8)(W:World):Prop where
 t:TxS w g L news bs W
 box:W.heap[n1]?=some (.cells #[u0,u1,u2] 46 (0,0))
 bn:w.heap.size<n1
theorem VV.call{w:World}{g L n1:Nat}{news:List Value}{u0 u1 u2:Value}{bs:List UInt8}{W W':World}(h:VV w g L news n1 u0 u1 u2 bs W)(hb:Below W.heap.size W W'):VV w g L news n1 u0 u1 u2 bs W':=
 ⟨h.t.call hb,(hb.block _ (cZ.1 h.box).1).trans h.box,h.bn⟩
section
variable{M:Nat->Prop}{w:World}{g L n1:Nat}{news:List Value}{u0 u1 u2:Value}{bs:List UInt8}{W:World}(h:VV w g L news n1 u0 u1 u2 bs W)
include h
theorem VV.c:W.cell? ⟨n1,0,none⟩=some u0/\W.cell? ⟨n1,1,none⟩=some u1/\W.cell? ⟨n1,2,none⟩=some u2:=⟨bD h.box rfl,bD h.box rfl,bD h.box rfl⟩
theorem VV.sign(hM:cC M w){q:Rat}(hr:ai (MA M w) (wA w) (qC q) [u0,u1,u2]):Calls prog 23 #[.agg #[u0,u1,u2]] W fun e W'=>e=.returned (.int .i64 q.num.sign)/\VV w g L news n1 u0 u1 u2 bs W':=
 (af3 (YM hM h.t.bel) (hr.mono (bn8 h.t.bel))).mono fun e W' ⟨h1,h2⟩=>⟨h1,h.call h2⟩
theorem VV.len:Calls prog 166 #[.pointer (some ⟨w.heap.size,0,none⟩)] W fun e W'=>e=.returned (.int .i64 (bs.length:Nat))/\VV w g L news n1 u0 u1 u2 bs W':=by
 refine(aI8 _ _ _ W h.t.bld).mono ?_;rintro e W' ⟨rfl,rfl⟩;rw[ue];exact⟨rfl,h⟩
theorem VV.wr(s:List UInt8)(hs:s.length<=1000000)(hb:bs.length<=100000000):Calls prog 167 #[.pointer (some ⟨w.heap.size,0,none⟩),.string ⟨s.toArray⟩] W fun e W'=>(∃r,e=.returned r)/\VV w g L news n1 u0 u1 u2 (bs++s) W':=by
 refine(uk w.heap.size w.heap.size _ ⟨s.toArray⟩ W h.t.bld (by rw[ue];show bs.length+s.toArray.size<=_;rw[cw];omega) h.t.bel.size).mono ?_;rintro e W' ⟨rfl,h1,h2,h3⟩;rw[vd,<-ve]at h1;refine⟨⟨_,rfl⟩,h.t.write h1 h2 h3,h3 n1 _ h.box (by intro e;have:=h.bn;cases e;omega) (by intro c fz e;cases e),h.bn⟩
end
theorem VV.abs{M:Nat->Prop}{w:World}{g L n1:Nat}{news:List Value}{u0 u1 u2:Value}{bs:List UInt8}{W:World}(h:VV w g L news n1 u0 u1 u2 bs W)(hM:cC M w){q:Rat}(hf:Fit 64 q)(h0:q≠0)(hn1:q.num.natAbs<1000000000)(hd1:q.den<1000000000)(hr:ai (MA M w) (wA w) (qC q) [u0,u1,u2]) :
  Calls prog 168 #[.agg #[u0,u1,u2]] W fun e W1=>∃v,e=.returned v/\Calls prog 74 #[v] W1 fun e W2=>e=.returned (.string ⟨(lg q.abs).toArray⟩)/\VV w g L news n1 u0 u1 u2 bs W2:=by
 refine(aL2 (YM hM h.t.bel) hf h0 hn1 hd1 (hr.mono (bn8 h.t.bel))).mono ?_;rintro e W1 ⟨hb1,v,rfl,hc⟩;exact⟨v,rfl,hc.mono fun e W2 ⟨h1,h2⟩=>⟨h1,(h.call hb1).call h2⟩⟩
set_option maxHeartbeats 1000000 in
theorem aT0(M:Nat->Prop)(w:World)(hM:cC M w)(v:Value)(p:List Rat)(hv:(sQ p).rep M w v)(hp:p≠[])(hlast:p.getD (p.length-1) 0≠0)(hb:p.length<1000)
  (hf:∀a∈p,Fit 64 a/\a.num.natAbs<1000000000/\a.den<1000000000) (ht:qx p p.length≠[]) (hlen:∀k,k<=p.length->(qx p k).length<=1000000) :
  Calls prog 73 #[v] w fun e w'=>e=.returned (.string ⟨(qx p p.length).toArray⟩)/\Below w.heap.size w w':=by
 refine(au (n:=1000)).1 ?_;refine iH func73 rfl trivial ?_ rfl;simp only[ntmps73,cw,an,bo,Nat.reduceAdd,Nat.reduceSub,dx,dk,du,di,List.nil_append,List.cons_append];have o0:=aC.one _ hv;have hbA:=(cu w.heap.size w).alloc (aa _) (.cells #[.pointer none,.slice none 0 0] 209);have hsA:=aN3 w;have hA0:=dX w (.cells #[.pointer none,.slice none 0 0] 209);have q:=aO5 (MA M w) (wA w) ⟨fun k h=>h.elim (fun h=>by have:=hM.1 k h;omega) (fun h=>by omega),hM.2.eJ bm7⟩ v p (aC.mono _ bm7 hv) hp hlast
 gi_wp2_with (refine⟨trivial,?_⟩;gi_at_call 157;refine(au.2 q).mono ?_;clear q;rintro e w1 ⟨g,cap,news,rfl,hg,hr,hb1,hrow⟩)
 rename_i K1 hK1;rw[hsA]at hg hb1
 have hT1:TxS w g p.length news [] w1:=by
  refine⟨?_,hbA.trans (hb1.mono (by omega)),hr,by omega⟩;exact lY (Rg (.inl ⟨aa _,_,hA0,⟨rfl,.inl ⟨rfl,rfl⟩⟩,by simp[Value.ownBlock]⟩)) fun j o ho _=>(hb1.block j (by have:=(cZ.1 ho).1;rw[aN3]at this;exact this)).trans ho
 clear hb1 hr hbA hsA hA0 hv o0;generalize hKK:Exit.inBlock 0 _=KK;refine pU (fun j a' W'=>∃k,j=k/\k<=p.length/\a'.tmps.size=67/\a'.defers=[]/\a'.tmps.getD 0 undef=.slice (some ⟨g,0,none⟩) p.length cap/\a'.tmps.getD 3 undef=.pointer (some ⟨w.heap.size,0,none⟩)/\a'.tmps.getD 4 undef=.int .i64 ((k:Int)-1)/\TxS w g p.length news (qx p (p.length-k)) W') p.length ⟨_,rfl,aa _,rfl,rfl,rfl,rfl,rfl,by rw[fU];exact hT1⟩ ?_;rintro j ⟨t,d⟩ W ⟨k,rfl,hk,hsz,rfl,t0,t3,t4,hT⟩;clear hT1;dsimp only at hsz t0 t3 t4;rw[aK3 t hsz,t0,t3,t4];clear t0 t3 t4;generalize t.getD 1 undef=y1;generalize t.getD 2 undef=y2;generalize t.getD 5 undef=y5;generalize t.getD 6 undef=y6;rcases j with _ | i
 ·rw[Nat.sub_zero]at hT;have hL:(Lib.byteCells (qx p p.length)).length≠0:=by rw[ue];exact fun e=>ht (eV e)
  have q:=aI8 w.heap.size w.heap.size _ W hT.bld;generalize (Lib.byteCells (qx p p.length)).length=LL at hL q;have q2:=Tryz.Builder_String_any_k w.heap.size w.heap.size _ W hT.bld hT.bel.size;have hbel:=hT.bel
  gi_wp2
  subst hKK;refine hK1 _ _ ?_
  gi_wp2_with (refine⟨trivial,?_⟩;gi_at_call 166;refine(au.2 q).mono ?_;clear q;rintro e w2 ⟨rfl,rfl⟩)
  gi_wp2_with (refine⟨trivial,?_⟩;gi_at_call 170;refine(au.2 q2).mono ?_;clear q2;rintro e w3 ⟨rfl,b1,hl1,ho1⟩)
  exact gZ (jP rfl _ _ _) rfl ⟨rfl,hbel.trans hl1⟩
 have hi:i<p.length:=hk;rw[show((i+1:Nat):Int)-1=(i:Int) by omega];have hri:=hrow i hi;obtain⟨u0,u1,u2,hu⟩:=aB3 hri.length.symm;rw[hu]at hri
 obtain⟨o0,o1,o2⟩:u0.oneCell'=true/\u1.oneCell'=true/\u2.oneCell'=true:=by
  have:=hri.one;exact⟨this _ (by simp),this _ (by simp),this _ (by simp)⟩
 obtain⟨c0,c1,c2⟩:W.cell? ⟨g,i*3,none⟩=some u0/\W.cell? ⟨g,i*3+1,none⟩=some u1/\W.cell? ⟨g,i*3+2,none⟩=some u2:=by
  obtain⟨cur,fz,e1,e2⟩:=hT.row;obtain⟨d0,d1,d2⟩:=bj5 hu;rw[<-e2]at d0 d1 d2
  have key:∀{m:Nat}{u:Value},(cur.toList.take (p.length*3))[m]?=some u->W.cell? ⟨g,m,none⟩=some u:=fun {m u} h=>by
   rw[dm]at h;split at h
   ·exact ot e1 h
   ·cases h
  exact⟨key d0,key d1,key d2⟩
 have hqm:p.getD i 0∈p:=ei (aX hi);obtain⟨hf1,hf2,hf3⟩:=hf _ hqm
 have htx:qx p (p.length-i)=SQ (qx p (p.length-(i+1))) i (p.getD i 0):=by
  rw[show p.length-i=p.length-(i+1)+1 by omega,qx,show p.length-1-(p.length-(i+1))=i by omega]
 have hlb:=hlen (p.length-(i+1)) (by omega);generalize qx p (p.length-(i+1))=bs at hT htx hlb;generalize p.getD i 0=q at hri htx hf1 hf2 hf3;have hgl:=hT.row.lt;have hnn:(0:Int)<=i:=by omega
 gi_wp2
 rename_i K5 hK5 K7 hK7 K6 hK6;have hnew:=dX W (.cells #[.slice none 0 0,.bool false,.slice none 0 0] 46);rw[BP hnew o0 o1 o2]
 have hB1:VV w g p.length news W.heap.size u0 u1 u2 bs ((W.alloc (.cells #[.slice none 0 0,.bool false,.slice none 0 0] 46)).setRow W.heap.size #[u0,u1,u2]):=by
  have hb:=below_setRow (g:=W.heap.size) ((cu W.heap.size W).alloc (aa _) (.cells #[.slice none 0 0,.bool false,.slice none 0 0] 46)) (aa _) #[u0,u1,u2];exact⟨hT.call hb,iz _ _ _ _ _ _ hnew,by omega⟩
 generalize (W.alloc (.cells #[.slice none 0 0,.bool false,.slice none 0 0] 46)).setRow W.heap.size #[u0,u1,u2]=W1 at hB1|-;generalize W.heap.size=n1 at hB1|-;clear c0 c1 c2 hgl hT hnew
 have hback:∀(t':Array Value)(W':World),t'.size=67->t'.getD 0 undef=.slice (some ⟨g,0,none⟩) p.length cap->t'.getD 3 undef=.pointer (some ⟨w.heap.size,0,none⟩)->t'.getD 4 undef=.int .i64 (i:Int)->TxS w g p.length news (qx p (p.length-i)) W'->K5 ⟨t',[]⟩ W':=by
  intro t' W' hs' s0 s3 s4 hT';rw[aK3 t' hs',s0,s3,s4];clear s0 s3 s4;refine hK5 _ _ ?_
  gi_wp2
  exact⟨i,by omega,i,rfl,by omega,rfl,trivial,rfl,rfl,rfl,hT'⟩
 clear hK5;have q1:=hB1.sign hM hri;obtain⟨b0,b1,b2⟩:=hB1.c
 gi_wp2_with (refine⟨trivial,?_⟩;gi_at_call 23;refine(au.2 q1).mono ?_;clear q1;rintro e w2 ⟨rfl,hB2⟩)
 ·rename_i h;have hq0:q=0:=sign_zero.1 (by simpa using h);exact hback _ _ rfl rfl rfl rfl (by rw[htx,SQ,aK hq0];exact hB2.t)
 rename_i h K14 hK14 K9 hK9 KL hKL;have hq0:q≠0:=fun e=>by rw[sign_zero.2 e]at h;cases h
 have hsl:(Nu bs q).length<=3:=by unfold Nu;split<;>split<;>decide
 have htl:(lg q.abs).length<=1000:=by
  have hA:=zA q;have l1:(dec q.abs.num.natAbs).length<=9:=fy (by omega) (by rw[show(10:Nat)^9=1000000000 by decide,hA.1];omega);have l2:(dec q.abs.den).length<=9:=fy (by omega) (by rw[show(10:Nat)^9=1000000000 by decide,hA.2];omega);rw[show lg q.abs=((if q.abs.num<0 then[45]else[])++dec q.abs.num.natAbs)++if q.abs.den=1 then[]else[47]++dec q.abs.den from rfl];split<;>split<;>simp only[cJ,an,bo]<;>omega
 have hdl:(dec i).length<=10:=fy (by omega) (by omega)
 have htail:∀(t':Array Value)(W':World),t'.size=67->t'.getD 0 undef=.slice (some ⟨g,0,none⟩) p.length cap->t'.getD 3 undef=.pointer (some ⟨w.heap.size,0,none⟩)->t'.getD 4 undef=.int .i64 (i:Int)->t'.getD 5 undef=.pointer (some ⟨n1,0,none⟩)->VV w g p.length news n1 u0 u1 u2 (bs++Nu bs q) W'->K14 ⟨t',[]⟩ W':=by
  clear hB2 hB1 hK9 hKL b0 b1 b2;intro t' W' hs' s0 s3 s4 s5 hB;rw[aK3 t' hs',s0,s3,s4,s5];clear s0 s3 s4 s5;obtain⟨b0,b1,b2⟩:=hB.c;have qA:=hB.abs hM hf1 hq0 hf2 hf3 hri;refine hK14 _ _ ?_
  gi_wp2_with (refine⟨trivial,?_⟩;gi_at_call 168;refine(au.2 qA).mono ?_;clear qA;rintro e w3 ⟨v,rfl,qT⟩)
  gi_wp2_with (refine⟨trivial,?_⟩;gi_at_call 74;refine(au.2 qT).mono ?_;clear qT;rintro e w4 ⟨rfl,hB4⟩)
  ·rename_i h1 K16 hK16 K50 hK50;have hi0:i=0:=by simpa using h1
   gi_wp2_with (refine⟨trivial,?_⟩;gi_at_call 167;refine(au.2 (hB4.wr (lg q.abs) (by omega) (by simp only[cJ];omega))).mono ?_;rintro e w5 ⟨⟨r,rfl⟩,hB5⟩)
   exact hback _ _ rfl rfl rfl (by rw[hi0];rfl) (by rw[htx,SQ,aG hq0,aK hi0];exact hB5.t)
  ·rename_i h1 K19 hK19 h2 K54 hK54;have hi0:i≠0:=by simpa using h1
   have h1t:lg q.abs≠[49]:=by simpa using h2
   gi_wp2_with (refine⟨trivial,?_⟩;gi_at_call 167;rw[show(⟨(lg q.abs).toArray⟩:ByteArray)++⟨#[32]⟩=⟨(lg q.abs++[32]).toArray⟩from bv0 _ [32]];refine(au.2 (hB4.wr (lg q.abs++[32]) (by simp only[cJ,an,bo];omega) (by simp only[cJ];omega))).mono ?_;rintro e w5 ⟨⟨r,rfl⟩,hB5⟩)
   gi_wp2_with (refine⟨trivial,?_⟩;gi_at_call 167;refine(au.2 (hB5.wr [120] (by decide) (by simp only[cJ,an,bo];omega))).mono ?_;rintro e w6 ⟨⟨r6,rfl⟩,hB6⟩)
   ·rename_i h6 K21 hK21;have qI:=Ai i w6 _ (YM hM hB6.t.bel).2
    gi_wp2_with (refine⟨trivial,?_⟩;gi_at_call 169;refine(au.2 qI).mono ?_;clear qI;rintro e w7 ⟨rfl,hb7⟩)
    have hB7:=hB6.call hb7
    gi_wp2_with (refine⟨trivial,?_⟩;gi_at_call 167;rw[show(⟨#[94]⟩:ByteArray)++⟨(dec i).toArray⟩=⟨([94]++dec i).toArray⟩from bv0 [94] _];refine(au.2 (hB7.wr ([94]++dec i) (by simp only[cJ,an,bo];omega) (by simp only[cJ,an,bo];omega))).mono ?_;rintro e w8 ⟨⟨r8,rfl⟩,hB8⟩)
    exact hback _ _ rfl rfl rfl rfl (by rw[htx,SQ,aG hq0,aG hi0,aG h1t,aK (by omega)];exact hB8.t)
   ·rename_i h6;exact hback _ _ rfl rfl rfl rfl (by rw[htx,SQ,aG hq0,aG hi0,aG h1t,aG (by omega),bw];exact hB6.t)
  ·rename_i h1 h2 K20 hK20 K57 hK57;have hi0:i≠0:=by simpa using h1
   have h1t:lg q.abs=[49]:=by simpa using h2
   gi_wp2_with (refine⟨trivial,?_⟩;gi_at_call 167;refine(au.2 (hB4.wr [120] (by decide) (by simp only[cJ,an,bo];omega))).mono ?_;rintro e w6 ⟨⟨r6,rfl⟩,hB6⟩)
   ·rename_i h6 K21 hK21;have qI:=Ai i w6 _ (YM hM hB6.t.bel).2
    gi_wp2_with (refine⟨trivial,?_⟩;gi_at_call 169;refine(au.2 qI).mono ?_;clear qI;rintro e w7 ⟨rfl,hb7⟩)
    have hB7:=hB6.call hb7
    gi_wp2_with (refine⟨trivial,?_⟩;gi_at_call 167;rw[show(⟨#[94]⟩:ByteArray)++⟨(dec i).toArray⟩=⟨([94]++dec i).toArray⟩from bv0 [94] _];refine(au.2 (hB7.wr ([94]++dec i) (by simp only[cJ,an,bo];omega) (by simp only[cJ,an,bo];omega))).mono ?_;rintro e w8 ⟨⟨r8,rfl⟩,hB8⟩)
    exact hback _ _ rfl rfl rfl rfl (by rw[htx,SQ,aG hq0,aG hi0,aK h1t,bw,aK (by omega)];exact hB8.t)
   ·rename_i h6;exact hback _ _ rfl rfl rfl rfl (by rw[htx,SQ,aG hq0,aG hi0,aK h1t,bw,aG (by omega),bw];exact hB6.t)
 obtain⟨b0,b1,b2⟩:=hB2.c
 have hqs:q.num.sign=-1/\q<0\/q.num.sign=1/\¬q<0:=by
  rcases NJ q.num 0 with h | h | h
  ·exact .inl ⟨ny h,Rat.not_le.1 fun e=>by have:=QM.2 e;omega⟩
  ·exact absurd (lL.1 h) hq0
  ·exact .inr ⟨gD h,fun e=>absurd (QM.1 (by omega)) (Rat.not_le.2 e)⟩
 clear h;by_cases hbs:bs=[]
 ·have hb0:((bs.length:Nat):Int)=0:=by rw[hbs];rfl
  have hbl:bs.length=0:=by rw[hbs];rfl
  rcases hqs with⟨hsg,hqn⟩ | ⟨hsg,hqn⟩
  ·gi_wp2_with (refine⟨trivial,?_⟩;gi_at_call 166;refine(au.2 hB2.len).mono ?_;rintro e w3 ⟨rfl,hB3⟩;obtain⟨b0,b1,b2⟩:=hB3.c)
   gi_wp2_with (refine⟨trivial,?_⟩;gi_at_call 23;refine(au.2 (hB3.sign hM hri)).mono ?_;rintro e w4 ⟨rfl,hB4⟩;obtain⟨b0,b1,b2⟩:=hB4.c)
   gi_wp2_with (refine⟨trivial,?_⟩;gi_at_call 167;refine(au.2 (hB4.wr [45] (by decide) (by omega))).mono ?_;rintro e w5 ⟨⟨r,rfl⟩,hB5⟩)
   exact htail _ _ rfl rfl rfl rfl rfl (by rw[Nu,aK hbs,aK hqn];exact hB5)
  ·gi_wp2_with (refine⟨trivial,?_⟩;gi_at_call 166;refine(au.2 hB2.len).mono ?_;rintro e w3 ⟨rfl,hB3⟩;obtain⟨b0,b1,b2⟩:=hB3.c)
   gi_wp2_with (refine⟨trivial,?_⟩;gi_at_call 23;refine(au.2 (hB3.sign hM hri)).mono ?_;rintro e w4 ⟨rfl,hB4⟩;obtain⟨b0,b1,b2⟩:=hB4.c)
   gi_wp2_with (refine⟨trivial,?_⟩;gi_at_call 166;refine(au.2 hB4.len).mono ?_;rintro e w5 ⟨rfl,hB5⟩;obtain⟨b0,b1,b2⟩:=hB5.c)
   refine⟨trivial,?_⟩;rename_i Kz hKz;refine hKz _ _ ?_
   gi_wp2_with (refine⟨trivial,?_⟩;gi_at_call 166;refine(au.2 hB5.len).mono ?_;rintro e w6 ⟨rfl,hB6⟩;obtain⟨b0,b1,b2⟩:=hB6.c)
   exact htail _ _ rfl rfl rfl rfl rfl (by rw[Nu,aK hbs,aG hqn,bw];exact hB6)
 ·have hb0:¬((bs.length:Nat):Int)=0:=by have:bs.length≠0:=fun e=>hbs (eV e);omega
  have hbp:(0:Int)<(bs.length:Nat):=by have:bs.length≠0:=fun e=>hbs (eV e);omega
  rcases hqs with⟨hsg,hqn⟩ | ⟨hsg,hqn⟩
  ·gi_wp2_with (refine⟨trivial,?_⟩;gi_at_call 166;refine(au.2 hB2.len).mono ?_;rintro e w3 ⟨rfl,hB3⟩;obtain⟨b0,b1,b2⟩:=hB3.c)
   refine⟨trivial,?_⟩;rename_i Kz hKz;refine hKz _ _ ?_
   gi_wp2_with (refine⟨trivial,?_⟩;gi_at_call 166;refine(au.2 hB3.len).mono ?_;rintro e w4 ⟨rfl,hB4⟩;obtain⟨b0,b1,b2⟩:=hB4.c)
   gi_wp2_with (refine⟨trivial,?_⟩;gi_at_call 23;refine(au.2 (hB4.sign hM hri)).mono ?_;rintro e w5 ⟨rfl,hB5⟩;obtain⟨b0,b1,b2⟩:=hB5.c)
   gi_wp2_with (refine⟨trivial,?_⟩;gi_at_call 167;refine(au.2 (hB5.wr [32,45,32] (by decide) (by omega))).mono ?_;rintro e w6 ⟨⟨r,rfl⟩,hB6⟩)
   exact htail _ _ rfl rfl rfl rfl rfl (by rw[Nu,aG hbs,aK hqn];exact hB6)
  ·gi_wp2_with (refine⟨trivial,?_⟩;gi_at_call 166;refine(au.2 hB2.len).mono ?_;rintro e w3 ⟨rfl,hB3⟩;obtain⟨b0,b1,b2⟩:=hB3.c)
   refine⟨trivial,?_⟩;rename_i Kz hKz;refine hKz _ _ ?_
   gi_wp2_with (refine⟨trivial,?_⟩;gi_at_call 166;refine(au.2 hB3.len).mono ?_;rintro e w4 ⟨rfl,hB4⟩;obtain⟨b0,b1,b2⟩:=hB4.c)
   gi_wp2_with (refine⟨trivial,?_⟩;gi_at_call 23;refine(au.2 (hB4.sign hM hri)).mono ?_;rintro e w5 ⟨rfl,hB5⟩;obtain⟨b0,b1,b2⟩:=hB5.c)
   gi_wp2_with (refine⟨trivial,?_⟩;gi_at_call 166;refine(au.2 hB5.len).mono ?_;rintro e w6 ⟨rfl,hB6⟩;obtain⟨b0,b1,b2⟩:=hB6.c)
   gi_wp2_with (refine⟨trivial,?_⟩;gi_at_call 167;refine(au.2 (hB6.wr [32,43,32] (by decide) (by omega))).mono ?_;rintro e w7 ⟨⟨r,rfl⟩,hB7⟩)
   exact htail _ _ rfl rfl rfl rfl rfl (by rw[Nu,aG hbs,aG hqn];exact hB7)
theorem OF(p:List Rat)(hp:p≠[])(hlast:p.getD (p.length-1) 0≠0)(hb:p.length<1000)
  (hf:∀a∈p,Fit 64 a/\a.num.natAbs<1000000000/\a.den<1000000000) (ht:qx p p.length≠[]) (hlen:∀k,k<p.length+1->(qx p k).length<=1000000):aU prog 73 [.one (sQ p)] (.ret [bS (qx p p.length)]):=by
 refine⟨bC (by kernel_rfl),fun M w vs hM hv=>?_⟩;obtain⟨v,rfl,hv⟩:=sj hv;refine(aT0 M w hM v p hv.1 hp hlast hb hf ht fun k hk=>hlen k (by omega)).mono ?_;rintro e w' ⟨rfl,hb⟩;exact⟨hb,[_],rfl,⟨rfl,rfl⟩,trivial⟩
theorem cg9:aU prog 73 [.one (sQ [-1,9/2,-3,1/2])] (.ret [bS [49,47,50,32,120,94,51,32,45,32,51,32,120,94,50,32,43,32,57,47,50,32,120,32,45,32,49]]):=by
 have h:=OF [-1,9/2,-3,1/2] (by decide) (by decide +kernel) (by decide) (by unfold Fit;decide +kernel) (by decide +kernel) (by decide +kernel)
 rwa[show qx [-1,9/2,-3,1/2] ([-1,9/2,-3,1/2]:List Rat).length=[49,47,50,32,120,94,51,32,45,32,51,32,120,94,50,32,43,32,57,47,50,32,120,32,45,32,49] by decide +kernel]at h
theorem bV0:aU prog 73 [.one (sQ [0,0,3,-2])] (.ret [bS [45,50,32,120,94,51,32,43,32,51,32,120,94,50]]):=by
 have h:=OF [0,0,3,-2] (by decide) (by decide +kernel) (by decide) (by unfold Fit;decide +kernel) (by decide +kernel) (by decide +kernel)
 rwa[show qx [0,0,3,-2] ([0,0,3,-2]:List Rat).length=[45,50,32,120,94,51,32,43,32,51,32,120,94,50] by decide +kernel]at h
theorem ch2:aU prog 73 [.one (sQ [2,-1])] (.ret [bS [45,120,32,43,32,50]]):=by
 have h:=OF [2,-1] (by decide) (by decide +kernel) (by decide) (by unfold Fit;decide +kernel) (by decide +kernel) (by decide +kernel)
 rwa[show qx [2,-1] ([2,-1]:List Rat).length=[45,120,32,43,32,50] by decide +kernel]at h
end Go.Sy
namespace Go.Sy
open Go Go.Proofs Tryz Ord
def kJ:Tr:=hx154Q 
def aQ8:Tr:=eB 54 0 3 3 125 (aR 55 0 (re 35 0 1 28 129 (bW 56 3 46 130 (Lq 74 57 131 9 (.need (.prim [(W 58 0),(.one (.c (.k (.string ⟨#[51]⟩))))] none) (.binOp .eql 9 (tT 132) (.const (.string ⟨#[51]⟩)) 9) 4 false (cH 59))))) kJ)
def bc3:Tr:=aR 50 0 (eB 36 0 0 54 115 (aR 51 0 (al 34 0 119 28 (eB 52 0 5 3 120 (aR 53 0 (al 35 0 124 28 aQ8) kJ))) kJ)) kJ
def aQ7:Tr:=Cv 73 44 102 98 9 (.need (.prim [(W 45 0),(.one (.c (.k (.string ⟨#[45,50,32,120,94,51,32,43,32,51,32,120,94,50]⟩))))] none) (.binOp .eql 9 (tT 103) (.const (.string ⟨#[45,50,32,120,94,51,32,43,32,51,32,120,94,50]⟩)) 9) 4 false (aR 46 0 (re 19 1 1 29 108 (dh 47 98 109 (Cv 73 48 110 98 9 (.need (.prim [(W 49 0),(.one (.c (.k (.string ⟨#[45,120,32,43,32,50]⟩))))] none) (.binOp .eql 9 (tT 111) (.const (.string ⟨#[45,120,32,43,32,50]⟩)) 9) 4 false bc3)))) kJ))
def bb9:Tr:=.need (.prim [(W 39 0),(.one (.c (.k (.string ⟨#[49,47,50,32,120,94,51,32,45,32,51,32,120,94,50,32,43,32,57,47,50,32,120,32,45,32,49]⟩))))] none) (.binOp .eql 9 (tT 91) (.const (.string ⟨#[49,47,50,32,120,94,51,32,45,32,51,32,120,94,50,32,43,32,57,47,50,32,120,32,45,32,49]⟩)) 9) 4 false (aR 40 0 (Lq 74 9 94 9 (.need (.prim [(W 41 0),(.one (.c (.k (.string ⟨#[54]⟩))))] none) (.binOp .eql 9 (tT 95) (.const (.string ⟨#[54]⟩)) 9) 4 false (aR 42 0 (re 15 1 0 29 100 (dh 43 98 101 aQ7)) kJ))) kJ)
def aT1:Tr:=yC 71 30 78 205 28 (ax3 2 4 (yC 71 32 80 205 28 (.need (.call 36 [(W 31 0),(WK 1),(W 33 0),(G3 28)] [none,none,none]) (.call ⟨.value (.func 36),#[(tT 79),(.const (I3 1)),(tT 81),(tT 82)],#[28,3,28,46]⟩) 78 false (re 4 1 1 29 88 (dh 37 98 89 (Cv 73 38 90 98 9 bb9))))))
def aX1:Tr:=my 24 1 3 64 (aR 25 0 kJ (al 19 1 69 29 (my 26 2 3 70 (aR 27 0 kJ (.need (.call 72 [(WK 1),(WK 2)] [(some 3),none]) (.call ⟨.value (.func 72),#[(.const (I3 1)),(.const (I3 2))],#[2,2]⟩) 55 false (.need (.lit 1 [[(.k (.int .i64 0))],[(.k (.int .i64 0))],[(.k (.int .i64 1))],[(.k (.int .i64 1))]]) (.buildSlice 205 4 #[(0,(.const (I3 0))),(1,(.const (I3 0))),(2,(.const (I3 1))),(3,(.const (I3 1)))]) 205 false aT1))))))
def be2:Tr:=my 10 0 54 51 (aR 21 0 kJ (my 16 0 54 54 (aR 22 0 kJ (my 20 0 54 58 (aR 23 0 kJ (al 15 1 63 29 aX1))))))
def aZ1:Tr:=yC 71 11 36 205 28 (ax3 0 1 (yC 71 13 38 205 28 (fO 50 [(W 12 0),(W 14 0),(.agg [tN,(tE (.bool false)),tN]),(.agg [tN,(tE (.bool false)),tN])] [(some 2),none] [37,39,40,41] [28,28,46,46] 57 false (.need (.lit 1 [[(.k (.int .i64 0))],[(.k (.int .i64 0))],[(.k (.int .i64 1))],[(.k (.int .i64 2))],[(.k (.int .i64 2))]]) (.buildSlice 205 5 #[(0,(.const (I3 0))),(1,(.const (I3 0))),(2,(.const (I3 1))),(3,(.const (I3 2))),(4,(.const (I3 2)))]) 205 false (yC 71 17 46 205 28 (.need (.call 34 [(W 18 0),(WK 1),(WK 1)] [(some 2),none]) (.call ⟨.value (.func 34),#[(tT 47),(.const (I3 1)),(.const (I3 1))],#[28,3,3]⟩) 57 false be2))))))
def bq9:Tr:=my 5 0 54 22 (aR 6 0 kJ (al 4 1 26 29 (my 7 2 3 27 (aR 8 0 kJ (fO 20 [(G2 4)] [(some 3),none] [31] [31] 55 false (ax3 0 1 aZ1))))))
def bw7:Tr:=bn3 2 (yC 71 0 15 205 28 (bn3 0 (yC 71 2 17 205 28 (UC 49 1 3 0 2 16 18 28 28 57 bq9))))
theorem aw7:aV prog f14 ck []=bw7:=by kernel_rfl
theorem mu(zs:List Int)(qs:List Rat)(h:zs.map (fun(z:Int)=>(z:Rat))=qs)(hz:∀z∈zs,-9223372036854775808<=z/\z<9223372036854775808)(hl:zs.length<1099511627776):aU prog 71 [.one (.slice 1 (zs.map zI))] (.ret [.one (sQ qs)]):=by subst h;exact aS1 zs hz hl
theorem aV0:aU prog 20 [.agg (yY [0,1,2] [[0,3/2,0,-1/2],[-1,9/2,-3,1/2]])] (.ret [qT 6,.one (.int .i64 0)]):=by
 have h:=aW6 [0,1,2] [[0,3/2,0,-1/2],[-1,9/2,-3,1/2]] 62 (by decide +kernel) ⟨by omega,by omega,by decide +kernel,by decide +kernel,by decide,by decide⟩
 rwa[show LU [0,1,2] [[0,3/2,0,-1/2],[-1,9/2,-3,1/2]] ([[0,3/2,0,-1/2],[-1,9/2,-3,1/2]]:List (List Rat)).length=6 by decide +kernel]at h
theorem bg7:aU prog 50 [.one (sQ [0,1]),.one (sQ [0,1]),.agg z3,.agg z3] (.ret [.agg (yY [0,1] [[0,0,3,-2]]),.one (.int .i64 0)]):=bp4.sub ⟨aC.Sub.same,aC.Sub.same,nA,nA,trivial⟩
theorem rn  :aU prog 14 [] (.ret [.one (.bool true)]):=by
 refine dF (args:=[]) (ins:=[]) (hints:=(fun _=>none)) fo (by kernel_rfl) func14 trivial ?_;rw[aw7];dsimp only[List.map,In.env,aE,aF];apply eL (us:=([0,1,2]:List Int).map zI);apply aA (mu [0,1,2] [0,1,2] (by decide +kernel) (by decide) (by decide));apply eL (us:=([0,1,0]:List Int).map zI);apply aA (mu [0,1,0] [0,1,0] (by decide +kernel) (by decide) (by decide));dsimp only[aE,aF];apply aA bO2;apply vn fC;refine vs _ rfl ?_ ?_<;>intro h6
 ·exact absurd rfl h6
 apply vn (aP sO (aI _));apply vn fC;dsimp only[aE,aF];refine vs _ rfl ?_ ?_<;>intro h10
 ·exact absurd rfl h10
 apply aA aV0;apply eL (us:=([0,1]:List Int).map zI);apply aA (mu [0,1] [0,1] (by decide +kernel) (by decide) (by decide));apply eL (us:=([0,1]:List Int).map zI);dsimp only[aE,aF];apply aA (mu [0,1] [0,1] (by decide +kernel) (by decide) (by decide));apply aA bg7;apply eL (us:=([0,0,1,2,2]:List Int).map zI);apply aA (mu [0,0,1,2,2] [0,0,1,2,2] (by decide +kernel) (by decide) (by decide));dsimp only[aE,aF];apply aA bz0;apply vn fC;refine vs _ rfl ?_ ?_<;>intro h22
 ·exact absurd rfl h22
 apply vn fC;refine vs _ rfl ?_ ?_<;>intro h25
 ·exact absurd rfl h25
 apply vn fC;dsimp only[aE,aF];refine vs _ rfl ?_ ?_<;>intro h28
 ·exact absurd rfl h28
 apply vn (aP sO (aI _));apply vn fC;refine vs _ rfl ?_ ?_<;>intro h32
 ·exact absurd rfl h32
 apply vn (aP sO (aI _));apply vn fC;dsimp only[aE,aF];refine vs _ rfl ?_ ?_<;>intro h36
 ·exact absurd rfl h36
 apply aA (bD3 1 2);apply eL (us:=([0,0,1,1]:List Int).map zI);apply aA (mu [0,0,1,1] [0,0,1,1] (by decide +kernel) (by decide) (by decide));apply eL (us:=([2,4]:List Int).map zI);dsimp only[aE,aF];apply aA (mu [2,4] [2,4] (by decide +kernel) (by decide) (by decide));rw[show(if(2:Int)=0 then(0:Rat)else((1:Int):Rat)/((2:Int):Rat))=1/2 by decide +kernel];apply aA bt5;apply vn (aJ (f:=cQ) (xs:=[[0,3/2,0,-1/2],[-1,9/2,-3,1/2]]) sO (m:=1) (by omega) rfl rfl);apply vn (bg Yd);dsimp only[aE,aF];apply aA cg9;apply vn xd;refine vs _ rfl ?_ ?_<;>intro h48
 ·apply aA (BF 6 (by decide +kernel) (by decide +kernel) (by decide +kernel) (by decide +kernel));apply vn xd;dsimp only[aE,aF];refine vs _ rfl ?_ ?_<;>intro h51
  ·apply vn (aJ (f:=cQ) (xs:=[[0,0,3,-2]]) sO (m:=0) (by omega) rfl rfl);apply vn (bg Yd);apply aA bV0;apply vn xd;dsimp only[aE,aF];refine vs _ rfl ?_ ?_<;>intro h56
   ·apply vn (aJ (f:=cQ) (xs:=[[0,1],[2,-1]]) sO (m:=1) (by omega) rfl rfl);apply vn (bg Yd);apply aA ch2;apply vn xd;dsimp only[aE,aF];refine vs _ rfl ?_ ?_<;>intro h61
    ·apply vn bj;refine vs _ rfl ?_ ?_<;>intro h63
     ·apply vn (aP ay (aI _));apply vn bj;refine vs _ rfl ?_ ?_<;>intro h66
      ·apply vn (aP ay (aI _));dsimp only[aE,aF];apply vn bj;refine vs _ rfl ?_ ?_<;>intro h69
       ·apply vn (aJ (f:=qC) (xs:=[2,3,4]) ay (m:=1) (by omega) rfl rfl);apply vn (aQ cM (by decide) (by simp) (.inl rfl));apply aA (BF 3 (by decide +kernel) (by decide +kernel) (by decide +kernel) (by decide +kernel));dsimp only[aE,aF];apply vn xd;dsimp only[aE,aF];refine aL ?_;show[aN.one (aC.bool (decide _))]=[aN.one (aC.bool true)];rw[bV (by decide +kernel)]
       exact absurd rfl h69
      exact absurd rfl h66
     exact absurd rfl h63
    exact absurd (by decide +kernel) h61
   exact absurd (by decide +kernel) h56
  exact absurd (by decide +kernel) h51
 exact absurd (by decide +kernel) h48
end Go.Sy
