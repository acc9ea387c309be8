/- Part. -/
import Derived.Test.YtacgmapjhpghkaaGreatDoorRa
import Derived.Laws.Cover3
import Derived.Shelf.Strings.BuilderK
import Derived.Shelf.Strconv.Itoa3
import Derived.Shelf.Strings.Repeat
import Derived.RangeFuncNested
set_option linter.all false
set_option maxHeartbeats 2000000
set_option maxRecDepth 100000
namespace Go.Sy
def ny:=@Go.CallsIn.inRound
def xf:=@Go.Lib.byteCells_length
def wu:=@Go.Lib.byteCells_append
def yG:=@Go.Lib.strCells_eq
def Ut:=@Go.run_equal_slice_nil
def Sp:=@Go.Lib.IsBuilderF.of
open Go Go.Proofs Tryz Ord
def cy8:Tr:=aH4 98 (aY 1 0 (hx221Q ) (aZ9 98 (aR3 98 (qV 3 3))))
def VM:af prog f207 dV [.v none]=cy8:=aS
def aR2:Tr:=.back 0 [lV 9 0]
def aT2:Tr:=en 2 1 17 aR2
def aL1:Tr:=cd 10
def ck7:Tr:=gW 0 0 4 0 98 9 11 (di 5 3 46 12 (OU 23 6 13 3 (ir 7 0 0 3 14 (aY 8 0 aT2 (Ye 2 98 19 20 (mw 207 9 21 98 98 aL1))))))
def ce6:Tr:=bL 0 0 4 98 (Ed 1 (uj .gtr 3 6 0 2 0 4 (aY 3 0 (en 2 1 10 ck7) (Ye 2 98 19 20 (mw 207 4 21 98 98 (cd 5))))))
def bg4:af prog f157 dV [.v none]=ce6:=aS
def ci7:Tr:=xQ 157 0 3 98 98 (bL 1 0 4 98 (en 2 1 5 (cd 3)))
def aw9:af prog f83 dV [.v none]=ci7:=aS
def cf1:Tr:=di 5 4 51 12 (gO 56 [(G4 6)] [none] [13] [51] 3 false (ir 7 0 0 3 14 (aY 8 0 aT2 (Ye 2 102 19 20 (XR 4 64 9 21 102 (qV 4 10))))))
def cr7:Tr:=bL 0 0 4 102 (Ed 1 (uj .gtr 3 6 0 2 0 4 (aY 3 0 (en 2 1 10 (gW 0 0 4 0 102 9 11 cf1)) (Ye 2 102 19 20 (XR 4 64 4 21 102 (qV 4 5))))))
def bo1:af prog f126 dV [.v none]=cr7:=aS
def aC.aO4:aC where
 rep:=fun _ _ v=>∃cap,v=.slice none 0 cap/\cap<=maxLen
 mono:=fun _ h=>h
 one:=by rintro M w v ⟨cap,rfl,_⟩;rfl
def aC.nnS(sz:Nat)(ts:List (List aC)):aC where
 rep:=fun M w v=>(aC.slice sz ts).rep M w v/\∃a l c,v=.slice (some a) l c
 mono:=fun hk h=>⟨aC.mono _ hk h.1,h.2⟩
 one:=fun h=>aC.one _ h.1
def aC.Sub.nn{sz:Nat}{ts:List (List aC)}:(aC.nnS sz ts).Sub (.slice sz ts):=
 .inr ⟨fun M w v h=>by obtain⟨_,a,l,c,rfl⟩:=h;exact⟨some a,l,c,rfl⟩,fun M w v h=>h.1⟩
def Yo{sz:Nat}{ts:List (List aC)}{M:c6}{w:World}{v:Value}(h:(aC.slice sz ts).rep M w v):(ts=[]/\aC.aO4.rep M w v)\/(aC.nnS sz ts).rep M w v:=by
 have h0:=h;obtain⟨a,cap,rfl,hc,hm,hel⟩:=h;cases a with
 | some a=>exact .inr ⟨h0,a,_,_,rfl⟩
 | none=>
   rcases hel with rfl | ⟨b,off,cs,T,fz,e,_⟩
   .exact .inl ⟨rfl,cap,rfl,hm⟩
   .cases e
def FJ{P:j5}{f:FuncId}{sz:Nat}{ts:List (List aC)}{out:Out}(h1:ts=[]->aX P f [.one .aO4] out)(h2:aX P f [.one (.nnS sz ts)] out):aX P f [.one (.slice sz ts)] out:=by
 refine⟨h2.1,fun M w vs hM hv=>?_⟩
 match vs,hv with
 | [v],hv=>
   rcases Yo hv.1 with⟨e,h⟩ | h
   .exact(h1 e).2 M w [v] hM ⟨h,trivial⟩
   .exact h2.2 M w [v] hM ⟨h,trivial⟩
 | [],hv=>exact hv.elim
 | _::_::_,hv=>exact hv.2.elim
section
variable{P:j5}{T U ty:TypeId}{x y:j6}
def aY0{E sz b:Nat}(h:dZ P T=some (E,sz,b)):ao P (.binOp .eql T x y U) ty [.one .aO4,.one (.exact (.slice none 0 0))] (.one (.bool true)):=by
 obtain⟨ie,hu,_⟩:=br h;intro M w ρ o ho ht hr;obtain⟨hx,hy⟩:=tJ (x:=x) (y:=y) hr;obtain⟨cap,hx,_⟩:=hx;have hy:ρ y=.slice none 0 0/\_:=hy;refine⟨.bool true,?_,⟨rfl,rfl⟩⟩;simp[execOp,ho,hx,hy.1,eqGuard,binOp,Ut w T E none 0 cap hu]
def aU5{E sz b sz':Nat}{ts:List (List aC)}(h:dZ P T=some (E,sz,b)):ao P (.binOp .eql T x y U) ty [.one (.nnS sz' ts),.one (.exact (.slice none 0 0))] (.one (.bool false)):=by
 obtain⟨ie,hu,_⟩:=br h;intro M w ρ o ho ht hr;obtain⟨hx,hy⟩:=tJ (x:=x) (y:=y) hr;obtain⟨_,a,l,c,hx⟩:=hx;have hy:ρ y=.slice none 0 0/\_:=hy;refine⟨.bool false,?_,⟨rfl,rfl⟩⟩;simp[execOp,ho,hx,hy.1,eqGuard,binOp,Ut w T E (some a) l c hu]
end
def aB2  :aX prog 207 [(.one .aO4:aQ)] (.ret [.one (.slice 3 [])]):=by
 refine eD func207 VM ?_;apply vn (aY0 mG);refine nI true rfl (fun _=>?_) (fun h=>by cases h);exact gj ⟨aC.Sub.nil,trivial⟩
def au9(ts:List (List aC))(hs:ts.length<1099511627776):aX prog 207 [(.one (.nnS 3 ts):aQ)] (.ret [.one (.slice 3 ts)]):=by
 refine eD func207 VM ?_;apply vn (aU5 mG);refine nI false rfl (fun h=>by cases h) (fun _=>?_);apply et (us:=[]);refine qc (ts:=[]) (us:=ts) (vs:=ts) rfl (.inr aC.Sub.nn) rfl O (by simp only[maxLen];omega) ?_;exact aR
def YE(ts:List (List aC))(hs:ts.length<1099511627776):aX prog 207 [.one (.slice 3 ts)] (.ret [.one (.slice 3 ts)]):=
 FJ (fun e=>by subst e;exact aB2) (au9 ts hs)
def pC{α:Type}(z:α->Bool):List α->Nat
 | []=>0
 | x::xs=>if pC z xs=0/\z x=true then 0 else pC z xs+1
theorem kR{α:Type}{z:α->Bool}:∀l:List α,pC z l<=l.length
 | []=>ah _
 | x::xs=>by
   have:=kR (z:=z) xs;simp only[pC,bB];split<;>omega
theorem uh{α:Type}{z:α->Bool}:∀{l:List α}{n:Nat},n<=l.length->(∀i x,n<=i->l[i]?=some x->z x=true)->(n=0\/∃x,l[n-1]?=some x/\z x=false)->pC z l=n
 | [],n,h,_,_=>by simp at h;subst h;rfl
 | x::xs,n,h,h1,h2=>by
   cases n with
   | zero=>
     have h3:=uh (z:=z) (l:=xs) (n:=0) (dM _) (fun i y _ hy=>h1 (i+1) y (dM _) (by simpa using hy)) (.inl rfl);have h4:=h1 0 x (dM _) rfl;simp[pC,h3,h4]
   | succ n=>
     have h3:=uh (z:=z) (l:=xs) (n:=n) (by simpa using h) (fun i y hi hy=>h1 (i+1) y O (by simpa using hy)) (by
      cases n with
      | zero=>exact .inl rfl
      | succ n=>
        rcases h2 with h2 | ⟨y,hy,hz⟩
        .omega
        .exact .inr ⟨y,by simpa using hy,hz⟩)
     simp only[pC,h3];rw[aG];rintro⟨h4,h5⟩;subst h4;rcases h2 with h2 | ⟨y,hy,hz⟩
     .omega
     .simp at hy;subst hy;rw[h5]at hz;cases hz
theorem XW{α β:Type}{z:β->Bool}(f:α->β):∀l:List α,pC z (l.map f)=pC (fun a=>z (f a)) l
 | []=>rfl
 | x::xs=>by simp only[fj,pC,XW f xs]
abbrev rQ(ps:c4):List (List aC):=ps.map qC
abbrev sQ(ps:c4):aC:=.slice 3 (rQ ps)
abbrev rR(ps:List RQ):List (List aC):=ps.map rC
abbrev sR(ps:List RQ):aC:=.slice 4 (rR ps)
def zr(q:Rat):Bool:=decide (q=0)
def zrR(a:RQ):Bool:=decide (a.q=0)
def trim(ps:c4):List Rat:=ps.take (pC zr ps)
def rA(ps:List RQ):List RQ:=ps.take (pC zrR ps)
def zB(ps:List RQ):(rA ps).map RQ.q=trim (ps.map RQ.q):=by
 rw[trim,XW,rA,kD];rfl
def Br{q:Rat}:zr q=decide (q.num.sign=0):=by rw[zr,nh];exact sign_zero.symm
def iO(ps:c4):(trim ps).length=pC zr ps:=by rw[trim,bh];have:=kR (z:=zr) ps;omega
def Qh(ps:List RQ):(rA ps).length=pC zrR ps:=by rw[rA,bh];have:=kR (z:=zrR) ps;omega
def Ca{E sz b T:Nat}{α:Type}{f:α->List aC}{ds:List α}{x:j6}{ty:Nat}{y:j6}{k:IntKind}{n:Int}{m:Nat}(h:dZ prog T=some (E,sz,b))(hn:m<=ds.length)(h0:0<=n:=by omega)(hm:n.toNat=m:=by omega):ao prog (.slice T x none (some y) none) ty [.one (.slice sz (ds.map f)),.one (.int k n)] (.one (.slice sz ((ds.take m).map f))):=by
 have:=zE (P:=prog) (T:=T) (x:=x) (y:=y) (ty:=ty) (k:=k) (n:=n) (ts:=ds.map f) h h0 (by rw[aL,hm];exact hn);rw[hm,<-kD]at this;exact this
def CA(ps:c4)(hs:ps.length<1099511627776):aX prog 157 [(.one (sQ ps):aQ)] (.ret [.one (sQ (trim ps))]):=by
 refine eD func157 bg4 ?_;apply vn (ae mG (aL _));refine bZ {n:Nat // n<=ps.length/\∀i q,n<=i->ps[i]?=some q->zr q=true} (fun g=>[.one (.int .i64 g.1)]) (fun g=>g.1) ⟨ps.length,ah _,fun i q hi hq=>by have:=(cL.1 hq).1;omega⟩ ai.rfl (fun _=>rfl) ?_;rintro⟨n,hn,hz⟩;dsimp only[aU,aV]at hn hz|-;apply vn jD;refine l4 ?_ ?_<;>intro h3
 .apply vn (aI O O);dsimp only[aU,aV];obtain⟨q,hq⟩:∃q,ps[n-1]?=some q:=⟨_,bM O⟩
  apply vn (aN mG O O hq);apply vn (ab cb bY aT (.inl rfl));apply aA (mV q);apply vn cW;refine l4 ?_ ?_<;>intro h9
  .apply vn (aI O O)
   exact aq rfl ⟨⟨n-1,O,fun i r hi hr=>by
    rcases gP i n with h | h
    .rw[show i=n-1 by omega,hq]at hr;simp only[aZ]at hr;subst hr;rw[Br];simpa using h9
    .exact hz i r h hr⟩,⟨aQ.Sub.of_eq (congrArg (fun q=>aQ.one (aC.int .i64 q)) (by show(n:Int)-1=((n-1:Nat):Int);omega)),trivial⟩,by show n-1<n;omega⟩
  apply vn (Ca mG hn);dsimp only[aU,aV];have ht:=uh hn hz (.inr ⟨q,hq,by rw[Br];simpa using h9⟩);apply aA (YE _ (by rw[aL,bh];omega)) rfl;dsimp only[aU,aV];rw[trim,ht];exact aR
 apply vn (Ca mG hn);dsimp only[aU,aV];have ht:=uh hn hz (.inl O);apply aA (YE _ (by rw[aL,bh];omega)) rfl;dsimp only[aU,aV];rw[trim,ht];exact aR
def ay5(ps:c4)(hs:ps.length<1099511627776):aX prog 83 [(.one (sQ ps):aQ)] (.ret [.one (.int .i64 ((pC zr ps:Int)-1))]):=by
 refine eD func83 aw9 ?_;have hle:=kR (z:=zr) ps;have htl:=iO ps;apply aA (CA ps hs);apply vn (ae mG (aL _));apply vn (aI O O);dsimp only[aU,aV];rw[<-htl];exact aR
def TS(ps:List RQ)(hs:ps.length<1099511627776):aX prog 126 [(.one (sR ps):aQ)] (.ret [.one (sR (rA ps))]):=by
 refine eD func126 bo1 ?_;apply vn (ae zk (aL _));refine bZ {n:Nat // n<=ps.length/\∀i q,n<=i->ps[i]?=some q->zrR q=true} (fun g=>[.one (.int .i64 g.1)]) (fun g=>g.1) ⟨ps.length,ah _,fun i q hi hq=>by have:=(cL.1 hq).1;omega⟩ ai.rfl (fun _=>rfl) ?_;rintro⟨n,hn,hz⟩;dsimp only[aU,aV]at hn hz|-;apply vn jD;refine l4 ?_ ?_<;>intro h3
 .apply vn (aI O O);dsimp only[aU,aV];obtain⟨q,hq⟩:∃q,ps[n-1]?=some q:=⟨_,bM O⟩
  apply vn (aN zk O O hq);apply vn (ab nH bY aT (.inl rfl));apply aA (BK q);apply vn cW;refine l4 ?_ ?_<;>intro h9
  .apply vn (aI O O)
   exact aq rfl ⟨⟨n-1,O,fun i r hi hr=>by
    rcases gP i n with h | h
    .rw[show i=n-1 by omega,hq]at hr;simp only[aZ]at hr;subst hr;show zr q.q=true;rw[Br];simpa using h9
    .exact hz i r h hr⟩,⟨aQ.Sub.of_eq (congrArg (fun q=>aQ.one (aC.int .i64 q)) (by show(n:Int)-1=((n-1:Nat):Int);omega)),trivial⟩,by show n-1<n;omega⟩
  apply vn (Ca zk hn);dsimp only[aU,aV];have ht:=uh (z:=zrR) hn hz (.inr ⟨q,hq,by show zr q.q=false;rw[Br];simpa using h9⟩);refine qc (ts:=[]) (us:=rR (ps.take n)) (vs:=rR (ps.take n)) rfl (.inr aC.Sub.same) rfl (by rw[aL,bh];omega) (by rw[aL,bh];simp only[maxLen];omega) ?_;dsimp only[aU,aV];rw[rA,ht];exact aR
 apply vn (Ca zk hn);dsimp only[aU,aV];have ht:=uh (z:=zrR) hn hz (.inl O);refine qc (ts:=[]) (us:=rR (ps.take n)) (vs:=rR (ps.take n)) rfl (.inr aC.Sub.same) rfl (by rw[aL,bh];omega) (by rw[aL,bh];simp only[maxLen];omega) ?_;dsimp only[aU,aV];rw[rA,ht];exact aR
open Go Go.Proofs Go.RowKit Go.Shelf Tryz Ord
attribute [local go_sem] Oper.semAt_some
section
variable{α:Type}[Inhabited α]{e0 e1 e2:α->Value}
def ay8(l Bs n₀ b off cap:Nat)(vs:List α)(hlen:vs.length<4611686018427387904)(hb:b<n₀)(J Jx:List (Nat×α)->World->Prop)
  (hY:∀pre x W,J pre W->pre.length<vs.length->YieldAt Fence.wide (1000-1) prog l #[.int .i64 (x.1:Int),(.agg #[e0 x.2,e1 x.2,e2 x.2])] W fun e W'=>
   (e=.returned (.bool true)/\J (pre++[x]) W'/\KpB n₀ Bs W W')\/(e=.returned (.bool false)/\Jx (pre++[x]) W'))
  (W:World) (hBs:W.cell? ⟨Bs,0,none⟩=some (.slice (some ⟨b,off,none⟩) vs.length cap)) (hc:∀j v,vs[j]?=some v->W.cell? ⟨b,off+j*3,none⟩=some (e0 v)/\W.cell? ⟨b,off+j*3+1,none⟩=some (e1 v)/\W.cell? ⟨b,off+j*3+2,none⟩=some (e2 v)) (h0:J [] W) :
  CallsIn Fence.wide 1000 prog 246 #[.func (.yield l) #[] #[],.pointer (some ⟨Bs,0,none⟩)] W fun e W'=>(∃v,e=.returned v) /\
   ((∃ys,ys=bk vs vs.length/\J ys W')\/(∃pre,(∃k,k<=vs.length/\pre=bk vs k)/\Jx pre W')):=by
 refine jF func246 rfl trivial ?_ rfl;simp only[ntmps246,cq,bB,bu,Nat.reduceAdd,Nat.reduceSub,eE,eF,eJ,eI,List.nil_append,List.cons_append];obtain⟨N,hN⟩:∃N,vs.length=N:=⟨_,rfl⟩
 rw[hN]at hBs hY hlen|-
 gi_wp2
 gi_loopw [3] (fun i wr=>∃k:Nat,k<=N/\i=.int .i64 ((N:Int)-1-k)/\J (bk vs k) wr/\Below n₀ W wr/\wr.cell? ⟨Bs,0,none⟩=some (.slice (some ⟨b,off,none⟩) N cap))
  (fun i _=>(intOf i+1).toNat)
 case atStart=>exact⟨0,dM _,aT,h0,cS _ _,hBs⟩
 case round=>
  obtain⟨k,hk,rfl,hJs,hnx,hBx⟩:=hrel;have hmeas:(intOf (.int .i64 ((N:Int)-1-k))+1).toNat=N-k:=by simp[intOf];omega
  by_cases hlt:k<N
  .have hv:vs[N-1-k]?=some (vs[N-1-k]?.getD default):=by rw[bM O];rfl
   obtain⟨hx0,hx1,hx2⟩:=hc _ _ hv;have hcx0:=(hnx.cell (p:=⟨b,off+(N-1-k)*3,none⟩) hb).trans hx0;have hcx1:=(hnx.cell (p:=⟨b,off+(N-1-k)*3+1,none⟩) hb).trans hx1;have hcx2:=(hnx.cell (p:=⟨b,off+(N-1-k)*3+2,none⟩) hb).trans hx2;clear hx0 hx1 hx2;obtain⟨fn,tmps,assign,body,hy,hR⟩:=hY _ (N-1-k,vs[N-1-k]?.getD default) wr hJs (by rw[OB];exact hlt);generalize hx:vs[N-1-k]?.getD default=x at hy hR hcx0 hcx1 hcx2;have hsucc:bk vs (k+1)=bk vs k++[(N-1-k,x)]:=by rw[SO,hN,hx]
   have e1:(N:Int)-1-k=((N-1-k:Nat):Int):=O
   have hn1:N-1-k<N:=O
   rw[e1]
   gi_wp2
   refine hR.mono ?_;rintro e W3 (⟨rfl,hJ3,hk3⟩ | ⟨rfl,hJx3⟩)
   .gi_wp2
    go_roundw
    case rel=>exact⟨k+1,O,by congr 1;omega,by rw[hsucc];exact hJ3,hnx.trans hk3.1,hk3.2 _ hBx⟩
    case measure=>simp[intOf]
   .gi_wp2
    refine gB (BZ rfl _ _ _) rfl ?_;exact⟨⟨_,rfl⟩,.inr ⟨_,⟨k+1,O,rfl⟩,by rw[hsucc];exact hJx3⟩⟩
  .obtain rfl:k=N:=O
   gi_wp2
   go_end0
   exact⟨⟨_,rfl⟩,.inl ⟨_,rfl,hJs⟩⟩
def Zi{α:Type}(l Bs:Nat)(a:j9)(cap:Nat)(J:List (Nat×α)->World->Prop)(W:World)(hBs:W.cell? ⟨Bs,0,none⟩=some (.slice a 0 cap))(h0:J [] W) :
  CallsIn Fence.wide 1000 prog 246 #[.func (.yield l) #[] #[],.pointer (some ⟨Bs,0,none⟩)] W fun e W'=>(∃v,e=.returned v)/\J [] W':=by
 refine jF func246 rfl trivial ?_ rfl;simp only[ntmps246,cq,bB,bu,Nat.reduceAdd,Nat.reduceSub,eE,eF,eJ,eI,List.nil_append,List.cons_append]
 gi_wp2
 gi_loopw [3] (fun i wr=>i=.int .i64 (-1)/\J [] wr) (fun _ _=>0)
 case atStart=>exact⟨rfl,h0⟩
 case round=>
  obtain⟨rfl,hJs⟩:=hrel
  gi_wp2
  go_end0
  exact⟨⟨_,rfl⟩,hJs⟩
def YJ(n:Nat)(a:j9)(len cap:Nat)(w:World) :
  CallsIn Fence.wide n prog 224 #[.slice a len cap] w fun e w'=>e=.returned (.func (.func 246) #[] #[.pointer (some ⟨w.heap.size,0,none⟩)])/\w'=w.alloc (.cells #[.slice a len cap] 98):=by
 refine jF func224 rfl trivial ?_ rfl;simp only[ntmps224,cq,bB,bu,Nat.reduceAdd,Nat.reduceSub,eE,eF,eJ,eI,List.nil_append,List.cons_append]
 gi_wp2
 go_ret
 exact⟨rfl,rfl⟩
def Sl3(e0 e1 e2:α->Value)(n₀:Nat)(W:World)(sv:Value)(vs:List α):Prop:=
 ∃a cap,sv=.slice a vs.length cap/\(vs=[]\/∃b off,a=some ⟨b,off,none⟩/\b<n₀/\∀j v,vs[j]?=some v->W.cell? ⟨b,off+j*3,none⟩=some (e0 v)/\W.cell? ⟨b,off+j*3+1,none⟩=some (e1 v)/\W.cell? ⟨b,off+j*3+2,none⟩=some (e2 v))
def Sl3.below{α:Type}{e0 e1 e2:α->Value}{n₀:Nat}{A B:World}(h:Below n₀ A B){sv:Value}{vs:List α}:Sl3 e0 e1 e2 n₀ A sv vs->Sl3 e0 e1 e2 n₀ B sv vs:=by
 rintro⟨a,cap,e,rfl | ⟨b,off,rfl,hb,hc⟩⟩
 .exact⟨a,cap,e,.inl rfl⟩
 .exact⟨_,cap,e,.inr ⟨b,off,rfl,hb,fun j v hj=>⟨(h.cell (p:=⟨b,off+j*3,none⟩) hb).trans (hc j v hj).1,(h.cell (p:=⟨b,off+j*3+1,none⟩) hb).trans (hc j v hj).2.1,(h.cell (p:=⟨b,off+j*3+2,none⟩) hb).trans (hc j v hj).2.2⟩⟩⟩
def Ao(Bs n₀:Nat)(sv:Value)(vs:List α)(hlen:vs.length<4611686018427387904)(w:World)(hBs:Bs<w.heap.size)(hn₀:n₀<=w.heap.size)
  (hc:w.cell? ⟨Bs,0,none⟩=some sv) (hI:Sl3 e0 e1 e2 n₀ w sv vs) :
  SeqStopsK Fence.wide 1000 prog 246 #[.pointer (some ⟨Bs,0,none⟩)] (fun x:Nat×α=>#[Value.int .i64 (x.1:Int),(Value.agg #[e0 x.2,e1 x.2,e2 x.2])]) (KpB n₀ Bs) (fun ys=>ys=bk vs vs.length) (fun pre=>∃k,k<=vs.length/\pre=bk vs k) vs.length w:=fun l J Jx W hW _ _ hY h0=>by
 have hc':=(hW.cell (p:=⟨Bs,0,none⟩) hBs).trans hc;obtain⟨a,cap,rfl,rfl | ⟨b,off,rfl,hb,hcs⟩⟩:=hI.below (hW.mono hn₀)
 .exact(Zi (α:=α) l Bs a cap J W hc' h0).mono fun e W' ⟨he,hj⟩=>⟨he,.inl ⟨_,rfl,hj⟩⟩
 .exact(ay8 (e0:=e0) (e1:=e1) (e2:=e2) l Bs n₀ b off cap vs hlen hb J Jx hY W hc' hcs h0)
end
end Go.Sy
namespace Go.Sy
open Go Go.Proofs Tryz Ord
def co6:Tr:=aU1 0 31 (fN 5 0 13 5 29 32 4 (aY 14 0 (mh 76 6 7 0 8 0 2 36 37 (Aq 77 9 10 0 11 0 12 0 4 4 1 4 2 4 3 39 40 (.need (.prim [(W 5 0),(.one (.c (.k (.int .u8 1))))] none) (.binOp .add 5 (tT 34) (.const (.int .u8 1)) 5) 5 false (.back 0 [lV 17 0,lV 15 0,lV 15 1,lV 15 2,lV 16 0,lV 16 1,lV 16 2,lV 16 3])))) (.ret [(.agg [(U 6 0),(U 7 0),(U 8 0)]),(.agg [(U 9 0),(U 10 0),(U 11 0),(U 12 0)])])))
def bC7:Tr:=.loop 0 [(.w (.one (.c (.k (.int .u8 0))))),lV 2 0,lV 2 1,lV 2 2,lV 4 0,lV 4 1,lV 4 2,lV 4 3] co6
def cj9:Tr:=ir 0 1 0 2 11 (aY 1 0 (gO 72 [(W 0 0),(WK 1)] [(some 3),none] [16,18] [2,2] 55 false (gO 75 [(W 0 0),(WK 1)] [(some 4)] [23,25] [2,2] 51 true bC7)) (Ww 72 0 0 1 3 16 18 2 2 55 (Pk 75 0 0 1 4 23 25 2 2 51 bC7)))
def bw9:af prog f15 dV [.v (some 3)]=cj9:=aS
def cx0:Tr:=gO 15 [(G3 7)] [(some 3),(some 4)] [19] [27] 52 false (Pm 8 28 24 (oa 3 56 2 10 23 25 28 (ah2 9 32 28 (oa 4 64 3 12 27 29 32 (cT 1 1 3 13 (EI 14 11 13))))))
def cy6:Tr:=.loop 0 [lK 0,.nilrow,.nilrow] (bL 0 0 10 22 (fN 1 0 4 3 9 11 4 (aY 5 0 (gW 0 0 1 0 22 16 17 (di 6 3 27 18 cx0)) (.ret [(.one (.c (.sr 3 2))),(.one (.c (.sr 4 3)))]))))
def bg5:af prog f33 dV [.v none]=cy6:=aS
structure eO where
 n:Int
 d:Int
 pow:Nat
abbrev nC(x:eO):List aC:=[.int .i64 x.n,.int .i64 x.d,.int .u8 x.pow]
abbrev nT(x:eO):aQ:=.agg (nC x)
abbrev sN(l:List eO):aC:=.slice 3 (l.map nC)
structure eO.In(x:eO):Prop where
 n1:-9223372036854775808<=x.n
 n2:x.n<9223372036854775808
 d1:-9223372036854775808<=x.d
 d2:x.d<9223372036854775808
 p:x.pow<256
def eO.b(x:eO):Rat:=(x.n:Rat)/((if x.d=0 then 1 else x.d:Int):Rat)
def eO.v(x:eO):Rat:=x.b^(x.pow%4+1)
theorem _root_.Ord.Fit.pow{B:Nat}{q:Rat}(h:Fit B q)(hB:1<=B):∀n,Fit (B*n+1) (q^n)
 | 0=>by rw[qO];exact(Fit.int (n:=1) (B:=1) O bY).mono O
 | n+1=>by
   rw[kO];exact((Ord.Fit.pow h hB n).mul h).mono (by rw[dr];omega)
def eO.In.fit{x:eO}(h:x.In):Fit 128 x.b:=by
 unfold eO.b;split
 .exact(uJ h.n1 h.n2).div (uJ (n:=1))
 .exact(uJ h.n1 h.n2).div (uJ h.d1 h.d2)
def yC(x:eO)(h:x.In):aX prog 15 [(nT x:aQ)] (.ret [qT x.v,jl (.of x.v)]):=by
 refine eD func15 bw9 ?_;have h1:=h.n1;have h2:=h.n2;have h3:=h.d1;have h4:=h.d2;have h5:=h.p;have hf:=h.fit;have hp:=fun i=>hf.pow O i
 have hm1:∀i,i<4->aX prog 76 [qT (x.b^(i+1)),qT x.b] (.ret [qT (x.b^(i+1+1))]):=fun i hi=>by
  have:=ig (x.b^(i+1)) x.b _ _ (hp (i+1)) hf;rw[<-kO]at this;exact this
 have hm2:∀i,i<4->aX prog 77 [jl (.of (x.b^(i+1))),jl (.of x.b)] (.ret [jl (.of (x.b^(i+1+1)))]):=fun i hi=>by
  have:=zO (.of (x.b^(i+1))) (.of x.b) _ _ (hp (i+1)) hf;rw[RQ.KT,RQ.KT,<-kO]at this;exact this
 apply vn cW;refine l4 ?_ ?_<;>intro h1
 .have hb:x.b=(x.n:Rat)/((1:Int):Rat):=by rw[eO.b,aF h1]
  have ho:=bS0 x.n 1 h.n1 h2;rw[aG O,aG O,<-hb]at ho;apply aA ho;dsimp only[aU,aV];have ho:=by9 x.n 1 h.n1 h2;rw[<-hb]at ho;apply aA ho
  refine bZ {i:Nat // i<=x.pow%4} (fun g=>[.one (.int .u8 g.1),.one (dT (x.b^(g.1+1)).num.natAbs),.one (.bool (decide ((x.b^(g.1+1)).num<0))),.one (dT ((x.b^(g.1+1)).den-1)),.one (.int .i64 (x.b^(g.1+1)).num.sign),.one (bT (x.b^(g.1+1)).num.natAbs),.one (.int .i64 1),.one (bT (x.b^(g.1+1)).den)]) (fun g=>x.pow%4-g.1) ⟨0,dM _⟩ (by
   have e:x.b^(0+1)=x.b:=by rw[kO,qO,Tv]
   simp only[e];exact ai.rfl) (fun _=>rfl) ?_
  rintro⟨i,hi⟩;dsimp only[aU,aV]at hi|-;apply vn nz;apply vn bO;refine l4 ?_ ?_<;>intro h7
  .apply aA (hm1 i O);apply aA (hm2 i O);apply vn WN;dsimp only[aU,aV];exact aq rfl ⟨⟨i+1,O⟩,ai.rfl,by show x.pow%4-(i+1)<x.pow%4-i;omega⟩
  have hie:i=x.pow%4:=O
  subst hie;exact aR
 have hb:x.b=(x.n:Rat)/(x.d:Rat):=by rw[eO.b,aG h1]
 have ho:=bS0 x.n x.d h.n1 h2 h3 h4;rw[aG h1,aG h1,<-hb]at ho;apply aA ho;dsimp only[aU,aV];have ho:=by9 x.n x.d h.n1 h2 h1 h3 h4;rw[<-hb]at ho;apply aA ho
 refine bZ {i:Nat // i<=x.pow%4} (fun g=>[.one (.int .u8 g.1),.one (dT (x.b^(g.1+1)).num.natAbs),.one (.bool (decide ((x.b^(g.1+1)).num<0))),.one (dT ((x.b^(g.1+1)).den-1)),.one (.int .i64 (x.b^(g.1+1)).num.sign),.one (bT (x.b^(g.1+1)).num.natAbs),.one (.int .i64 1),.one (bT (x.b^(g.1+1)).den)]) (fun g=>x.pow%4-g.1) ⟨0,dM _⟩ (by
  have e:x.b^(0+1)=x.b:=by rw[kO,qO,Tv]
  simp only[e];exact ai.rfl) (fun _=>rfl) ?_
 rintro⟨i,hi⟩;dsimp only[aU,aV]at hi|-;apply vn nz;apply vn bO;refine l4 ?_ ?_<;>intro h18
 .apply aA (hm1 i O);apply aA (hm2 i O);apply vn WN;dsimp only[aU,aV];exact aq rfl ⟨⟨i+1,O⟩,ai.rfl,by show x.pow%4-(i+1)<x.pow%4-i;omega⟩
 have hie:i=x.pow%4:=O
 subst hie;exact aR
def au(l:List eO):List Rat:=l.map eO.v
def ec(l:List eO):List RQ:=l.map fun x=>RQ.of x.v
def ye{α β:Type}{f:α->β}{l:List α}{i:Nat}{x:α}(h:l[i]?=some x):(l.take i).map f++[f x]=(l.take (i+1)).map f:=by
 rw[nq,h,cG];rfl
def Cb(l:List eO)(h:∀x∈l,x.In)(hs:l.length<1099511627776:=by omega):aX prog 33 [(.one (sN l):aQ)] (.ret [.one (sQ (au l)),.one (sR (ec l))]):=by
 refine eD func33 bg5 ?_;refine bZ {i:Nat // i<=l.length} (fun g=>[.one (.int .i64 g.1),.rows (rQ ((l.take g.1).map eO.v)),.rows (rR ((l.take g.1).map fun x=>RQ.of x.v))]) (fun g=>l.length-g.1) ⟨0,dM _⟩ ai.rfl (fun _=>rfl) ?_;rintro⟨i,hi⟩;dsimp only[aU,aV]at hi|-;apply vn (ae Ud (aL _));apply vn bO;refine l4 ?_ ?_<;>intro h3
 .obtain⟨x,hx⟩:∃x,l[i]?=some x:=⟨_,bM O⟩
  have hl1:((l.take i).map eO.v).length<=i:=b6
  have hl2:((l.take i).map fun x=>RQ.of x.v).length<=i:=b6
  apply vn (aN Ud O O hx);apply vn (ab cv5 bY aT (.inl rfl));apply aA (yC x (h x (dc hx)));apply et (us:=[qC x.v]);refine kq (xs:=(l.take i).map eO.v) (x:=x.v) (f:=qC) rfl rfl O (by simp only[maxLen];omega) ?_;rw[ye hx];apply et (us:=[rC (RQ.of x.v)]);dsimp only[aU,aV];refine kq (xs:=(l.take i).map fun x:eO=>RQ.of x.v) (x:=RQ.of x.v) (f:=rC) rfl rfl O (by simp only[maxLen];omega) ?_;rw[ye (f:=fun x:eO=>RQ.of x.v) hx];apply vn (aB O O);dsimp only[aU,aV];exact aq rfl ⟨⟨i+1,O⟩,ai.rfl,by show l.length-(i+1)<l.length-i;omega⟩
 rw[show i=l.length by omega,jC];exact aR
def eO.short(x:eO):Bool:=decide (x.pow%4=0/\x.n<=999/\-999<=x.n/\x.d<=999/\-999<=x.d)
open Go
abbrev chr(d:Nat):UInt8:=UInt8.ofNat (48+d)
def im:Nat->Nat->List UInt8
 | 0,_=>[]
 | k+1,n=>im k (n/10)++[chr (n%10)]
abbrev dec(n:Nat):List UInt8:=Lib.decDigits n
def iB{n:Nat}(h:n<10):dec n=[chr n]:=by rw[dec,Lib.decDigits,dif_pos h]
def jz{n:Nat}(h:¬n<10):dec n=dec (n/10)++[chr (n%10)]:=by rw[dec,Lib.decDigits,dif_neg h]
theorem tQ:∀k n,(im k n).length=k
 | 0,_=>rfl
 | k+1,n=>by rw[im,cF,tQ k];rfl
theorem Db:∀j k n,im (j+k) n=im j (n/10^k)++im k n
 | j,0,n=>by simp[im]
 | j,k+1,n=>by
   show im (j+k) (n/10)++[chr (n%10)]=_;rw[Db j k (n/10),im,dy,nK,bw,cN 10]
theorem DQ:∀k n,im k (n%10^k)=im k n
 | 0,_=>rfl
 | k+1,n=>by
   have h1:n%10^(k+1)/10=n/10%10^k:=by
    rw[bw,cN,Nat.mod_mul_right_div_self]
   have h2:n%10^(k+1)%10=n%10:=Nat.mod_mod_of_dvd n ⟨10^k,by rw[bw,cN]⟩;rw[im,im,h1,h2,DQ k]
theorem Px:∀k,im k 0=List.replicate k 48
 | 0=>rfl
 | k+1=>by rw[im,Nat.zero_div,Px k,Nat.zero_mod,am9];rfl
theorem OD:∀k n,0<n/10^k->dec n=dec (n/10^k)++im k n
 | 0,n,_=>by simp[im]
 | k+1,n,h=>by
   rw[bw,cN,<-nK]at h|-;have h10:¬n<10:=fun hn=>by rw[fR hn,Nat.zero_div]at h;omega
   rw[jz h10,OD k (n/10) h,im,dy]
def aS4{k m d:Nat}(hm:0<m)(hd:d<10^k):dec (d+10^k*m)=dec m++im k d:=by
 have hp:0<10^k:=ez O;have e:(d+10^k*m)/10^k=m:=by rw[pn _ _ hp,fR hd,bW]
 rw[OD k _ (by rw[e];exact hm),e,<-DQ k (d+_),uR,fL hd]
def Cd(n:Nat):0<(dec n).length:=by
 by_cases h:n<10
 .rw[iB h];simp
 .rw[jz h,cF];simp
theorem gT:∀{k n:Nat},0<k->n<10^k->(dec n).length<=k
 | k+1,n,_,h=>by
   by_cases h10:n<10
   .rw[iB h10];simp
   .rw[jz h10,cF];have h1:n/10<10^k:=by rw[bw]at h;omega
    have hk:0<k:=by rcases ju k with rfl | h2;· simp at h;omega
                    .exact h2
    have:=gT hk h1;simp;omega
theorem DF:∀{k n:Nat},0<k->n<10^k->im k n=List.replicate (k-(dec n).length) 48++dec n
 | k+1,n,_,h=>by
   by_cases h10:n<10
   .rw[iB h10,im,fR h10,Px,fL h10];rfl
   .have h1:n/10<10^k:=by rw[bw]at h;omega
    have hk:0<k:=by rcases ju k with rfl | h2;· simp at h;omega
                    .exact h2
    rw[jz h10,im,DF hk h1,dy,cF]
    congr 2;simp
def cC0(c:Nat):Lib.repeatL [48] c=List.replicate c 48:=by
 induction c with
 | zero=>rfl
 | succ c ih=>rw[Lib.repeatL,ih,kP];rfl
def aE7{d e:Nat}(hd:d<10)(he:e<10)(h:chr d=chr e):d=e:=by
 have:=congrArg UInt8.toNat h;simp only[chr,UInt8.toNat_ofNat']at this;omega
def yo{d:Nat}(hd:d<10):(chr d).toNat=48+d:=by
 simp only[chr,UInt8.toNat_ofNat'];omega
def OL:∀(n:Nat),∀c∈dec n,48<=c.toNat/\c.toNat<58:=by
 intro n
 induction n using Nat.strongRecOn with
 | ind n ih=>
   intro c hc;by_cases h:n<10
   .rw[iB h]at hc;simp only[da]at hc;subst hc;rw[yo h];omega
   .rw[jz h]at hc;rcases dx.1 hc with hc | hc
    .exact ih _ O c hc
    .simp only[da]at hc;subst hc;rw[yo O];omega
def BB:∀{m n:Nat},dec m=dec n->m=n:=by
 intro m
 induction m using Nat.strongRecOn with
 | ind m ih=>
   intro n h;by_cases hm:m<10
   .by_cases hn:n<10
    .rw[iB hm,iB hn]at h;simp only[Cq,cu]at h;exact aE7 hm hn h
    .rw[iB hm,jz hn]at h;have:=congrArg List.length h;have h2:=Cd (n/10);simp only[cF,bB,bu]at this;omega
   .by_cases hn:n<10
    .rw[jz hm,iB hn]at h;have:=congrArg List.length h;have h2:=Cd (m/10);simp only[cF,bB,bu]at this;omega
    .rw[jz hm,jz hn]at h;obtain⟨h1,h2⟩:=List.append_inj' h rfl;simp only[Cq,cu]at h2;have:=ih (m/10) O h1;have:=aE7 (eC _ O) (eC _ O) h2;omega
def aL4:∀(n:Nat),n≠0->∀c,(dec n).head? = some c->c≠48:=by
 intro n
 induction n using Nat.strongRecOn with
 | ind n ih=>
   intro h0 c hc;by_cases h:n<10
   .rw[iB h]at hc;simp only[UA,aZ]at hc;subst hc;intro e;have:=congrArg UInt8.toNat e;rw[yo h]at this;simp at this;omega
   .rw[jz h]at hc;have h2:=Cd (n/10);rw[List.head?_append]at hc;cases hd:(dec (n/10)).head? with
    | none=>rw[List.head?_eq_none_iff]at hd;rw[hd]at h2;simp at h2
    | some d=>
      rw[hd]at hc;simp only[Option.some_or,aZ]at hc;subst hc;exact ih (n/10) O O d hd
def ai8:dec 1=[49]:=by rw[iB O];rfl
def XE:dec 0=[48]:=by rw[iB O];rfl
def qf(z:Int):List UInt8:=(if z<0 then[45]else[])++dec z.natAbs
def my(q:Rat):List UInt8:=qf q.num++if q.den=1 then[]else 47::dec q.den
def ah7{z:Int}:∀c∈qf z,c≠47:=by
 intro c hc;unfold qf at hc;rcases dx.1 hc with hc | hc
 .split at hc
  .simp only[da]at hc;subst hc;decide
  .cases hc
 .intro e;subst e;have:=(OL _ _ hc).1;simp at this
def aI7{y z:Int}(h:qf y=qf z):y=z:=by
 have hh:∀n:Nat,(dec n).head? ≠ some 45:=fun n e=>by
  have:=(OL n 45 (List.mem_of_head? e)).1;simp at this
 unfold qf at h;split at h<;>split at h
 .have:=BB (aq8 h);omega
 .rename_i h1 h2;rw[List.nil_append]at h;exact(hh _ (by rw[<-h];rfl)).elim
 .rename_i h1 h2;rw[List.nil_append]at h;exact(hh _ (by rw[h];rfl)).elim
 .have:=BB (aq8 h);omega
def cq4{a b a' b':dO}(ha:∀c∈a,c≠47)(ha':∀c∈a',c≠47)(hb:b=[]\/b.head? = some 47)(hb':b'=[]\/b'.head? = some 47)(h:a++b=a'++b'):a=a'/\b=b':=by
 induction a generalizing a' with
 | nil=>
   cases a' with
   | nil=>exact⟨rfl,h⟩
   | cons x a'=>
     rw[List.nil_append,List.cons_append]at h;subst h;rcases hb with hb | hb
     .cases hb
     .simp only[UA,aZ]at hb;exact(ha' x cE hb).elim
 | cons y a ih=>
   cases a' with
   | nil=>
     rw[List.nil_append,List.cons_append]at h;subst h;rcases hb' with hb | hb
     .cases hb
     .simp only[UA,aZ]at hb;exact(ha y cE hb).elim
   | cons x a'=>
     simp only[List.cons_append,Cq]at h;obtain⟨rfl,h⟩:=h;obtain⟨rfl,h2⟩:=ih (fun c hc=>ha c (cg _ hc)) (fun c hc=>ha' c (cg _ hc)) h;exact⟨rfl,h2⟩
def ba1{p q:Rat}(h:my p=my q):p=q:=by
 unfold my at h
 have hh:∀r:Rat,(if r.den=1 then[]else 47::dec r.den)=[]\/(if r.den=1 then[]else 47::dec r.den:List UInt8).head? = some 47:=fun r=>by
  split
  .exact .inl rfl
  .exact .inr rfl
 obtain⟨h1,h2⟩:=cq4 (fun c=>ah7 c) (fun c=>ah7 c) (hh p) (hh q) h;refine Rat.ext (aI7 h1) ?_;split at h2<;>split at h2
 .omega
 .cases h2
 .cases h2
 .simp only[Cq,mQ]at h2;exact BB h2
def bh5{p q:Rat}:my p=my q↔p=q:=⟨ba1,fun h=>by rw[h]⟩
abbrev sT(l:dO):aC:=.str ⟨l.toArray⟩
abbrev bS(l:dO):aQ:=.one (sT l)
section
variable{P:j5}{T U ty:TypeId}{x y z:j6}
def lU{a b:dO}(h:a.length+b.length<=9223372036854775807):ao P (.binOp .add T x y U) ty [bS a,bS b] (bS (a++b)):=by
 have e:(⟨(a++b).toArray⟩:ByteArray)=⟨a.toArray⟩++⟨b.toArray⟩:=by
  apply Tf;rw[am3];simp
 show ao P _ ty _ (.one (.str ⟨(a++b).toArray⟩));rw[e];exact aC5 (by show((a.toArray.size+b.toArray.size:Nat):Int)<=_;simp only[cq];omega)
def bG7{s:dO}{k:IntKind}{n:Int}{c:UInt8}(hu:P.underlying T=some .string)(hc:s[n.toNat]?=some c)(h0:0<=n:=by omega):ao P (.index T x y) ty [bS s,.one (.int k n)] (.one (.int .u8 c.toNat)):=by
 refine au5 hu h0 ?_;obtain⟨hlt,he⟩:=cL.1 hc;have h1:n.toNat<(ByteArray.mk s.toArray).size:=by show _<s.toArray.size;simpa using hlt
 rw[getElem?_pos (ByteArray.mk s.toArray) n.toNat h1,<-he];rfl
def xm(s:dO)(i j:Nat):(ByteArray.mk s.toArray).extract i j=⟨((s.take j).drop i).toArray⟩:=by
 apply Tf;rw[ByteArray.data_extract];simp[as8,mg]
def bi1{s:dO}{k:IntKind}{n:Int}(hu:P.underlying T=some .string)(hn:n.toNat<=s.length)(h0:0<=n:=by omega):ao P (.slice T x (some y) none none) ty [bS s,.one (.int k n)] (bS (s.drop n.toNat)):=by
 have hs:(ByteArray.mk s.toArray).size=s.length:=by show s.toArray.size=_;simp
 have:=bf4 (P:=P) (x:=x) (y:=y) (ty:=ty) (s:=⟨s.toArray⟩) (k:=k) hu h0 (by rw[hs];omega);rw[xm,hs,jC]at this;exact this
def bt3{s:dO}{k k':IntKind}{n m:Int}(hu:P.underlying T=some .string)(hm:m.toNat<=s.length)(h0:0<=n:=by omega)(hn:n<=m:=by omega):ao P (.slice T x (some y) (some z) none) ty [bS s,.one (.int k n),.one (.int k' m)] (bS ((s.take m.toNat).drop n.toNat)):=by
 have hs:(ByteArray.mk s.toArray).size=s.length:=by show s.toArray.size=_;simp
 have:=aG6 (P:=P) (x:=x) (y:=y) (z:=z) (ty:=ty) (s:=⟨s.toArray⟩) (k:=k) (k':=k') hu h0 hn (by rw[hs];omega);rw[xm]at this;exact this
def aF9{a b:dO}:ao P (.binOp .eql T x y U) ty [bS a,bS b] (.one (.bool (decide (a=b)))):=by
 have:decide (a=b)=decide ((ByteArray.mk a.toArray).data=(ByteArray.mk b.toArray).data):=by
  rw[nh];exact⟨fun h=>by rw[h],fun h=>by simpa using congrArg Array.toList h⟩
 rw[this];exact zV
end
def Wm{d:Nat}(h:d<10):(([48,49,50,51,52,53,54,55,56,57]:List UInt8).take (d+1)).drop d=[chr d]:=by
 match d,h with
 | 0,_=>rfl
 | 1,_=>rfl
 | 2,_=>rfl
 | 3,_=>rfl
 | 4,_=>rfl
 | 5,_=>rfl
 | 6,_=>rfl
 | 7,_=>rfl
 | 8,_=>rfl
 | 9,_=>rfl
 | d+10,h=>omega
def aQ8{k H n:Nat}(h:n<2^H)(h0:n/10^k≠0):k<H:=by
 have h1:10^k<=n:=by
  rcases gP n (10^k)with h2 | h2
  .rw[fR h2]at h0;omega
  .exact h2
 have h2:2^k<=10^k:=sL O k;exact(Nat.pow_lt_pow_iff_right (a:=2) O).1 O
def av0(k n:Nat):im 4 (n/10^(4*k)%10000)++im (4*k) n=im (4*(k+1)) n:=by
 have:=DQ 4 (n/10^(4*k));rw[show(10:Nat)^4=10000 by decide]at this;rw[this,<-Db,show 4+4*k=4*(k+1) by omega]
def Vs(k n:Nat):n/10^(4*k)/10000=n/10^(4*(k+1)):=by
 rw[nK,show 4*(k+1)=4*k+4 by omega,eK]
def ac3(i r:Nat):[chr (r/10^i%10)]++im i r=im (i+1) r:=by
 rw[show i+1=1+i by omega,Db];rfl
def ad4(r i:Nat):r/10^i/10=r/10^(i+1):=by rw[nK,bw]
def bX1:Tr:=uj .rem 3 31 10 11 0 3 (cT 15 1 3 32 (.need (.prim [(.one (.c (.k (.string ⟨#[48,49,50,51,52,53,54,55,56,57]⟩)))),(W 14 0),(W 16 0)] none) (.slice 9 (.const (.string ⟨#[48,49,50,51,52,53,54,55,56,57]⟩)) (some (tT 30)) (some (tT 33)) none) 9 false (dw 17 10 9 34 35 (uj .quo 3 37 10 11 0 3 (cT 12 1 3 27 (.back 1 [lV 18 0,lV 19 0,lV 20 0]))))))
def cf3:Tr:=.need (.lit 1 [[(.k (.int .i64 10000))]]) (.buildSlice 47 1 #[(0,(.const (I3 10000)))]) 47 false (gO 219 [(W 3 0),(.one (.c (.sr 1 6)))] [none,none] [18,19] [47,47] 247 false (mw 225 8 23 47 3 (.loop 1 [lV 2 0,lV 9 0,lK 0] (jy 12 0 4 3 25 (aY 13 0 (uj .rem 3 29 10 11 0 3 bX1) (lh 0 10 7))))))
def bS3:Tr:=Ed 2 (.need (.prim [(W 6 0),(WK 0)] none) (.index 9 (tT 40) (.const (I3 0))) 5 false (.need (.prim [(W 7 0),(.one (.c (.k (.int .u8 48))))] none) (.binOp .eql 5 (tT 41) (.const (.int .u8 48)) 5) 4 false (aY 8 0 (aK2 6 9 43 aR2) (jy 0 0 0 3 46 (aY 9 0 (aL9 6 48 aL1) (cd 6))))))
def cr0:Tr:=ir 0 0 0 3 10 (aY 1 0 (.ret [(.one (.c (.k (.string ⟨#[48]⟩))))]) (.loop 0 [(.w (.one (.c (.k (.string ⟨#[]⟩))))),lV 0 1] (bL 3 0 14 47 (uj .gtr 3 15 0 4 0 4 (aY 5 0 cf3 bS3)))))
def aE4:af prog f186 dV [.v (some 2)]=cr0:=aS
def bx4:Tr:=cd 4
def aJ1:Tr:=cd 8
def cw3:Tr:=.need (.prim [(W 2 0),(.one (.c (.k (.string ⟨#[49]⟩))))] none) (.binOp .eql 9 (tT 5) (.const (.string ⟨#[49]⟩)) 9) 4 false (aY 3 0 (OH 186 0 8 49 9 bx4) (Ai 186 0 11 49 9 (.need (.prim [(W 4 0),(.one (.c (.k (.string ⟨#[47]⟩))))] none) (.binOp .add 9 (tT 12) (.const (.string ⟨#[47]⟩)) 9) 9 false (sf 0 14 (OH 186 6 15 49 9 (dw 5 7 9 13 16 aJ1))))))
def cl6:Tr:=sf 0 3 (OH 186 1 4 49 9 cw3)
def be2:af prog f98 dV [.v (some 4)]=cl6:=aS
def co2:Tr:=EG 172 0 2 14 4 (jU 3 0 15 (aY 4 0 (tc 163 0 1 18 42 (gO 171 [(G1 5)] [none] [19] [42] 9 false (aQ4 6 (dw 2 7 9 17 21 aJ1)))) (cd 2)))
def bM2:Tr:=jU 2 0 15 (aY 3 0 (tc 163 0 1 18 42 (gO 171 [(G1 4)] [none] [19] [42] 9 false (aQ4 5 (dw 1 6 9 17 21 (cd 7))))) (cd 1))
def ci9:Tr:=EG 171 0 0 6 9 (aY 0 1 (aL9 1 11 co2) (EG 172 0 2 14 4 bM2))
def an7:af prog f74 dV [.v (some 3)]=ci9:=aS
def cs8:Tr:=OU 74 0 5 9 (gO 98 [(G4 1)] [none] [7] [51] 9 true (ss .eql 9 6 8 2 0 3 0 4 bx4))
def bp8:af prog f29 dV [.v (some 3),.v (some 4)]=cs8:=aS
def xo(z:Int)(H:Nat)(hz:z.natAbs<2^H)(hH:H<=34359738360):aX prog 186 [(zT z:aQ)] (.ret [bS (qf z)]):=by
 refine eD func186 aE4 ?_;have hb:=ib hz;have hb1:(bd 10000).length=1:=by rw[VK];rfl
 obtain⟨n,hn⟩:∃n,z.natAbs=n:=⟨_,rfl⟩
 rw[hn]at hz hb;rw[show zT z=.agg [.int .i64 z.sign,bT n] by rw[<-hn]];apply vn cW;refine l4 ?_ ?_<;>intro h1
 .have hz0:z=0:=Cm.1 h1;subst hz0;rw[show qf 0=[48] by rw[qf,aG O];exact XE];exact aR
 have hn0:n≠0:=fun e=>h1 (by rw[Cm];omega);refine bZ {k:Nat // n/10^(4*(k-1))≠0} (fun g=>[bS (im (4*g.1) n),.one (bT (n/10^(4*g.1)))]) (fun g=>n/10^(4*g.1)) ⟨0,by simpa using hn0⟩ (show ai _ _ by rw[eo,sG,pK];exact ai.rfl) (fun _=>rfl) ?_;rintro⟨k,hk⟩;dsimp only[aU,aV]at hk|-;have hk4:4*(k-1)<H:=aQ8 hz hk;generalize hm:n/10^(4*k)=m;have hmn:m<=n:=by rw[<-hm];exact rm _ _
 have hbm:=gR hmn;apply vn (ae gG (aL _));apply vn jD;refine l4 ?_ ?_<;>intro h6
 .have hm0:m≠0:=fun e=>by subst e;rw[Cr]at h6;simp at h6
  apply et (us:=[[.int .i64 10000]]);dsimp only[aU,aV];have hover:=lp m 10000;rw[show bT 10000=.slice 1 [[.int .i64 10000]] by rw[bT,VK];rfl]at hover;apply aA hover
  apply aA (DE (m%10000) (by
   have:=lE (n:=m%10000) (k:=1) O;omega)) rfl
  dsimp only[aU,aV];have hr:m%10000<10000:=eC _ O;generalize hr':m%10000=r at hr|-;refine bZ {i:Nat // i<=4} (fun g=>[bS (im g.1 r++im (4*k) n),.one (.int .i64 ((r/10^g.1:Nat):Int)),.one (.int .i64 g.1)]) (fun g=>4-g.1) ⟨0,O⟩ (show ai _ _ by rw[sG,pK];exact ai.rfl) (fun _=>rfl) ?_;rintro⟨i,hi⟩;dsimp only[aU,aV]at hi|-;apply vn bO;refine l4 ?_ ?_<;>intro h12
  .have hri:r/10^i<=r:=rm _ _;generalize ht:r/10^i=t at hri|-;have ht10:t%10<10:=eC _ O;apply vn nz;apply vn nz;apply vn (aB O O);dsimp only[aU,aV];apply vn (bt3 un9 (by show _<=10;omega)) rfl;dsimp only[aU,aV];rw[show((t:Int)%10+1).toNat=t%10+1 by omega,show((t:Int)%10).toNat=t%10 by omega,Wm ht10];apply vn (lU (by simp only[cF,tQ,bB,bu];omega)) rfl;apply vn yp;apply vn (aB O O);dsimp only[aU,aV]
   exact aq rfl ⟨⟨i+1,O⟩,ai.of_eq (show[bS ([chr (t%10)]++(im i r++im (4*k) n)),(.one (.int .i64 ((t:Int)/10)):aQ),.one (.int .i64 ((i:Int)+1))]=_ by
    dsimp only;rw[<-dy,<-ht,ac3,<-ad4];rfl),by show 4-(i+1)<4-i;omega⟩
  refine aq rfl ⟨⟨k+1,by rw[lW,hm];exact hm0⟩,?_,?_⟩
  .dsimp only;rw[show i=4 by omega,<-hr',<-hm,av0,Vs];exact ai.rfl
  .show n/10^(4*(k+1))<m;rw[<-Vs,hm];exact sO O O
 have hm0:m=0:=by
  have:bd m=[]:=ep O;exact Fo.1 this
 have hlt:n<10^(4*k):=by
  rcases gP n (10^(4*k))with h | h
  .exact h
  .have:=oC h (ez O);omega
 have hk0:0<4*k:=by
  rcases ju (4*k)with h | h
  .rw[h]at hlt;simp at hlt;omega
  .exact h
 rw[DF hk0 hlt];have hdl:=gT hk0 hlt;have hdp:=Cd n;refine bZ {c:Nat // c<=4*k} (fun g=>[bS (List.replicate g.1 48++dec n)]) (fun g=>g.1) ⟨4*k-(dec n).length,O⟩ ai.rfl (fun _=>rfl) ?_;rintro⟨c,hc⟩;dsimp only[aU,aV]at hc|-;obtain⟨x,hx⟩:∃x,(List.replicate c (48:UInt8)++dec n)[(0:Int).toNat]?=some x:=⟨_,bM (by simp only[cF];show 0<_;omega)⟩
 apply vn (bG7 un9 hx);apply vn cW;refine l4 ?_ ?_<;>intro h25
 .obtain⟨c',rfl⟩:∃c',c=c'+1:=by
   cases c with
   | succ c=>exact⟨c,rfl⟩
   | zero=>
     rw[ak7,List.nil_append]at hx;have h1:=aL4 n hn0 x (by rw[al3];exact hx);exact(h1 (UInt8.toNat_inj.1 (by show x.toNat=48;omega))).elim
  apply vn (bi1 un9 (by simp only[cF,dU];omega)) rfl;dsimp only[aU,aV];exact aq rfl ⟨⟨c',O⟩,ai.rfl,by show c'<c'+1;omega⟩
 obtain rfl:c=0:=by
  cases c with
  | zero=>rfl
  | succ c=>
    rw[kP]at hx;have:x=48:=by simpa using hx.symm
    subst this;exact(h25 rfl).elim
 rw[ak7,List.nil_append];apply vn bO;refine l4 ?_ ?_<;>intro h29
 .apply vn (lU (a:=[45]) (by simp only[bB,bu];omega)) rfl;dsimp only[aU,aV];have hneg:z<0:=by rcases dS z with⟨h,e⟩ | ⟨h,e⟩ | ⟨h,e⟩<;>omega
  rw[show qf z=[45]++dec n by rw[qf,aF hneg,hn]];exact aR
 have hneg:¬z<0:=by rcases dS z with⟨h,e⟩ | ⟨h,e⟩ | ⟨h,e⟩<;>omega
 rw[show qf z=dec n by rw[qf,aG hneg,hn];rfl];exact aR
def FQ(n:Nat):qf (n:Int)=dec n:=by rw[qf,aG O,bj];rfl
def mr{n H:Nat}(h:n<2^H):(dec n).length<=H+1:=
 gT (Nat.succ_pos H) (cM h (bG (sL O H) (gI O (Nat.le_succ H))))
def Wq{z:Int}{H:Nat}(h:z.natAbs<2^H):(qf z).length<=H+2:=by
 have:=mr h;unfold qf;rw[cF];split<;>simp <;> omega
def bp0(a:RQ)(H:Nat)(hf:Fit H a.q)(hH:H<=34359738360:=by omega):aX prog 98 [(jl a:aQ)] (.ret [bS (my a.q)]):=by
 refine eD func98 be2 ?_;have hd:=Wq (z:=(a.q.den:Int)) hf.2;have hn:=Wq hf.1;rw[show my a.q=qf a.q.num++if a.q.den=1 then[]else[47]++dec a.q.den from rfl];apply aA (mO a);apply aA (xo (a.q.den:Int) H hf.2 hH);apply vn (aF9 (b:=[49]));refine l4 ?_ ?_<;>intro h3
 .apply aA (xo a.q.num H hf.1 hH);dsimp only[aU,aV];have h1:a.q.den=1:=BB (by rw[<-FQ,h3,ai8]);rw[aF h1,cB];exact aR
 apply aA (xo a.q.num H hf.1 hH);apply vn (lU (b:=[47]) (by simp only[bB,bu];omega)) rfl;apply aA (mO a);apply aA (xo (a.q.den:Int) H hf.2 hH);apply vn (lU (by simp only[cF,bB,bu];omega)) rfl;dsimp only[aU,aV];have h1:a.q.den≠1:=fun h=>h3 (by rw[FQ,h,ai8]);rw[aG h1,show qf a.q.num++47::dec a.q.den=(qf a.q.num++[47])++qf (a.q.den:Int) by rw[FQ,dy];rfl];exact aR
end Go.Sy
namespace Go.Proofs
open Go.Shelf
def Tryz.zp:Go.Shelf.Ren:=⟨fun | 169=>170 | n=>n,fun | 70=>206 | 9=>9 | 0=>0 | 72=>209 | 37=>207 | 127=>241 | 3=>3 | 5=>5 | n=>n,fun | n=>n⟩
def Tryz.bi2:Go.Proofs.Lays.n169 Tryz.prog Tryz.zp:={
 mixed:=aS
 f169:=Tryz.func170.trans (congrArg some aS)
 t0:=Tryz.underlying0
 a0:=Tryz.isAgg0
 z0:=Tryz.sizeOf0
 v0:=Tryz.zeroValue0
 t3:=Tryz.underlying3
 a3:=Tryz.isAgg3
 z3:=Tryz.sizeOf3
 v3:=Tryz.zeroValue3
 t9:=Tryz.underlying9
 a9:=Tryz.isAgg9
 z9:=Tryz.sizeOf9
 v9:=Tryz.zeroValue9
 t37:=Tryz.underlying207
 a37:=Tryz.isAgg207
 z37:=Tryz.sizeOf207
 v37:=Tryz.zeroValue207
 t70:=Tryz.underlying206
 a70:=Tryz.isAgg206
 z70:=Tryz.sizeOf206
 v70:=Tryz.zeroValue206
 t72:=Tryz.underlying209
 a72:=Tryz.isAgg209
 z72:=Tryz.sizeOf209
 v72:=Tryz.zeroValue209
 t127:=Tryz.underlying241
 a127:=Tryz.isAgg241
 z127:=Tryz.sizeOf241
 v127:=Tryz.zeroValue241 }
def Tryz.xh:Builder.Extra Tryz.prog Tryz.zp:={
 sizeBuilder:=aS
 liesBuilder:=aS
 t5:=Tryz.underlying5
 a5:=Tryz.isAgg5
 z5:=Tryz.sizeOf5
 v5:=Tryz.zeroValue5
 infoByte:=aS
 cellsByte:=aS
 sizeByte:=aS
 neB5:=by decide }
open Go.RowKit in
def Tryz.Builder_String_any_k(B b:Nat)(l:dO)(w:World)(h:Lib.IsBuilderF 209 5 B b (Lib.byteCells l) w)(hBw:B<=w.heap.size) :
  Calls Tryz.prog 170 #[.pointer (some ⟨b,0,none⟩)] w fun e w'=>e=.returned (.string ⟨l.toArray⟩)/\(Lib.IsBuilderF 209 5 B b (Lib.byteCells l) w'/\Below B w w'/\Lib.OthersKept 5 (some b) w w'):=Any.Builder_String_any_k Tryz.bi2 Tryz.xh B b l w h hBw
def Tryz.Th:Go.Shelf.Ren:=⟨fun | 171=>169 | 243=>214 | 246=>236 | 283=>252 | 284=>253 | 285=>254 | 286=>255 | 129=>262 | 317=>261 | 318=>263 | 319=>264 | 320=>265 | 337=>267 | 338=>268 | n=>n,fun | 3=>3 | 9=>9 | 2=>2 | 4=>4 | 171=>280 | 0=>0 | 53=>236 | 37=>207 | 5=>5 | 173=>283 | 212=>292 | 51=>237 | 20=>20 | 213=>293 | 46=>251 | 232=>297 | 233=>298 | n=>n,fun | 17=>0 | 18=>2 | 19=>3 | n=>n⟩
def Tryz.aD9:Go.Proofs.LaysM.n171 Tryz.prog Tryz.Th:={
 mixed:=aS
 f129:=Tryz.func262.trans (congrArg some aS)
 f171:=Tryz.func169.trans (congrArg some aS)
 f243:=Tryz.func214.trans (congrArg some aS)
 f246:=Tryz.func236.trans (congrArg some aS)
 f283:=Tryz.func252.trans (congrArg some aS)
 f284:=Tryz.func253.trans (congrArg some aS)
 f285:=Tryz.func254.trans (congrArg some aS)
 f286:=Tryz.func255.trans (congrArg some aS)
 f317:=Tryz.func261.trans (congrArg some aS)
 f318:=Tryz.func263.trans (congrArg some aS)
 f319:=Tryz.func264.trans (congrArg some aS)
 f320:=Tryz.func265.trans (congrArg some aS)
 f337:=Tryz.func267.trans (congrArg some aS)
 f338:=Tryz.func268.trans (congrArg some aS)
 t0:=Tryz.underlying0
 a0:=Tryz.isAgg0
 z0:=Tryz.sizeOf0
 v0:=Tryz.zeroValue0
 t2:=Tryz.underlying2
 a2:=Tryz.isAgg2
 z2:=Tryz.sizeOf2
 v2:=Tryz.zeroValue2
 t3:=Tryz.underlying3
 a3:=Tryz.isAgg3
 z3:=Tryz.sizeOf3
 v3:=Tryz.zeroValue3
 t4:=Tryz.underlying4
 a4:=Tryz.isAgg4
 z4:=Tryz.sizeOf4
 v4:=Tryz.zeroValue4
 t5:=Tryz.underlying5
 a5:=Tryz.isAgg5
 z5:=Tryz.sizeOf5
 v5:=Tryz.zeroValue5
 t9:=Tryz.underlying9
 a9:=Tryz.isAgg9
 z9:=Tryz.sizeOf9
 v9:=Tryz.zeroValue9
 t20:=Tryz.underlying20
 a20:=Tryz.isAgg20
 z20:=Tryz.sizeOf20
 v20:=Tryz.zeroValue20
 t37:=Tryz.underlying207
 a37:=Tryz.isAgg207
 z37:=Tryz.sizeOf207
 v37:=Tryz.zeroValue207
 t46:=Tryz.underlying251
 a46:=Tryz.isAgg251
 z46:=Tryz.sizeOf251
 v46:=Tryz.zeroValue251
 t51:=Tryz.underlying237
 a51:=Tryz.isAgg237
 z51:=Tryz.sizeOf237
 v51:=Tryz.zeroValue237
 t53:=Tryz.underlying236
 a53:=Tryz.isAgg236
 z53:=Tryz.sizeOf236
 v53:=Tryz.zeroValue236
 t171:=Tryz.underlying280
 a171:=Tryz.isAgg280
 z171:=Tryz.sizeOf280
 v171:=Tryz.zeroValue280
 t173:=Tryz.underlying283
 a173:=Tryz.isAgg283
 z173:=Tryz.sizeOf283
 v173:=Tryz.zeroValue283
 t212:=Tryz.underlying292
 a212:=Tryz.isAgg292
 z212:=Tryz.sizeOf292
 v212:=Tryz.zeroValue292
 t213:=Tryz.underlying293
 a213:=Tryz.isAgg293
 z213:=Tryz.sizeOf293
 t232:=Tryz.underlying297
 a232:=Tryz.isAgg297
 z232:=Tryz.sizeOf297
 v232:=Tryz.zeroValue297
 t233:=Tryz.underlying298
 a233:=Tryz.isAgg298
 z233:=Tryz.sizeOf298
 v233:=Tryz.zeroValue298
 g17:=aS
 g18:=aS
 g19:=aS
 i0:=aS
 i2:=aS
 i3:=aS
 i4:=aS
 i5:=aS
 i9:=aS
 i20:=aS
 i37:=aS
 i46:=aS
 i51:=aS
 i53:=aS
 i171:=aS
 i173:=aS
 i212:=aS
 i232:=aS
 i233:=aS
 m17:=aS
 m18:=aS
 m19:=by kernel_rfl }
open Go.RowKit Go.Sort Go.Lib in
def Tryz.strconv_Itoa(n:Int)(h0:-9223372036854775808<=n)(h1:n<=9223372036854775807)(w:World)(htab:Lib.TabIs Tryz.prog w "internal/strconv.uint64pow10" .u64 Lib.pow10Tab) :
  Calls Tryz.prog 169 #[.int .i64 n] w fun e w'=>e=.returned (.string ⟨(Lib.itoa n).toArray⟩)/\∃k os,w'=grow (w.drewN k) os:=Any.strconv_Itoa Tryz.aD9 n h0 h1 w htab
def Tryz.zz:Go.Shelf.Ren:=⟨fun | 105=>216 | 212=>238 | 99=>239 | 165=>240 | 166=>167 | 170=>166 | 169=>170 | 263=>256 | 264=>257 | 206=>258 | 240=>213 | 241=>259 | 276=>235 | 277=>266 | n=>n,fun | 9=>9 | 3=>3 | 4=>4 | 20=>20 | 0=>0 | 46=>251 | 109=>267 | 5=>5 | 72=>209 | 76=>212 | 51=>237 | 146=>285 | 53=>236 | 148=>287 | 70=>206 | 37=>207 | 75=>211 | 127=>241 | 164=>263 | 80=>137 | n=>n,fun | n=>n⟩
def Tryz.Sb:Go.Proofs.Lays.n105 Tryz.prog Tryz.zz:={
 mixed:=aS
 f99:=Tryz.func239.trans (congrArg some aS)
 f105:=Tryz.func216.trans (congrArg some aS)
 f165:=Tryz.func240.trans (congrArg some aS)
 f166:=Tryz.func167.trans (congrArg some aS)
 f169:=Tryz.func170.trans (congrArg some aS)
 f170:=Tryz.func166.trans (congrArg some aS)
 f206:=Tryz.func258.trans (congrArg some aS)
 f212:=Tryz.func238.trans (congrArg some aS)
 f240:=Tryz.func213.trans (congrArg some aS)
 f241:=Tryz.func259.trans (congrArg some aS)
 f263:=Tryz.func256.trans (congrArg some aS)
 f264:=Tryz.func257.trans (congrArg some aS)
 f276:=Tryz.func235.trans (congrArg some aS)
 f277:=Tryz.func266.trans (congrArg some aS)
 t0:=Tryz.underlying0
 a0:=Tryz.isAgg0
 z0:=Tryz.sizeOf0
 v0:=Tryz.zeroValue0
 t3:=Tryz.underlying3
 a3:=Tryz.isAgg3
 z3:=Tryz.sizeOf3
 v3:=Tryz.zeroValue3
 t4:=Tryz.underlying4
 a4:=Tryz.isAgg4
 z4:=Tryz.sizeOf4
 v4:=Tryz.zeroValue4
 t5:=Tryz.underlying5
 a5:=Tryz.isAgg5
 z5:=Tryz.sizeOf5
 v5:=Tryz.zeroValue5
 t9:=Tryz.underlying9
 a9:=Tryz.isAgg9
 z9:=Tryz.sizeOf9
 v9:=Tryz.zeroValue9
 t20:=Tryz.underlying20
 a20:=Tryz.isAgg20
 z20:=Tryz.sizeOf20
 v20:=Tryz.zeroValue20
 t37:=Tryz.underlying207
 a37:=Tryz.isAgg207
 z37:=Tryz.sizeOf207
 v37:=Tryz.zeroValue207
 t46:=Tryz.underlying251
 a46:=Tryz.isAgg251
 z46:=Tryz.sizeOf251
 v46:=Tryz.zeroValue251
 t51:=Tryz.underlying237
 a51:=Tryz.isAgg237
 z51:=Tryz.sizeOf237
 v51:=Tryz.zeroValue237
 t53:=Tryz.underlying236
 a53:=Tryz.isAgg236
 z53:=Tryz.sizeOf236
 v53:=Tryz.zeroValue236
 t70:=Tryz.underlying206
 a70:=Tryz.isAgg206
 z70:=Tryz.sizeOf206
 v70:=Tryz.zeroValue206
 t72:=Tryz.underlying209
 a72:=Tryz.isAgg209
 z72:=Tryz.sizeOf209
 v72:=Tryz.zeroValue209
 t75:=Tryz.underlying211
 a75:=Tryz.isAgg211
 z75:=Tryz.sizeOf211
 v75:=Tryz.zeroValue211
 t76:=Tryz.underlying212
 a76:=Tryz.isAgg212
 z76:=Tryz.sizeOf212
 v76:=Tryz.zeroValue212
 t109:=Tryz.underlying267
 a109:=Tryz.isAgg267
 z109:=Tryz.sizeOf267
 v109:=Tryz.zeroValue267
 t127:=Tryz.underlying241
 a127:=Tryz.isAgg241
 z127:=Tryz.sizeOf241
 v127:=Tryz.zeroValue241
 t146:=Tryz.underlying285
 a146:=Tryz.isAgg285
 z146:=Tryz.sizeOf285
 v146:=Tryz.zeroValue285
 t148:=Tryz.underlying287
 a148:=Tryz.isAgg287
 z148:=Tryz.sizeOf287
 v148:=Tryz.zeroValue287
 t164:=Tryz.underlying263
 a164:=Tryz.isAgg263
 z164:=Tryz.sizeOf263
 v164:=Tryz.zeroValue263 }
def Tryz.qS:Builder.Extra Tryz.prog Tryz.zz:={
 sizeBuilder:=aS
 liesBuilder:=aS
 t5:=Tryz.underlying5
 a5:=Tryz.isAgg5
 z5:=Tryz.sizeOf5
 v5:=Tryz.zeroValue5
 infoByte:=aS
 cellsByte:=aS
 sizeByte:=aS
 neB5:=by decide }
open Go.RowKit Go.Lib in
def Tryz.strings_Repeat(s:ByteArray)(c:Nat)(w:World)(hc:c<=9223372036854775807)(hlen:s.size*c<=140737488355328) :
  Calls Tryz.prog 216 #[.string s,.int .i64 c] w fun e w'=>e=.returned (.string ⟨(Lib.repeatL s.data.toList c).toArray⟩)/\Below w.heap.size w w':=Any.strings_Repeat Tryz.Sb Tryz.qS s c w hc hlen
end Go.Proofs
namespace Go.Sy
open Go Go.Proofs Go.RowKit Go.Shelf Tryz Ord
attribute [local go_sem] Oper.semAt_some
abbrev D9:={d:Nat // d<1000000000}
instance:Inhabited D9:=⟨⟨0,O⟩⟩
abbrev az8(d:D9):Value:=.int .u32 (d.1:Int)
def tx(L:Nat)(pre:List (Nat×D9)):List UInt8:=pre.foldl (fun t x=>t++if x.1+1<L then im 9 x.2.1 else dec x.2.1) []
def BL(L:Nat)(pre:List (Nat×D9))(x:Nat×D9):tx L (pre++[x])=tx L pre++if x.1+1<L then im 9 x.2.1 else dec x.2.1:=by simp[tx]
def Vi(L:Nat)(x:Nat×D9):(if x.1+1<L then im 9 x.2.1 else dec x.2.1).length<=9:=by
 split
 .rw[tQ];omega
 .exact gT O (by rw[show(10:Nat)^9=1000000000 by decide];exact x.2.2)
def aW0(L:Nat)(pre:List (Nat×D9)):(tx L pre).length<=9*pre.length:=by
 have h:∀(l:List (Nat×D9))(t:dO),(l.foldl (fun t x=>t++if x.1+1<L then im 9 x.2.1 else dec x.2.1) t).length<=t.length+9*l.length:=by
  intro l
  induction l with
  | nil=>intro t;simp
  | cons x l ih=>
    intro t;have h1:=ih (t++if x.1+1<L then im 9 x.2.1 else dec x.2.1);have h2:=Vi L x;rw[cF]at h1;rw[List.foldl_cons,bB];omega
 have:=h pre []
 simpa[tx]using this
theorem aV6(vs:List D9)(h0:∀d,vs.getLast? = some d->d.1≠0):∀k,0<k->k<=vs.length->0<lv ((vs.map Subtype.val).drop (vs.length-k))/\tx vs.length (bk vs k)=dec (lv ((vs.map Subtype.val).drop (vs.length-k)))
 | 0,h,_=>O
 | k+1,_,hk=>by
   have hlt:vs.length-(k+1)<vs.length:=O
   have hlt':vs.length-(k+1)<(vs.map Subtype.val).length:=by rw[aL];exact hlt
   have hget:vs[vs.length-1-k]?=some vs[vs.length-(k+1)]:=by rw[show vs.length-1-k=vs.length-(k+1) by omega];exact bM hlt
   have e1:(vs.map Subtype.val).drop (vs.length-(k+1))=vs[vs.length-(k+1)].1::(vs.map Subtype.val).drop (vs.length-k):=by
    rw[jW hlt',List.getElem_map,show vs.length-(k+1)+1=vs.length-k by omega]
   rw[SO,BL,hget,gH,e1];show 0<val 1000000000 (_::_)/\_=dec (val 1000000000 (_::_));rw[val];rcases ju k with rfl | hk0
   .have hd:vs[vs.length-(0+1)].1≠0:=h0 _ (by rw[ak9];exact hget);have e2:(vs.map Subtype.val).drop (vs.length-0)=[]:=by rw[List.drop_eq_nil_iff,aL];omega
    rw[e2];dsimp only;rw[aG O];simp only[val,eo,cV];exact⟨O,by simp[bk,tx]⟩
   .obtain⟨h1,h2⟩:=aV6 vs h0 k hk0 O;dsimp only;rw[aF O,h2];have h3:(vs[vs.length-(k+1)]).1<10^9:=by rw[show(10:Nat)^9=1000000000 by decide];exact vs[vs.length-(k+1)].2
    have h4:=aS4 (m:=lv ((vs.map Subtype.val).drop (vs.length-k))) h1 h3;rw[show(10:Nat)^9=1000000000 by decide]at h4;have h5:0<lv ((vs.map Subtype.val).drop (vs.length-k)):=h1;exact⟨by show 0<_+1000000000*lv _;omega,h4.symm⟩
def zm{ds:c7}(h:Dg ds):∃vs:List D9,vs.map Subtype.val=ds:=by
 induction ds with
 | nil=>exact⟨[],rfl⟩
 | cons d ds ih=>
   obtain⟨vs,hv⟩:=ih fun x hx=>h x (cg _ hx);exact⟨⟨d,h d cE⟩::vs,by rw[fj,hv]⟩
def LY(w:World)(k:Nat)(os:Array Obj):Below w.heap.size w (Sort.grow (w.drewN k) os):=by
 refine⟨rfl,rfl,rfl,?_,fun j hj=>?_⟩
 .show w.heap.size<=(w.heap++os).size;rw[Array.size_append];omega
 .show(w.heap++os)[j]?=_;exact RU hj
def Cg(n:Nat)(w:World)(M:c6)(hM:Good M w)(hn:n<=9223372036854775807:=by omega) :
  Calls prog 169 #[.int .i64 (n:Int)] w fun e w'=>e=.returned (.string ⟨(dec n).toArray⟩)/\Below w.heap.size w w':=by
 obtain⟨_,T,fz,h⟩:=hM (0,Gc) (by simp[be4.Zy])
 have htab:Lib.TabIs prog w "internal/strconv.uint64pow10" .u64 Lib.pow10Tab:=by
  unfold Lib.TabIs World.var?;rw[show prog.globalNamed "internal/strconv.uint64pow10" = some 0 by kernel_rfl];have h:w.heap[0]?=some (.cells Gc T fz):=h;simp only[Option.bind_some,h];rfl
 refine(Tryz.strconv_Itoa (n:Int) O O w htab).mono ?_;rintro e w' ⟨rfl,k,os,rfl⟩;refine⟨?_,LY w k os⟩;rw[Lib.itoa_nonneg]
def az9(c:Nat)(hc:c<=9)(w:World):Calls prog 216 #[.string ⟨#[48]⟩,.int .i64 (c:Int)] w fun e w'=>e=.returned (.string ⟨(List.replicate c (48:UInt8)).toArray⟩)/\Below w.heap.size w w':=by
 refine(Tryz.strings_Repeat ⟨#[48]⟩ c w O (by show 1*c<=_;omega)).mono ?_;rintro e w' ⟨rfl,h⟩;exact⟨by rw[<-cC0],h⟩
def wZ(B b:Nat)(bs:j0)(s:ByteArray)(w:World)(h:Lib.IsBuilderF 209 5 B b bs w)(hlen:bs.length+s.size<=140737488355328)(hBw:B<=w.heap.size) :
  Calls prog 167 #[.pointer (some ⟨b,0,none⟩),.string s] w fun e w'=>e=.returned (.tuple #[.int .i64 s.size,.nilIface])/\(Lib.IsBuilderF 209 5 B b (bs++Lib.strCells s) w'/\Below B w w'/\Lib.OthersKept 5 (some b) w w'):=
 (Any.Builder_WriteString_k { Tryz.Sb with } Tryz.qS B b bs s w h hlen hBw).mono fun e w' ⟨h1,h2,h3,h4⟩=>⟨h1,.inr h2,h3,h4⟩
def mq{T e B b:Nat}{bs:j0}{A A':World}(h:Lib.IsBuilderF T e B b bs A)(k:∀(j:Nat)(o:Obj),A.heap[j]?=some o->o.isCells=true->A'.heap[j]?=some o):Lib.IsBuilderF T e B b bs A':=by
 have one:∀p,Lib.BuilderAtF T e B b p bs A->Lib.BuilderAtF T e B b p bs A':=by
  rintro p ⟨h1,v,h2,⟨h3,h4⟩,h5⟩;refine⟨h1,v,k _ _ h2 rfl,⟨h3,?_⟩,h5⟩;rcases h4 with h4 | ⟨g,cap,cur,fz,h6,h7,h8,h9⟩
  .exact .inl h4
  .exact .inr ⟨g,cap,cur,fz,h6,h7,k _ _ h8 rfl,h9⟩
 exact h.elim (fun x=>.inl (one _ x)) (fun x=>.inr (one _ x))
def ef{A B:World}{row:Option Nat}(hg:A.grownBy B row)(hr:∀r,row=some r->∃o:Obj,A.heap[r]?=some o/\o.isCells=false){b:Nat}{o:Obj}(ho:A.heap[b]?=some o)(hc:o.isCells=true):B.heap[b]?=some o:=by
 refine(hg.block b (cJ.1 ho).1 fun e=>?_).trans ho;obtain⟨o',ho',hc'⟩:=hr b e.symm;rw[ho]at ho';cases ho';rw[hc]at hc';cases hc'
def bH{W:World}{b T:Nat}{cs:iS}{fz:Nat×Nat}(h:W.heap[b]?=some (.cells cs T fz)){j:Nat}{v:Value}(hj:cs[j]?=some v):W.cell? ⟨b,j,none⟩=some v:=by
 simp only[World.cell?,h]
 simpa using hj
def gS{A A':World}(h:Below A.heap.size A A')(j:Nat)(o:Obj)(ho:A.heap[j]?=some o):A'.heap[j]?=some o:=(h.block j (cJ.1 ho).1).trans ho
def ak0(n:Nat)(a:j9)(len cap:Nat)(w:World) :
  CallsIn Fence.wide n prog 172 #[.agg #[.slice a len cap]] w fun e w'=>e=.returned (.bool (decide ((len:Int)=0)))/\w'=w.alloc (.cells #[.slice a len cap] 42):=by
 refine jF func172 rfl trivial ?_ rfl;simp only[ntmps172,cq,bB,bu,Nat.reduceAdd,Nat.reduceSub,eE,eF,eJ,eI,List.nil_append,List.cons_append]
 gi_wp2
 go_ret
 exact⟨rfl,rfl⟩
def nine{d:Nat}(hd:d<1000000000):∃c:Nat,c<=9/\wrap64 (9-((dec d).length:Int))=(c:Int)/\im 9 d=List.replicate c 48++dec d:=by
 have hd':d<10^9:=by rw[show(10:Nat)^9=1000000000 by decide];exact hd
 have h1:(dec d).length<=9:=gT O hd';refine⟨9-(dec d).length,O,?_,DF O hd'⟩;rw[show(9:Int)-((dec d).length:Int)=((9-(dec d).length:Nat):Int) by omega];have hk:9-(dec d).length<=9:=Nat.sub_le _ _;generalize 9-(dec d).length=k at hk|-;unfold wrap64;omega
def lens(t d:dO)(c:Nat)(hd:d.length<=9)(hc:c<=9)(ht:t.length<=10000000000000:=by omega) :
  (Lib.byteCells t).length+(⟨Array.replicate c 48⟩:ByteArray).size<=140737488355328/\(Lib.byteCells t++Lib.strCells ⟨Array.replicate c 48⟩).length+(⟨d.toArray⟩:ByteArray).size<=140737488355328/\(Lib.byteCells t).length+(⟨d.toArray⟩:ByteArray).size<=140737488355328:=by
 have h1:(⟨Array.replicate c 48⟩:ByteArray).size=c:=Array.size_replicate;have h2:(⟨d.toArray⟩:ByteArray).size=d.length:=cq;rw[cF,Lib.strCells_length,xf,h1,h2];omega
def zH{n0 L cap:Nat}{a:j9}{W0 W W':World}{bs bs':j0}(h2:Below (n0+2) W0 W)(h3:n0+4<=W.heap.size)(h4:W.heap[n0+3]?=some (.cells #[.slice a L cap] 40 (0,0)))
  (hb:Below (n0+2) W W') (ho:∀k o,W.heap[k]?=some o->some k≠some (n0+2)->(∀c fz,o≠.cells c 5 fz)->W'.heap[k]?=some o)
  (h1:Lib.IsBuilderF 209 5 (n0+2) (n0+2) bs W) (h1':Lib.IsBuilderF 209 5 (n0+2) (n0+2) bs' W') :
  KeepsOthers W W'/\KpB n0 (n0+3) W W'/\Lib.IsBuilderF 209 5 (n0+2) (n0+2) bs' W'/\Below (n0+2) W0 W'/\n0+4<=W'.heap.size/\W'.heap[n0+3]?=some (.cells #[.slice a L cap] 40 (0,0)):=by
 have h5:=ho _ _ h4 aT (by intro c fz h;cases h)
 obtain⟨cs,T,fz,hbc⟩:∃cs T fz,W.heap[n0+2]?=some (.cells cs T fz):=by
  rcases h1 with⟨_,v,h,_⟩ | ⟨_,v,h,_⟩
  .exact⟨_,_,_,h⟩
  .exact⟨_,_,_,h⟩
 refine⟨⟨hb.size,fun k o hk hc=>ho k o hk ?_ (by rintro c fz rfl;cases hc)⟩,⟨hb.mono O,fun v hv=>?_⟩,h1',h2.trans hb,bG h3 hb.size,h5⟩
 .rintro e;cases e;rw[hbc]at hk;cases hk;cases hc
 .simp only[World.cell?,h4,h5]at hv|-;exact hv
def ar9(n:Nat)(a:j9)(len cap:Nat)(h:len≠0)(w:World) :
  CallsIn Fence.wide n prog 172 #[.agg #[.slice a len cap]] w fun e w'=>e=.returned (.bool false)/\w'=w.alloc (.cells #[.slice a len cap] 42):=by
 have:=ak0 n a len cap w;rw[dn O]at this;exact this
def ac2(a:j9)(cap:Nat)(w:World) :
  CallsIn Fence.wide 1001 prog 171 #[.agg #[.slice a 0 cap]] w fun e W'=>e=.returned (.string ⟨#[48]⟩)/\Below w.heap.size w W':=by
 refine jF func171 rfl trivial ?_ rfl;simp only[ntmps171,cq,bB,bu,Nat.reduceAdd,Nat.reduceSub,eE,eF,eJ,eI,List.nil_append,List.cons_append]
 gi_wp2_with (refine⟨trivial,?_⟩;gi_at_call 172;refine(ak0 _ _ 0 _ _).mono ?_;rintro e w' ⟨rfl,rfl⟩)
 go_ret
 exact⟨rfl,((cS _ w).alloc (ah _) _).alloc aT _⟩
def aR5(a:j9)(cap:Nat)(vs:List D9)(h0:vs.length≠0)(w:World)(M:c6)(hM:Good M w)(hI:Sl1 az8 w.heap.size w (.slice a vs.length cap) vs)(hlen:vs.length<=1099511627776:=by omega) :
  CallsIn Fence.wide 1001 prog 171 #[.agg #[.slice a vs.length cap]] w fun e W'=>e=.returned (.string ⟨(tx vs.length (bk vs vs.length)).toArray⟩)/\Below w.heap.size w W':=by
 refine rS func171 rfl trivial ?_ rfl;simp only[ntmps171,cq,bB,bu,Nat.reduceAdd,Nat.reduceSub,eE,eF,eJ,eI,List.nil_append,List.cons_append];generalize hL:vs.length=L at hI hlen h0|-
 gi_wp2_with (refine⟨trivial,?_⟩;gi_at_call 172;refine(ar9 _ _ _ _ h0 _).mono ?_;rintro e w' ⟨rfl,rfl⟩)
 gi_wp2_with (refine⟨trivial,?_⟩;gi_at_call 215;refine(CF _ _ _ _ _).mono ?_;rintro e w' ⟨rfl,rfl⟩)
 obtain⟨n0,hn0⟩:∃n0,w.heap.size=n0:=⟨_,rfl⟩
 rw[hn0]at hI|-;obtain⟨W0,hW0⟩:∃W0,((((w.alloc (.cells #[.slice a L cap] 42)).alloc (.cells #[.slice a L cap] 42)).alloc (.cells #[.pointer none,.slice none 0 0] 209)).alloc (.cells #[.slice a L cap] 40))=W0:=⟨_,rfl⟩
 have hs0:W0.heap.size=n0+4:=by rw[<-hW0];simp[hn0]
 have hA0:W0.heap[n0]?=some (.cells #[.slice a L cap] 42 (0,0)):=by rw[<-hW0,dB _ _ _ b6,dB _ _ _ b6,dB _ _ _ b6,<-hn0];exact cr w _
 have hT0:W0.heap[n0+2]?=some (.cells #[.pointer none,.slice none 0 0] 209 (0,0)):=by
  rw[<-hW0,dB _ _ _ b6];have:=cr ((w.alloc (.cells #[.slice a L cap] 42)).alloc (.cells #[.slice a L cap] 42)) (.cells #[.pointer none,.slice none 0 0] 209);rw[cz,cz,hn0]at this;exact this
 have hP0:W0.heap[n0+3]?=some (.cells #[.slice a L cap] 40 (0,0)):=by
  rw[<-hW0];have:=cr (((w.alloc (.cells #[.slice a L cap] 42)).alloc (.cells #[.slice a L cap] 42)).alloc (.cells #[.pointer none,.slice none 0 0] 209)) (.cells #[.slice a L cap] 40);rw[cz,cz,cz,hn0]at this;exact this
 have hB0:Below n0 w W0:=by
  rw[<-hW0];exact((((cS _ w).alloc O _).alloc b6 _).alloc b6 _).alloc b6 _
 rw[hW0];have hG0:Good M W0:=hM.below hn0.symm hB0
 refine RM (w0:=W0) rfl O (gf:=237) (lb:=#[.pointer (some ⟨n0+1+1+1,0,none⟩)]) rfl trivial (wL func237 aS rfl)
  (tn (enc:=az8) (n0+3) n0 (.slice a L cap) vs O W0 O O (bH hP0 rfl) (hI.below hB0)) Xd (XB O O) (cS _ _) (fun _=>rfl)
  (fun pre W=>Lib.IsBuilderF 209 5 (n0+2) (n0+2) (Lib.byteCells (tx L pre)) W/\Below (n0+2) W0 W/\n0+4<=W.heap.size/\W.heap[n0+3]?=some (.cells #[.slice a L cap] 40 (0,0)))
  (fun _ _ _=>False) ?own (fun _=>by intro s A B row hs;exact hs.elim) ?start
  (fun x=>{ tmps:=#[.agg #[.slice a L cap],.pointer (some ⟨n0,0,none⟩),.string ⟨#[]⟩,.pointer (some ⟨n0+1+1,0,none⟩),.int .i64 (x.1:Int),.int .u32 (x.2.1:Int),undef,.agg #[.slice a L cap],.bool false,.pointer (some ⟨n0,0,none⟩),.slice a L cap,.func (.func 237) #[] #[.pointer (some ⟨n0+1+1+1,0,none⟩)],.int .i64 (x.1:Int),.int .u32 (x.2.1:Int),undef,undef,undef,undef,undef,undef,undef,undef,undef,undef,undef,undef,undef,undef,undef,undef,undef],defers:=[] }) ?assign ?body ?done ?stop
 case own=>
  rintro s A A' row ⟨h1,h2,h3,h4⟩ hg hr;exact⟨mq h1 fun j o ho hc=>ef hg (fun r e=>(hr r e).2) ho hc,h2.grown hg O (fun k e=>by have:=(hr k e).1;omega),bG h3 hg.size,ef hg (fun r e=>(hr r e).2) h4 rfl⟩
 case start=>
  exact⟨Sp (.inl ⟨ah _,_,hT0,⟨rfl,.inl ⟨rfl,rfl⟩⟩,by simp[Value.ownBlock]⟩),cS _ _,O,hP0⟩
 case assign=>
  intro l x W K hK
  gi_wp2
  exact hK
 case body=>
  rintro l pre x W ⟨h1,h2,h3,h4⟩ hlt;have hG:Good M W:=hM.below hn0.symm (hB0.trans (h2.mono O));have hA:W.heap[n0]?=some (.cells #[.slice a L cap] 42 (0,0)):=(h2.block n0 O).trans hA0;have cA:W.cell? ⟨n0,0,none⟩=some (.slice a L cap):=bH hA rfl;have hx:x.2.1<1000000000:=x.2.2;obtain⟨c,hc9,hci,hz⟩:=nine hx;have hpl:=aW0 L pre;have htx1:(x.1:Int)<(L:Int)-1->tx L (pre++[x])=tx L pre++List.replicate c 48++dec x.2.1:=fun h=>by rw[BL,aF O,hz,dy]
  have htx2:¬(x.1:Int)<(L:Int)-1->tx L (pre++[x])=tx L pre++dec x.2.1:=fun h=>by rw[BL,aG O]
  have h32:n0+2<=W.heap.size:=O
  rw[hL]at hlt
  obtain⟨lA,lB,lC⟩:=lens (tx L pre) (dec x.2.1) c (by have:(dec x.2.1).length<=9:=gT O (by rw[show(10:Nat)^9=1000000000 by decide];exact hx)
                                                      exact this) hc9
  have hcell:Lib.byteCells (tx L pre)++Lib.strCells ⟨Array.replicate c 48⟩++Lib.strCells ⟨(dec x.2.1).toArray⟩=Lib.byteCells (tx L pre++List.replicate c 48++dec x.2.1):=by
   rw[yG,yG,wu,wu];simp
  have hcell2:Lib.byteCells (tx L pre)++Lib.strCells ⟨(dec x.2.1).toArray⟩=Lib.byteCells (tx L pre++dec x.2.1):=by
   rw[yG,wu]
  by_cases hc:(x.1:Int)<(L:Int)-1
  all_goals gi_wp2_with (refine⟨trivial,?_⟩;gi_at_call 169;refine(ny l (bC.2 (Cg x.2.1 _ M hG))).mono ?_;rintro e w1 ⟨rfl,hb1⟩;have cA1:w1.cell? ⟨n0,0,none⟩=some (.slice a L cap):=(hb1.cell (p:=⟨n0,0,none⟩) (show n0<W.heap.size by omega)).trans cA)
  .rw[hci]
   gi_wp2_with (refine⟨trivial,?_⟩;gi_at_call 216;refine(ny l (bC.2 (az9 c hc9 _))).mono ?_;rintro e w2 ⟨rfl,hb2⟩)
   have b2:Lib.IsBuilderF 209 5 (n0+2) (n0+2) (Lib.byteCells (tx L pre)) w2:=mq (mq h1 fun j o ho _=>gS hb1 j o ho) fun j o ho _=>gS hb2 j o ho;have s2:n0+2<=w2.heap.size:=bG (bG h32 hb1.size) hb2.size;have q:CallsIn (Fence.wide.inRound l) 998 prog 167 #[.pointer (some ⟨n0+1+1,0,none⟩),.string ⟨Array.replicate c 48⟩] w2 fun e w'=>e=.returned (.tuple #[.int .i64 (⟨Array.replicate c 48⟩:ByteArray).size,.nilIface])/\(Lib.IsBuilderF 209 5 (n0+2) (n0+2) (Lib.byteCells (tx L pre)++Lib.strCells ⟨Array.replicate c 48⟩) w'/\Below (n0+2) w2 w'/\Lib.OthersKept 5 (some (n0+2)) w2 w'):=ny l (bC.2 (wZ (n0+2) (n0+2) _ ⟨Array.replicate c 48⟩ w2 b2 lA s2))
   gi_wp2_with (refine⟨trivial,?_⟩;gi_at_call 167;refine q.mono ?_;clear q;rintro e w3 ⟨rfl,b3,hl3,ho3⟩)
   have s3:n0+2<=w3.heap.size:=bG s2 hl3.size;have q:CallsIn (Fence.wide.inRound l) 998 prog 167 #[.pointer (some ⟨n0+1+1,0,none⟩),.string ⟨(dec x.2.1).toArray⟩] w3 fun e w'=>e=.returned (.tuple #[.int .i64 (⟨(dec x.2.1).toArray⟩:ByteArray).size,.nilIface])/\(Lib.IsBuilderF 209 5 (n0+2) (n0+2) ((Lib.byteCells (tx L pre)++Lib.strCells ⟨Array.replicate c 48⟩)++Lib.strCells ⟨(dec x.2.1).toArray⟩) w'/\Below (n0+2) w3 w'/\Lib.OthersKept 5 (some (n0+2)) w3 w'):=ny l (bC.2 (wZ (n0+2) (n0+2) _ ⟨(dec x.2.1).toArray⟩ w3 b3 lB s3))
   gi_wp2_with (refine⟨trivial,?_⟩;gi_at_call 167;refine q.mono ?_;clear q;rintro e w4 ⟨rfl,b4,hl4,ho4⟩)
   rw[hcell,<-htx1 hc]at b4;exact zH h2 h3 h4 ((((hb1.mono h32).trans (hb2.mono (bG h32 hb1.size))).trans hl3).trans hl4) (fun k o ho hk hu=>ho4 k o (ho3 k o (gS hb2 k o (gS hb1 k o ho)) hk hu) hk hu) h1 b4
  .have b1:Lib.IsBuilderF 209 5 (n0+2) (n0+2) (Lib.byteCells (tx L pre)) w1:=mq h1 fun j o ho _=>gS hb1 j o ho;have s1:n0+2<=w1.heap.size:=bG h32 hb1.size;have q:CallsIn (Fence.wide.inRound l) 998 prog 167 #[.pointer (some ⟨n0+1+1,0,none⟩),.string ⟨(dec x.2.1).toArray⟩] w1 fun e w'=>e=.returned (.tuple #[.int .i64 (⟨(dec x.2.1).toArray⟩:ByteArray).size,.nilIface])/\(Lib.IsBuilderF 209 5 (n0+2) (n0+2) (Lib.byteCells (tx L pre)++Lib.strCells ⟨(dec x.2.1).toArray⟩) w'/\Below (n0+2) w1 w'/\Lib.OthersKept 5 (some (n0+2)) w1 w'):=ny l (bC.2 (wZ (n0+2) (n0+2) _ ⟨(dec x.2.1).toArray⟩ w1 b1 lC s1))
   gi_wp2_with (refine⟨trivial,?_⟩;gi_at_call 167;refine q.mono ?_;clear q;rintro e w4 ⟨rfl,b4,hl4,ho4⟩)
   rw[hcell2,<-htx2 hc]at b4;exact zH h2 h3 h4 ((hb1.mono h32).trans hl4) (fun k o ho hk hu=>ho4 k o (gS hb1 k o ho) hk hu) h1 b4
 case done=>
  rintro D ys W hD rfl ⟨h1,h2,h3,h4⟩ hK;have s1:n0+2<=W.heap.size:=O
  have hbW:Below n0 w W:=hB0.trans (h2.mono O)
  gi_wp2_with (refine⟨trivial,?_⟩;gi_at_call 170;refine(bC.2 (Tryz.Builder_String_any_k (n0+2) (n0+2) _ W h1 s1)).mono ?_;rintro e w1 ⟨rfl,b1,hl1,ho1⟩)
  have hne:some D≠some (n0+2):=by intro e;cases e;omega
  have hK1:=ho1 D _ hK hne (by intro c fz h;cases h);refine⟨aT,.inl ⟨_,_,rfl,sV hK1,?_⟩⟩;rw[hn0];refine⟨_,kN rfl _ _ _,rfl,(hbW.trans (hl1.mono O)).trans ?_⟩;exact uV (w:=w) O w1 D _ _ O hK1 rfl rfl
 case stop=>
  rintro D c pre W hD _ h hK;exact h.elim
def SM(n:Nat)(hn:(dg n).length<=1099511627776:=by omega):aX prog 171 [mT n] (.ret [bS (dec n)]):=by
 by_cases h0:n=0
 .subst h0;refine⟨ay aS,fun M w vs hM hv=>?_⟩
  match vs,hv with
  | [v],hv=>
    obtain⟨⟨us,rfl,hus⟩,_⟩:=hv
    match us,hus with
    | [u],hus=>
      obtain⟨a,cap,rfl,hel⟩:=ap4 hus.1;have hl:((dg 0).map (fun d:Nat=>(d:Int))).length=0:=by rw[yj.2 rfl];rfl
      rw[hl];refine((bC (n:=1001)).1 (ac2 a cap w)).mono ?_;rintro e w' ⟨rfl,hb⟩;exact⟨hb,[.string ⟨#[48]⟩],rfl,⟨by rw[XE],rfl⟩,trivial⟩
    | [],hus=>exact hus.elim
    | _::_::_,hus=>exact hus.2.elim
  | [],hv=>exact hv.elim
  | _::_::_,hv=>exact hv.2.elim
 .refine⟨ay aS,fun M w vs hM hv=>?_⟩
  match vs,hv with
  | [v],hv=>
    obtain⟨⟨us,rfl,hus⟩,_⟩:=hv
    match us,hus with
    | [u],hus=>
      obtain⟨ds,hds⟩:=zm (mC n);have hdl:(dg n).length=ds.length:=by rw[<-hds,aL]
      obtain⟨a,cap,rfl,hel⟩:=ap4 hus.1;have hl:((dg n).map (fun d:Nat=>(d:Int))).length=ds.length:=by rw[aL,hdl]
      rw[hl]
      have hI:Sl1 az8 w.heap.size w (.slice a ds.length cap) ds:=by
       refine⟨a,cap,rfl,?_⟩;rcases hel with h | ⟨b,off,rfl,hb,hc⟩
       .left
        have:(dg n).length=0:=by rw[<-aL (f:=fun d:Nat=>(d:Int)),h];rfl
        exact ep O
       .refine .inr ⟨b,off,rfl,hb,fun j v hj=>hc j _ ?_⟩;rw[<-hds,ey,dR,hj];rfl
      have hne:ds.length≠0:=fun h=>h0 (yj.1 (ep O))
      have hlast:∀d,ds.getLast? = some d->d.1≠0:=fun d hd=>by
       refine TJ (B:=1000000000) O n d.1 ?_;show(dg n).getLast? = _;rw[<-hds,List.getLast?_map,hd];rfl
      have ht:=(aV6 ds hlast ds.length O (ah _)).2;rw[fE,gd,hds,jX]at ht;have h1:=aR5 a cap ds hne w M hM.2 hI;rw[ht]at h1;refine((bC (n:=1001)).1 h1).mono ?_;rintro e w' ⟨rfl,hb⟩;exact⟨hb,[.string ⟨(dec n).toArray⟩],rfl,⟨rfl,rfl⟩,trivial⟩
    | [],hus=>exact hus.elim
    | _::_::_,hus=>exact hus.2.elim
  | [],hv=>exact hv.elim
  | _::_::_,hv=>exact hv.2.elim
end Go.Sy
namespace Go.Sy
open Go Go.Proofs Tryz Ord
def UR{n H:Nat}(h:n<2^H):(dg n).length<=H:=Ep (cM h (sL O H))
def bt5(q:Rat)(H:Nat)(hf:Fit H q)(hH:H<=34359738360:=by omega):aX prog 74 [(qT q:aQ)] (.ret [bS (my q)]):=by
 refine eD func74 an7 ?_;have hd:=UR hf.2;have hn:=UR hf.1;have hp:=q.den_pos;have ln:=mr hf.1;have ld:=mr hf.2;rw[show my q=((if q.num<0 then[45]else[])++dec q.num.natAbs)++if q.den=1 then[]else[47]++dec q.den from rfl];apply aA (SM q.num.natAbs);refine l4 ?_ ?_<;>intro h1
 .apply vn (lU (a:=[45]) (by simp only[bB,bu];omega)) rfl;apply aA (vQ (q.den-1));apply vn zo;refine l4 ?_ ?_<;>intro h5
  .apply aA (gJ q);apply aA (SM q.den);apply vn (lU (a:=[47]) (by simp only[bB,bu];omega)) rfl;apply vn (lU (by simp only[cF,bB,bu];omega)) rfl;dsimp only[aU,aV];rw[aF h1,aG O];exact aR
  rw[aF h1,aF O,cB];exact aR
 apply aA (vQ (q.den-1));apply vn zo;refine l4 ?_ ?_<;>intro h14
 .apply aA (gJ q);apply aA (SM q.den);apply vn (lU (a:=[47]) (by simp only[bB,bu];omega)) rfl;apply vn (lU (by simp only[cF,bB,bu];omega)) rfl;dsimp only[aU,aV];rw[aG h1,aG O];exact aR
 rw[aG h1,aF O,cB];exact aR
def bl7(a:Rat)(b:RQ)(B:Nat)(ha:Fit B a)(hb:Fit B b.q)(hB:B<=34359738360):aX prog 29 [qT a,jl b] (.ret [.one (.bool (decide (a=b.q)))]):=by
 refine eD func29 bp8 ?_;apply aA (bt5 a B ha);apply aA (bp0 b B hb);apply vn aF9;rw[show decide (my a=my b.q)=decide (a=b.q) by rw[nh];exact bh5];exact aR
open Go Go.Proofs Go.RowKit Go.Shelf Tryz Ord
attribute [local go_sem] Oper.semAt_some
def av8(a:j9)(cap:Nat)(vs:List D9)(w:World)(M:c6)(hM:Good M w)(hI:Sl1 az8 w.heap.size w (.slice a vs.length cap) vs)(hlen:vs.length<=1:=by omega)(h0:vs.length≠0:=by omega) :
  CallsIn Fence.wide 1001 prog 171 #[.agg #[.slice a vs.length cap]] w fun e W'=>e=.returned (.string ⟨(tx vs.length (bk vs vs.length)).toArray⟩)/\Below w.heap.size w W':=by
 refine rS func171 rfl trivial ?_ rfl;simp only[ntmps171,cq,bB,bu,Nat.reduceAdd,Nat.reduceSub,eE,eF,eJ,eI,List.nil_append,List.cons_append];generalize hL:vs.length=L at hI hlen h0|-
 gi_wp2_with (refine⟨trivial,?_⟩;gi_at_call 172;refine(ar9 _ _ _ _ h0 _).mono ?_;rintro e w' ⟨rfl,rfl⟩)
 gi_wp2_with (refine⟨trivial,?_⟩;gi_at_call 215;refine(CF _ _ _ _ _).mono ?_;rintro e w' ⟨rfl,rfl⟩)
 obtain⟨n0,hn0⟩:∃n0,w.heap.size=n0:=⟨_,rfl⟩
 rw[hn0]at hI|-;obtain⟨W0,hW0⟩:∃W0,((((w.alloc (.cells #[.slice a L cap] 42)).alloc (.cells #[.slice a L cap] 42)).alloc (.cells #[.pointer none,.slice none 0 0] 209)).alloc (.cells #[.slice a L cap] 40))=W0:=⟨_,rfl⟩
 have hs0:W0.heap.size=n0+4:=by rw[<-hW0];simp[hn0]
 have hA0:W0.heap[n0]?=some (.cells #[.slice a L cap] 42 (0,0)):=by rw[<-hW0,dB _ _ _ b6,dB _ _ _ b6,dB _ _ _ b6,<-hn0];exact cr w _
 have hT0:W0.heap[n0+2]?=some (.cells #[.pointer none,.slice none 0 0] 209 (0,0)):=by
  rw[<-hW0,dB _ _ _ b6];have:=cr ((w.alloc (.cells #[.slice a L cap] 42)).alloc (.cells #[.slice a L cap] 42)) (.cells #[.pointer none,.slice none 0 0] 209);rw[cz,cz,hn0]at this;exact this
 have hP0:W0.heap[n0+3]?=some (.cells #[.slice a L cap] 40 (0,0)):=by
  rw[<-hW0];have:=cr (((w.alloc (.cells #[.slice a L cap] 42)).alloc (.cells #[.slice a L cap] 42)).alloc (.cells #[.pointer none,.slice none 0 0] 209)) (.cells #[.slice a L cap] 40);rw[cz,cz,cz,hn0]at this;exact this
 have hB0:Below n0 w W0:=by
  rw[<-hW0];exact((((cS _ w).alloc O _).alloc b6 _).alloc b6 _).alloc b6 _
 rw[hW0];have hG0:Good M W0:=hM.below hn0.symm hB0
 refine RM (w0:=W0) rfl O (gf:=237) (lb:=#[.pointer (some ⟨n0+1+1+1,0,none⟩)]) rfl trivial (wL func237 aS rfl)
  (tn (enc:=az8) (n0+3) n0 (.slice a L cap) vs O W0 O O (bH hP0 rfl) (hI.below hB0)) Xd (XB O O) (cS _ _) (fun _=>rfl)
  (fun pre W=>Lib.IsBuilderF 209 5 (n0+2) (n0+2) (Lib.byteCells (tx L pre)) W/\Below (n0+2) W0 W/\n0+4<=W.heap.size/\W.heap[n0+3]?=some (.cells #[.slice a L cap] 40 (0,0)))
  (fun _ _ _=>False) ?own (fun _=>by intro s A B row hs;exact hs.elim) ?start
  (fun x=>{ tmps:=#[.agg #[.slice a L cap],.pointer (some ⟨n0,0,none⟩),.string ⟨#[]⟩,.pointer (some ⟨n0+1+1,0,none⟩),.int .i64 (x.1:Int),.int .u32 (x.2.1:Int),undef,.agg #[.slice a L cap],.bool false,.pointer (some ⟨n0,0,none⟩),.slice a L cap,.func (.func 237) #[] #[.pointer (some ⟨n0+1+1+1,0,none⟩)],.int .i64 (x.1:Int),.int .u32 (x.2.1:Int),undef,undef,undef,undef,undef,undef,undef,undef,undef,undef,undef,undef,undef,undef,undef,undef,undef],defers:=[] }) ?assign ?body ?done ?stop
 case own=>
  rintro s A A' row ⟨h1,h2,h3,h4⟩ hg hr;exact⟨mq h1 fun j o ho hc=>ef hg (fun r e=>(hr r e).2) ho hc,h2.grown hg O (fun k e=>by have:=(hr k e).1;omega),bG h3 hg.size,ef hg (fun r e=>(hr r e).2) h4 rfl⟩
 case start=>
  exact⟨Sp (.inl ⟨ah _,_,hT0,⟨rfl,.inl ⟨rfl,rfl⟩⟩,by simp[Value.ownBlock]⟩),cS _ _,O,hP0⟩
 case assign=>
  intro l x W K hK
  gi_wp2
  exact hK
 case body=>
  rintro l pre x W ⟨h1,h2,h3,h4⟩ hlt;have hG:Good M W:=hM.below hn0.symm (hB0.trans (h2.mono O));have hA:W.heap[n0]?=some (.cells #[.slice a L cap] 42 (0,0)):=(h2.block n0 O).trans hA0;have cA:W.cell? ⟨n0,0,none⟩=some (.slice a L cap):=bH hA rfl;have hx:x.2.1<1000000000:=x.2.2;have hpl:=aW0 L pre;have htx2:tx L (pre++[x])=tx L pre++dec x.2.1:=by rw[BL,aG O]
  have h32:n0+2<=W.heap.size:=O
  rw[hL]at hlt
  have lC:(Lib.byteCells (tx L pre)).length+(⟨(dec x.2.1).toArray⟩:ByteArray).size<=140737488355328:=by
   have h2:(⟨(dec x.2.1).toArray⟩:ByteArray).size=(dec x.2.1).length:=cq;have h3:(dec x.2.1).length<=9:=gT O (by rw[show(10:Nat)^9=1000000000 by decide];exact hx);rw[xf,h2];omega
  have hcell2:Lib.byteCells (tx L pre)++Lib.strCells ⟨(dec x.2.1).toArray⟩=Lib.byteCells (tx L pre++dec x.2.1):=by
   rw[yG,wu]
  have hc:¬(x.1:Int)<(L:Int)-1:=O
  gi_wp2_with (refine⟨trivial,?_⟩;gi_at_call 169;refine(ny l (bC.2 (Cg x.2.1 _ M hG))).mono ?_;rintro e w1 ⟨rfl,hb1⟩;have cA1:w1.cell? ⟨n0,0,none⟩=some (.slice a L cap):=(hb1.cell (p:=⟨n0,0,none⟩) (show n0<W.heap.size by omega)).trans cA)
  have b1:Lib.IsBuilderF 209 5 (n0+2) (n0+2) (Lib.byteCells (tx L pre)) w1:=mq h1 fun j o ho _=>gS hb1 j o ho;have s1:n0+2<=w1.heap.size:=bG h32 hb1.size;have q:CallsIn (Fence.wide.inRound l) 998 prog 167 #[.pointer (some ⟨n0+1+1,0,none⟩),.string ⟨(dec x.2.1).toArray⟩] w1 fun e w'=>e=.returned (.tuple #[.int .i64 (⟨(dec x.2.1).toArray⟩:ByteArray).size,.nilIface])/\(Lib.IsBuilderF 209 5 (n0+2) (n0+2) (Lib.byteCells (tx L pre)++Lib.strCells ⟨(dec x.2.1).toArray⟩) w'/\Below (n0+2) w1 w'/\Lib.OthersKept 5 (some (n0+2)) w1 w'):=ny l (bC.2 (wZ (n0+2) (n0+2) _ ⟨(dec x.2.1).toArray⟩ w1 b1 lC s1))
  gi_wp2_with (refine⟨trivial,?_⟩;gi_at_call 167;refine q.mono ?_;clear q;rintro e w4 ⟨rfl,b4,hl4,ho4⟩)
  rw[hcell2,<-htx2]at b4;exact zH h2 h3 h4 ((hb1.mono h32).trans hl4) (fun k o ho hk hu=>ho4 k o (gS hb1 k o ho) hk hu) h1 b4
 case done=>
  rintro D ys W hD rfl ⟨h1,h2,h3,h4⟩ hK;have s1:n0+2<=W.heap.size:=O
  have hbW:Below n0 w W:=hB0.trans (h2.mono O)
  gi_wp2_with (refine⟨trivial,?_⟩;gi_at_call 170;refine(bC.2 (Tryz.Builder_String_any_k (n0+2) (n0+2) _ W h1 s1)).mono ?_;rintro e w1 ⟨rfl,b1,hl1,ho1⟩)
  have hne:some D≠some (n0+2):=by intro e;cases e;omega
  have hK1:=ho1 D _ hK hne (by intro c fz h;cases h);refine⟨aT,.inl ⟨_,_,rfl,sV hK1,?_⟩⟩;rw[hn0];refine⟨_,kN rfl _ _ _,rfl,(hbW.trans (hl1.mono O)).trans ?_⟩;exact uV (w:=w) O w1 D _ _ O hK1 rfl rfl
 case stop=>
  rintro D c pre W hD _ h hK;exact h.elim
def Du(n:Nat)(hn:n<1000000000)(h0:n≠0:=by omega):aX prog 171 [mT n] (.ret [bS (dec n)]):=by
 refine⟨ay aS,fun M w vs hM hv=>?_⟩
 match vs,hv with
 | [v],hv=>
   obtain⟨⟨us,rfl,hus⟩,_⟩:=hv
   match us,hus with
   | [u],hus=>
     obtain⟨ds,hds⟩:=zm (mC n);have hdg:dg n=[n]:=by unfold dg;rw[gQ,fL hn,fR hn,dj]
     have hdl:ds.length=1:=by rw[<-aL (f:=Subtype.val),hds,hdg];rfl
     obtain⟨a,cap,rfl,hel⟩:=ap4 hus.1;have hl:((dg n).map (fun d:Nat=>(d:Int))).length=ds.length:=by rw[aL,hdg,hdl];rfl
     rw[hl]
     have hI:Sl1 az8 w.heap.size w (.slice a ds.length cap) ds:=by
      refine⟨a,cap,rfl,?_⟩;rcases hel with h | ⟨b,off,rfl,hb,hc⟩
      .rw[hdg]at h;cases h
      .refine .inr ⟨b,off,rfl,hb,fun j v hj=>hc j _ ?_⟩;rw[<-hds,ey,dR,hj];rfl
     have h1:=av8 a cap ds w M hM.2 hI
     have ht:tx ds.length (bk ds ds.length)=dec n:=by
      match ds,hdl,hds with
      | [d],_,hds=>
        rw[hdg]at hds;have e:d.1=n:=by simpa using hds
        rw[<-e];rfl
     rw[ht]at h1;refine((bC (n:=1001)).1 h1).mono ?_;rintro e w' ⟨rfl,hb⟩;exact⟨hb,[.string ⟨(dec n).toArray⟩],rfl,⟨rfl,rfl⟩,trivial⟩
   | [],hus=>exact hus.elim
   | _::_::_,hus=>exact hus.2.elim
 | [],hv=>exact hv.elim
 | _::_::_,hv=>exact hv.2.elim
def DI(q:Rat)(hf:Fit 64 q)(h0:q.num.natAbs≠0)(hn1:q.num.natAbs<1000000000)(hd1:q.den<1000000000):aX prog 74 [(qT q:aQ)] (.ret [bS (my q)]):=by
 refine eD func74 an7 ?_;have hd:=UR hf.2;have hn:=UR hf.1;have hp:=q.den_pos;have ln:=mr hf.1;have ld:=mr hf.2;rw[show my q=((if q.num<0 then[45]else[])++dec q.num.natAbs)++if q.den=1 then[]else[47]++dec q.den from rfl];apply aA (Du q.num.natAbs hn1 h0);refine l4 ?_ ?_<;>intro h1
 .apply vn (lU (a:=[45]) (by simp only[bB,bu];omega)) rfl;apply aA (vQ (q.den-1));apply vn zo;refine l4 ?_ ?_<;>intro h5
  .apply aA (gJ q);apply aA (Du q.den hd1);apply vn (lU (a:=[47]) (by simp only[bB,bu];omega)) rfl;apply vn (lU (by simp only[cF,bB,bu];omega)) rfl;dsimp only[aU,aV];rw[aF h1,aG O];exact aR
  rw[aF h1,aF O,cB];exact aR
 apply aA (vQ (q.den-1));apply vn zo;refine l4 ?_ ?_<;>intro h14
 .apply aA (gJ q);apply aA (Du q.den hd1);apply vn (lU (a:=[47]) (by simp only[bB,bu];omega)) rfl;apply vn (lU (by simp only[cF,bB,bu];omega)) rfl;dsimp only[aU,aV];rw[aG h1,aG O];exact aR
 rw[aG h1,aF O,cB];exact aR
end Go.Sy
namespace Go.Sy
open Go Go.Proofs Go.RowKit Go.Shelf Tryz Ord
attribute [local go_sem] Oper.semAt_some
def cp5:Tr:=mh 76 0 0 1 0 2 2 6 7 (kv 88 3 3 1 3 2 1 8 9 (mD 4 4 2))
def az6:af prog f178 dV [.v (some 3),.v (some 3),.ref 3]=cp5:=aS
def jk(ps:c4)(c:Rat):Rat:=ps.foldr (fun a v=>v*c+a) 0
def av1(v c x:Rat)(A B C:Nat)(hv:Fit A v)(hc:Fit B c)(hx:Fit C x)(hA:A+B+C<=4294967296):aX prog 178 [(qT v:aQ),(qT c:aQ),(.one (.aw (qC x)):aQ)] (.ret [qT (v*x+c)]):=by
 refine dvr (ins:=[.v (qT v),.v (qT c),.ref (qC x)]) func178 az6 ?_;apply aA (ig v x A C hv hx);apply aA (oV (v*x) c _ B (hv.mul hx) hc);exact aR
section
variable(M:c6)(w:World)(B:Nat)
structure QV where
 q:Rat
 u0:Value
 u1:Value
 u2:Value
 fit:Fit B q
 rep:an M w (qC q) [u0,u1,u2]
end
theorem bg1(M:c6)(w:World)(B:Nat)(hB:1<=B):Nonempty (QV M w B):=
 ⟨⟨0,.slice none 0 0,.bool false,.slice none 0 0,Fit.zero hB,an.sub nO ⟨⟨rfl,rfl⟩,⟨rfl,rfl⟩,⟨rfl,rfl⟩,trivial⟩⟩⟩
def hv{M:c6}{w:World}{B:Nat}(x:Rat)(pre:List (Nat×QV M w B)):Rat:=pre.foldl (fun v c=>v*x+c.2.q) 0
def ad1{P:j5}{W:World}{b T j:Nat}{cs:iS}{u:Value}(h:W.heap[b]?=some (.cells cs T (0,0)))(hj:j<cs.size)(o:u.oneCell'=true) :
  (store ⟨b,j,none⟩ u).run P W=.ok () (W.setRow b (cs.setIfInBounds j u)):=by
 have hcell:W.cell? ⟨b,j,none⟩=some cs[j]:=by simp[World.cell?,h,hj]
 have hfro:W.frozen? ⟨b,j,none⟩=false:=by simp[World.frozen?,h]
 rw[run_store P W _ u _ o,hcell];simp[hfro,setCell_eq_setRow W b j cs T (0,0) u h]
def DZ{P:j5}{W:World}{b T:Nat}{c0 c1 c2 u0 u1 u2:Value}(h:W.heap[b]?=some (.cells #[c0,c1,c2] T (0,0)))(o0:u0.oneCell'=true)(o1:u1.oneCell'=true)(o2:u2.oneCell'=true) :
  (((store ⟨b,0,none⟩ u0).run P W).andThen fun _ w'=>((store ⟨b,1,none⟩ u1).run P w').andThen fun _ w'=>(store ⟨b,2,none⟩ u2).run P w')=.ok () (W.setRow b #[u0,u1,u2]):=by
 rw[ad1 h aT o0,js,ad1 (iV W b _ _ T (0,0) h) aT o1,js,setRow_setRow,ad1 (iV W b _ _ T (0,0) h) aT o2,setRow_setRow];rfl
def below_setRow{n:Nat}{A W:World}{g:Nat}(h:Below n A W)(hg:n<=g)(cs:iS):Below n A (W.setRow g cs):=
 ⟨h.os,h.tape,h.output,by simpa[World.setRow]using h.size,fun k hk=>by
  rw[ew W g k cs O];exact h.block k hk⟩
def bf2{M:c6}{w:World}{B:Nat}(x:Rat)(pre:List (Nat×QV M w B))(y:Nat×QV M w B):hv x (pre++[y])=hv x pre*x+y.2.q:=by simp[hv]
theorem aU2{M:c6}{w:World}{B C:Nat}{x:Rat}(hx:Fit C x):∀(pre:List (Nat×QV M w B))(v:Rat)(A:Nat),Fit A v->Fit (pre.length*(B+C+1)+A) (pre.foldl (fun v c=>v*x+c.2.q) v)
 | [],v,A,h=>by simpa using h
 | y::ys,v,A,h=>by
   have:=aU2 hx ys (v*x+y.2.q) _ ((h.mul hx).add y.2.fit);refine this.mono ?_;rw[bB,bt];omega
def cF8{M:c6}{w:World}{q:Rat}{vs:j0}(h:cC M w [qT q] vs):∃v0 v1 v2,pack vs=.agg #[v0,v1,v2]/\an M w (qC q) [v0,v1,v2]:=by
 match vs,h with
 | [v],h=>
   obtain⟨⟨us,rfl,hus⟩,_⟩:=h
   match us,hus with
   | [a,b,c],hus=>exact⟨a,b,c,rfl,hus⟩
   | [],hus=>exact hus.elim
   | [_],hus=>exact hus.2.elim
   | [_,_],hus=>exact hus.2.2.elim
   | _::_::_::_::_,hus=>exact hus.2.2.2.elim
 | [],h=>exact h.elim
 | _::_::_,h=>exact h.2.elim
def ax7(M:c6)(w:World)(B C:Nat)(x:Rat)(hx:Fit C x)(hM:bf M w)(hB:1<=B)[Inhabited (QV M w B)](a:j9)(cap:Nat)(ts:List (QV M w B))(hlen:ts.length<4611686018427387904)(hbig:ts.length*(B+C+1)+B+C+1<=4294967296)
  (hI:Sl3 QV.u0 QV.u1 QV.u2 w.heap.size w (.slice a ts.length cap) ts) (z0 z1 z2:Value) (hz:an M w (qC 0) [z0,z1,z2]) (xp:Value) (hxp:(aC.aw (qC x)).rep M w xp) :
  CallsIn Fence.wide 1001 prog 177 #[.slice a ts.length cap,.agg #[z0,z1,z2],.func (.func 178) #[] #[xp]] w fun e W'=>Below w.heap.size w W'/\∃u0 u1 u2,e=.returned (.agg #[u0,u1,u2])/\an M W' (qC (hv x (bk ts ts.length))) [u0,u1,u2]:=by
 refine rS func177 rfl trivial ?_ rfl;simp only[ntmps177,cq,bB,bu,Nat.reduceAdd,Nat.reduceSub,eE,eF,eJ,eI,List.nil_append,List.cons_append];generalize hL:ts.length=L at hI hlen hbig|-
 gi_wp2_with (refine⟨trivial,?_⟩;gi_at_call 224;refine(YJ _ _ _ _ _).mono ?_;rintro e w' ⟨rfl,rfl⟩)
 obtain⟨n0,hn0⟩:∃n0,w.heap.size=n0:=⟨_,rfl⟩
 obtain⟨hM,hMg⟩:=hM;rw[hn0]at hI hM|-;obtain⟨W0,hW0⟩:∃W0,((((w.alloc (.cells #[z0,z1,z2] 46)).alloc (.cells #[.func (.func 178) #[] #[xp]] 164)).alloc (.cells #[.slice none 0 0,.bool false,.slice none 0 0] 46)).alloc (.cells #[.slice a L cap] 98))=W0:=⟨_,rfl⟩
 have hs0:W0.heap.size=n0+4:=by rw[<-hW0];simp[hn0]
 have hX0:W0.heap[n0]?=some (.cells #[z0,z1,z2] 46 (0,0)):=by rw[<-hW0,dB _ _ _ b6,dB _ _ _ b6,dB _ _ _ b6,<-hn0];exact cr w _
 have hS0:W0.heap[n0+1]?=some (.cells #[.func (.func 178) #[] #[xp]] 164 (0,0)):=by
  rw[<-hW0,dB _ _ _ b6,dB _ _ _ b6];have:=cr (w.alloc (.cells #[z0,z1,z2] 46)) (.cells #[.func (.func 178) #[] #[xp]] 164);rw[cz,hn0]at this;exact this
 have hR0:W0.heap[n0+2]?=some (.cells #[.slice none 0 0,.bool false,.slice none 0 0] 46 (0,0)):=by
  rw[<-hW0,dB _ _ _ b6];have:=cr ((w.alloc (.cells #[z0,z1,z2] 46)).alloc (.cells #[.func (.func 178) #[] #[xp]] 164)) (.cells #[.slice none 0 0,.bool false,.slice none 0 0] 46);rw[cz,cz,hn0]at this;exact this
 have hP0:W0.heap[n0+3]?=some (.cells #[.slice a L cap] 98 (0,0)):=by
  rw[<-hW0];have:=cr (((w.alloc (.cells #[z0,z1,z2] 46)).alloc (.cells #[.func (.func 178) #[] #[xp]] 164)).alloc (.cells #[.slice none 0 0,.bool false,.slice none 0 0] 46)) (.cells #[.slice a L cap] 98);rw[cz,cz,cz,hn0]at this;exact this
 have hB0:Below n0 w W0:=by
  rw[<-hW0];exact((((cS _ w).alloc O _).alloc b6 _).alloc b6 _).alloc b6 _
 rw[hW0]
 refine wpIn_rangeFunc_ownH (w0:=W0) rfl O (gf:=246) (lb:=#[.pointer (some ⟨n0+1+1+1,0,none⟩)]) rfl trivial (wL func246 aS rfl)
  (Ao (e0:=QV.u0) (e1:=QV.u1) (e2:=QV.u2) (n0+3) n0 (.slice a L cap) ts O W0 O O (bH hP0 rfl) (hI.below hB0)) Xd (XB O O) (cS _ _) (fun _=>rfl)
  (fun pre W=>Below n0 w W/\n0+4<=W.heap.size/\W.heap[n0+1]?=some (.cells #[.func (.func 178) #[] #[xp]] 164 (0,0))/\W.heap[n0+2]?=some (.cells #[.slice none 0 0,.bool false,.slice none 0 0] 46 (0,0)) /\
   ∃u0 u1 u2,W.heap[n0]?=some (.cells #[u0,u1,u2] 46 (0,0))/\an (fun b=>M b\/b=n0\/b=n0+2) W (qC (hv x pre)) [u0,u1,u2])
  (fun _ _ _=>False) ?own (fun _=>by intro s A B row hs;exact hs.elim) ?start
  (fun y a' W=>∃b,n0+4<=b/\a'={ tmps:=#[.slice a L cap,.agg #[z0,z1,z2],.func (.func 178) #[] #[xp],undef,.pointer (some ⟨n0,0,none⟩),.pointer (some ⟨n0+1,0,none⟩),.pointer (some ⟨n0+1+1,0,none⟩),undef,.pointer (some ⟨b,0,none⟩),.slice a L cap,.func (.func 246) #[] #[.pointer (some ⟨n0+1+1+1,0,none⟩)],.int .i64 (y.1:Int),.agg #[y.2.u0,y.2.u1,y.2.u2],undef,undef,undef,undef,undef],defers:=[] } /\ W.heap[b]?=some (.cells #[y.2.u0,y.2.u1,y.2.u2] 46 (0,0)))
  ?ax ?assign ?body ?done ?stop
 case own=>
  rintro s A A' row ⟨h1,h2,h3,h4,u0,u1,u2,h5,h6⟩ hg hr;have hr':∀r,row=some r->∃o:Obj,A.heap[r]?=some o/\o.isCells=false:=fun r e=>(hr r e).2;refine⟨h1.grown hg O (fun k e=>by have:=(hr k e).1;omega),bG h2 hg.size,ef hg hr' h3 rfl,ef hg hr' h4 rfl,u0,u1,u2,ef hg hr' h5 rfl,h6.mono fun b o hb ho hc=>⟨hb,ef hg hr' ho hc⟩⟩
 case start=>
  refine⟨hB0,O,hS0,hR0,z0,z1,z2,hX0,hz.mono fun b o hb ho hc=>?_⟩;have hlt:=(cJ.1 ho).1;exact⟨fun h=>h.elim hb O,(hB0.block b O).trans ho⟩
 case ax=>
  rintro y a' _ A A' row ⟨b,h1,h2,h3⟩ hg hr;exact⟨b,h1,h2,ef hg (fun r e=>(hr r e).2) h3 rfl⟩
 case assign=>
  rintro l pre y W K ⟨h1,h2,h3,h4,u0,u1,u2,h5,h6⟩ hK
  gi_wp2
  obtain⟨o0,o1,o2⟩:y.2.u0.oneCell'=true/\y.2.u1.oneCell'=true/\y.2.u2.oneCell'=true:=by
   have:=y.2.rep.one;exact⟨this _ aT,this _ aT,this _ aT⟩
  have hnew:=cr W (.cells #[.slice none 0 0,.bool false,.slice none 0 0] 46);rw[DZ hnew o0 o1 o2];obtain⟨W',hW'⟩:∃W',(W.alloc (.cells #[.slice none 0 0,.bool false,.slice none 0 0] 46)).setRow W.heap.size #[y.2.u0,y.2.u1,y.2.u2]=W':=⟨_,rfl⟩
  have hold:∀k,k<W.heap.size->W'.heap[k]?=W.heap[k]?:=fun k hk=>by rw[<-hW',ew _ _ _ _ O,dB _ _ _ hk]
  have hself:W'.heap[W.heap.size]?=some (.cells #[y.2.u0,y.2.u1,y.2.u2] 46 (0,0)):=by rw[<-hW'];exact iV _ _ _ _ _ _ hnew
  have hbel:Below W.heap.size W W':=by rw[<-hW'];exact below_setRow ((cS _ W).alloc (ah _) _) (ah _) _
  have hlt:∀{k:Nat}{o:Obj},W.heap[k]?=some o->k<W.heap.size:=fun h=>(cJ.1 h).1;rw[hW']
  gi_wp2
  refine hK _ _ ⟨hbel.size,fun k o _ ho _=>(hold k (hlt ho)).trans ho⟩ ⟨hbel.mono O,fun v hv=>?_⟩
   ⟨h1.trans (hbel.mono O),bG h2 hbel.size,(hold _ (hlt h3)).trans h3,(hold _ (hlt h4)).trans h4,u0,u1,u2,(hold _ (hlt h5)).trans h5,h6.mono fun b o hb ho _=>⟨hb,(hold b (hlt ho)).trans ho⟩⟩
   ⟨W.heap.size,O,rfl,hself⟩
  simp only[World.cell?,hold (n0+3) O]at hv|-;exact hv
 case body=>
  rintro l pre y a' W hl _ ⟨h1,h2,h3,h4,u0,u1,u2,h5,h6⟩ ⟨b,hb,rfl,hbc⟩ hlt;have hltW:∀{k:Nat}{o:Obj},W.heap[k]?=some o->k<W.heap.size:=fun h=>(cJ.1 h).1;have c0:W.cell? ⟨n0,0,none⟩=some u0:=bH h5 rfl;have c1:W.cell? ⟨n0,1,none⟩=some u1:=bH h5 rfl;have c2:W.cell? ⟨n0,2,none⟩=some u2:=bH h5 rfl;have cs:W.cell? ⟨n0+1,0,none⟩=some (.func (.func 178) #[] #[xp]):=bH h3 rfl;have cb0:W.cell? ⟨b,0,none⟩=some y.2.u0:=bH hbc rfl;have cb1:W.cell? ⟨b,1,none⟩=some y.2.u1:=bH hbc rfl;have cb2:W.cell? ⟨b,2,none⟩=some y.2.u2:=bH hbc rfl;have hM1:∀k,(M k\/k=n0\/k=n0+2)->k<W.heap.size:=fun k h=>h.elim (fun h=>by have:=hM k h;omega) (fun h=>O)
  have hkeep:av M w (fun b=>M b\/b=n0\/b=n0+2) W:=fun k o hk ho _=>by
   have hlt:=(cJ.1 ho).1;exact⟨fun h=>h.elim hk O,(h1.block k O).trans ho⟩
  have hfit:Fit (pre.length*(B+C+1)+1) (hv x pre):=aU2 hx pre 0 1 (Fit.zero (ah 1))
  have hbound:pre.length*(B+C+1)+1+B+C<=4294967296:=by
   rw[hL]at hlt;have:=cY (B+C+1) (mW hlt);omega
  have hcall:Calls prog 178 #[.agg #[u0,u1,u2],.agg #[y.2.u0,y.2.u1,y.2.u2],xp] W fun e w'=>Below W.heap.size W w'/\∃v0 v1 v2,e=.returned (.agg #[v0,v1,v2])/\an (fun b=>M b\/b=n0\/b=n0+2) w' (qC (hv x (pre++[y]))) [v0,v1,v2]:=by
   refine((av1 (hv x pre) y.2.q x _ _ _ hfit y.2.fit hx hbound).2 (fun b=>M b\/b=n0\/b=n0+2) W [.agg #[u0,u1,u2],.agg #[y.2.u0,y.2.u1,y.2.u2],xp] ⟨hM1,hMg.dJ hkeep⟩ ⟨⟨[u0,u1,u2],rfl,h6⟩,⟨[_,_,_],rfl,y.2.rep.mono hkeep⟩,aC.mono _ hkeep hxp,trivial⟩).mono ?_;rintro e w' ⟨hb',vs,rfl,hvs⟩;rw[bf2];obtain⟨v0,v1,v2,e1,hr⟩:=cF8 hvs;exact⟨hb',v0,v1,v2,by rw[e1],hr⟩
  gi_wp2_with (refine⟨trivial,?_⟩;gi_at_call 178;refine(ny l (bC.2 hcall)).mono ?_;rintro e w' ⟨hbw,v0,v1,v2,rfl,hvr⟩)
  have hone:=hvr.one;have hbox:w'.heap[n0]?=some (.cells #[u0,u1,u2] 46 (0,0)):=(hbw.block n0 (hltW h5)).trans h5;rw[DZ hbox (hone _ aT) (hone _ aT) (hone _ aT)];obtain⟨W3,hW3⟩:∃W3,w'.setRow n0 #[v0,v1,v2]=W3:=⟨_,rfl⟩
  have hself:W3.heap[n0]?=some (.cells #[v0,v1,v2] 46 (0,0)):=by rw[<-hW3];exact iV _ _ _ _ _ _ hbox
  have hoth:∀k,k≠n0->W3.heap[k]?=w'.heap[k]?:=fun k hk=>by rw[<-hW3,ew _ _ _ _ hk]
  have hold:∀{k:Nat}{o:Obj},k≠n0->W.heap[k]?=some o->W3.heap[k]?=some o:=fun hk ho=>(hoth _ hk).trans ((hbw.block _ (hltW ho)).trans ho);have hbel:Below n0 W W3:=by rw[<-hW3];exact below_setRow (hbw.mono O) (ah _) _
  rw[hW3]
  gi_wp2
  refine⟨⟨hbel.size,fun k o hk ho _=>hold O ho⟩,⟨hbel,fun v hv=>?_⟩,h1.trans hbel,bG h2 hbel.size,hold O h3,hold O h4,v0,v1,v2,hself,hvr.mono fun k o hk ho _=>⟨hk,(hoth k fun e=>hk (.inr (.inl e))).trans ho⟩⟩;simp only[World.cell?,hoth (n0+3) O,hbw.block (n0+3) O]at hv|-;exact hv
 case done=>
  rintro D ys W hD rfl ⟨h1,h2,h3,h4,u0,u1,u2,h5,h6⟩ hK;have c0:W.cell? ⟨n0,0,none⟩=some u0:=bH h5 rfl;have c1:W.cell? ⟨n0,1,none⟩=some u1:=bH h5 rfl;have c2:W.cell? ⟨n0,2,none⟩=some u2:=bH h5 rfl;have hone:=h6.one
  gi_wp2
  rw[DZ h4 (hone _ aT) (hone _ aT) (hone _ aT)]
  gi_wp2
  obtain⟨W3,hW3⟩:∃W3,W.setRow (n0+2) #[u0,u1,u2]=W3:=⟨_,rfl⟩
  have hself:W3.heap[n0+2]?=some (.cells #[u0,u1,u2] 46 (0,0)):=by rw[<-hW3];exact iV _ _ _ _ _ _ h4
  have hoth:∀k,k≠n0+2->W3.heap[k]?=W.heap[k]?:=fun k hk=>by rw[<-hW3,ew _ _ _ _ hk]
  have hK3:W3.heap[D]?=some (.deferred (some [])):=(hoth D O).trans hK;have hbel:Below n0 W W3:=by rw[<-hW3];exact below_setRow (cS _ W) O _
  rw[hW3];obtain⟨W4,hW4⟩:∃W4,W3.putObj D (.deferred none)=W4:=⟨_,rfl⟩
  have hoth4:∀k,k≠D->W4.heap[k]?=W3.heap[k]?:=fun k hk=>by rw[<-hW4];exact mE O
  have hself4:W4.heap[n0+2]?=some (.cells #[u0,u1,u2] 46 (0,0)):=(hoth4 _ O).trans hself;have d0:W4.cell? ⟨n0+2,0,none⟩=some u0:=bH hself4 rfl;have d1:W4.cell? ⟨n0+2,1,none⟩=some u1:=bH hself4 rfl;have d2:W4.cell? ⟨n0+2,2,none⟩=some u2:=bH hself4 rfl;refine⟨aT,.inl ⟨_,_,rfl,sV hK3,?_⟩⟩;rw[hW4];refine⟨.agg #[u0,u1,u2],?_,?_,u0,u1,u2,rfl,by rw[<-hL];exact h6.mono fun k o hk ho hc=>⟨fun h=>hk (.inl h),(hoth4 k (by rintro rfl;rw[hK]at ho;cases ho;cases hc)).trans ((hoth k (by rintro rfl;exact hk (.inr (.inr rfl)))).trans ho)⟩⟩
  .refine gN _ _ [_] ?_;simp[show f177.results=#[.cell 6 46]from rfl,iA,go_sem,d0,d1,d2]
  .rw[<-hn0]at h1 hbel;exact(h1.trans hbel).trans (by rw[<-hW4];exact uV (w:=w) (ah _) W3 D _ _ O hK3 rfl rfl)
 case stop=>
  rintro D c pre W hD _ h hK;exact h.elim
theorem pL{α:Type}(P:Nat->α->Prop):∀n,(∀i,i<n->∃x,P i x)->∃ts:List α,ts.length=n/\∀(i:Nat)x,ts[i]?=some x->P i x
 | 0,_=>⟨[],rfl,fun i x h=>by simp at h⟩
 | n+1,h=>by
   obtain⟨ts,h1,h2⟩:=pL P n fun i hi=>h i O;obtain⟨x,hx⟩:=h n O;refine⟨ts++[x],by simp[h1],fun i y hy=>?_⟩;rcases gP i n with hi | hi
   .rw[ek O]at hy;exact h2 i y hy
   .rw[fi O]at hy
    have hin:i-ts.length=0:=by
     have:=(cL.1 hy).1;simp at this;omega
    rw[hin]at hy;simp only[nJ,aZ]at hy;subst hy;obtain rfl:i=n:=O
    exact hx
def bP2{M:c6}{w:World}{B:Nat}{v:Value}{ps:c4}(h:(sQ ps).rep M w v)(hp:∀q∈ps,Fit B q) :
  ∃(ts:List (QV M w B))(a:j9)(cap:Nat),v=.slice a ts.length cap/\ts.map QV.q=ps/\Sl3 QV.u0 QV.u1 QV.u2 w.heap.size w v ts:=by
 obtain⟨a,cap,rfl,hc,hm,hel⟩:=h;have hlen:(rQ ps).length=ps.length:=aL _;rcases hel with h | ⟨b,off,cs,T,fz,rfl,hb,hh,hr⟩
 .have:ps=[]:=by cases ps<;>simp_all[rQ]
  subst this;exact⟨[],a,cap,rfl,rfl,a,cap,rfl,.inl rfl⟩
 .obtain⟨ts,h1,h2⟩:=pL (fun i (x:QV M w B)=>ps[i]?=some x.q/\w.cell? ⟨b,off+i*3,none⟩=some x.u0/\w.cell? ⟨b,off+i*3+1,none⟩=some x.u1/\w.cell? ⟨b,off+i*3+2,none⟩=some x.u2) ps.length fun i hi=>by
   obtain⟨q,hq⟩:∃q,ps[i]?=some q:=⟨_,bM hi⟩
   obtain⟨_,hrep⟩:=hr i (qC q) (by rw[rQ,dR,hq];rfl)
   have hat:∀j,j<3->((cs.toList.drop (off+i*3)).take 3)[j]?=cs[off+i*3+j]?:=fun j hj=>by
    rw[eh,aF hj,fG];simp
   have hl:=hrep.length;generalize hus:(cs.toList.drop (off+i*3)).take 3=us at hrep hl hat
   match us,hrep with
   | [x0,x1,x2],hrep=>
     refine⟨⟨q,x0,x1,x2,hp q (dc hq),hrep⟩,hq,?_,?_,?_⟩
     .have h0:=hat 0 O;rw[cV]at h0;exact bH hh (by rw[<-h0];rfl)
     .exact bH hh (by rw[<-hat 1 O];rfl)
     .exact bH hh (by rw[<-hat 2 O];rfl)
   | [],hrep=>exact hrep.elim
   | [_],hrep=>exact hrep.2.elim
   | [_,_],hrep=>exact hrep.2.2.elim
   | _::_::_::_::_,hrep=>exact hrep.2.2.2.elim
  refine⟨ts,_,cap,by rw[hlen,h1],?_,_,cap,by rw[hlen,h1],.inr ⟨b,off,rfl,(cJ.1 hh).1,fun j v hj=>(h2 j v hj).2⟩⟩;refine gU fun i=>?_;rw[dR];cases hi:ts[i]? with
  | none=>
    have:=fA.1 hi;rw[fA.2 O];rfl
  | some x=>rw[(h2 i x hi).1];rfl
def aG3{α:Type}[Inhabited α](vs:List α):(bk vs vs.length).map Prod.snd=vs.reverse:=by
 refine gU fun i=>?_;rw[bk,ey,dR];rcases gP i vs.length with h | h
 .rw[kC h,BT h];have h':vs.length-1-i<vs.length:=O
  simp[bM h']
 .rw[fA.2 (by simpa using h),fA.2 (by simpa using h)];rfl
def co5{M:c6}{w:World}{B:Nat}[Inhabited (QV M w B)](x:Rat)(ts:List (QV M w B)):hv x (bk ts ts.length)=jk (ts.map QV.q) x:=by
 have h:hv x (bk ts ts.length)=((bk ts ts.length).map Prod.snd).foldl (fun v c=>v*x+c.q) 0:=by rw[hv,List.foldl_map]
 rw[h,aG3,List.foldl_reverse,jk,List.foldr_map]
def Zv(ps:c4)(x:Rat)(B C:Nat)(hB:1<=B)(hp:∀q∈ps,Fit B q)(hx:Fit C x)(hl:ps.length*(B+C+1)+B+C+1<=4294967296:=by omega) :
  aX prog 177 [.one (sQ ps),qT 0,.one (.gv 178 [.aw (qC x)])] (.ret [qT (jk ps x)]):=by
 refine⟨ay aS,fun M w vs hM hv=>?_⟩
 match vs,hv with
 | [v0,v1,v2],⟨k0,⟨us,k1,hus⟩,⟨fs,k2,hfs⟩,_⟩=>
   obtain⟨ts,a,cap,rfl,hq,hsl⟩:=bP2 k0 hp;obtain⟨iq⟩:=bg1 M w B hB
   haveI:Inhabited (QV M w B):=⟨iq⟩
   subst k1 k2
   match us,hus,fs,hfs with
   | [z0,z1,z2],hus,[xp],hfs=>
     have hlen:ps.length=ts.length:=by rw[<-hq,aL]
     rw[hlen]at hl;have h1:=ax7 M w B C x hx hM hB a cap ts (by have:=ma ts.length (show 0<B+C+1 by omega);omega) hl hsl z0 z1 z2 hus xp hfs.1;rw[co5,hq]at h1;refine((bC (n:=1001)).1 h1).mono ?_;rintro e w' ⟨hb,u0,u1,u2,rfl,hr⟩;exact⟨hb,[.agg #[u0,u1,u2]],rfl,⟨[u0,u1,u2],rfl,hr⟩,trivial⟩
   | [],hus,_,_=>exact hus.elim
   | [_],hus,_,_=>exact hus.2.elim
   | [_,_],hus,_,_=>exact hus.2.2.elim
   | _::_::_::_::_,hus,_,_=>exact hus.2.2.2.elim
   | [_,_,_],_,[],hfs=>exact hfs.elim
   | [_,_,_],_,_::_::_,hfs=>exact hfs.2.elim
 | [],hv=>exact hv.elim
 | [_],hv=>exact hv.2.elim
 | [_,_],hv=>exact hv.2.2.elim
 | _::_::_::_::_,hv=>exact hv.2.2.2.elim
def cv2:Tr:=gO 177 [(W 0 0),(.agg [tN,(tE (.bool false)),tN]),(.one (.gv 178 [(.ref 0 [(.u 1 0),(.u 1 1),(.u 1 2)])]))] [(some 3)] [5,6,7] [98,46,164] 46 true (mD 2 2 2)
def bk4:af prog f79 dV [.v none,.v (some 3)]=cv2:=aS
def ao7(ps:c4)(c:Rat)(B:Nat)(hp:∀q∈ps,Fit B q)(hc:Fit B c)(hB:1<=B:=by omega)(hl:ps.length*(2*B+2)+2*B+2<=4294967296:=by omega):aX prog 79 [(.one (sQ ps):aQ),(qT c:aQ)] (.ret [qT (jk ps c)]):=by
 refine eD func79 bk4 ?_;have hl2:ps.length*(B+B+1)<=ps.length*(2*B+2):=dz _ O;refine aE2 (show ai [.one (sQ ps),.agg [.exact (.slice none 0 0),.bool false,.exact (.slice none 0 0)],.one (.gv 178 [.aw (qC c)])] [.one (sQ ps),qT 0,.one (.gv 178 [.aw (qC c)])]from⟨aQ.Sub.same,nO,aQ.Sub.same,trivial⟩) (Zv ps c B B hB hp hc) rfl ?_;exact aR
end Go.Sy
