/- Part. -/
import Derived.Test.YtdmcadckdnnglaaGreatDoorRa
import Derived.Laws.Cover3
import Derived.Shelf.Strings.BuilderK
import Derived.Shelf.Strconv.Itoa3
import Derived.Shelf.Strings.Repeat
import Derived.RangeFuncNested
set_option linter.all false
set_option maxHeartbeats 2000000
set_option maxRecDepth 100000
namespace Go.Sy
def FU:=@Go.CallsIn.inRound
open Go Go.Proofs Tryz Ord
def cB4:Tr:=.need (.prim [W 0 0,.one (.c (.k (.slice none 0 0)))] none) (.binOp .eql 72 (tT 3) (.const (.slice none 0 0)) 72) 4 false (aJ 1 0 (hx305Q ) (.need (.lit 3 []) (.buildSlice 72 0 #[]) 72 false (aw2 3 56 2 0 5 6 72 (yU 3 3))))
def TD:aO prog f113 cT [.v none]=cB4:=aT
def av4:Tr:=.back 0 [lV 9 0]
def ay6:Tr:=iJ 2 1 17 av4
def aQ2:Tr:=cC 10
def cj3:Tr:=jL 0 0 4 0 72 9 11 (dK 5 3 39 12 (tk 35 6 0 1 2 13 39 3 (gd 7 0 0 3 14 (aJ 8 0 ay6 (Ij 2 72 19 20 (vC 113 9 21 72 72 aQ2))))))
def ct8:Tr:=bD 0 0 4 72 (ID 1 (ia 2 0 0 3 6 (aJ 3 0 (iJ 2 1 10 cj3) (Ij 2 72 19 20 (vC 113 4 21 72 72 (cC 5))))))
def ba4:aO prog f34 cT [.v none]=ct8:=aT
def bB5:Tr:=iJ 2 1 5 (cC 3)
def cp1:Tr:=Dt 34 0 3 72 72 (bD 1 0 4 72 bB5)
def al8:aO prog f95 cT [.v none]=cp1:=aT
def cr9:Tr:=dK 5 4 49 12 (eO 46 [G4 6] [none] [13] [49] 3 false (gd 7 0 0 3 14 (aJ 8 0 ay6 (Ij 2 167 19 20 (Zx 4 64 9 21 167 (yU 4 10))))))
def cm1:Tr:=bD 0 0 4 167 (ID 1 (ia 2 0 0 3 6 (aJ 3 0 (iJ 2 1 10 (jL 0 0 4 0 167 9 11 cr9)) (Ij 2 167 19 20 (Zx 4 64 4 21 167 (yU 4 5))))))
def bl1:aO prog f144 cT [.v none]=cm1:=aT
def cv3:Tr:=Dt 144 0 3 167 167 (bD 1 0 4 167 bB5)
def ap1:aO prog f96 cT [.v none]=cv3:=aT
def aE.bi1:aE where
 rep:=fun _ _ v=>∃cap,v=.slice none 0 cap/\cap<=maxLen
 mono:=fun _ h=>h
 one:=by rintro M w v ⟨cap,rfl,_⟩;rfl
def aE.nnS(sz:Nat)(ts:List (List aE)):aE where
 rep:=fun M w v=>(aE.slice sz ts).rep M w v/\∃a l c,v=.slice (some a) l c
 mono:=fun hk h=>⟨aE.mono _ hk h.1,h.2⟩
 one:=fun h=>aE.one _ h.1
def aE.Sub.nn{sz:Nat}{ts:List (List aE)}:(aE.nnS sz ts).Sub (.slice sz ts):=
 .inr ⟨fun M w v h=>by obtain⟨_,a,l,c,rfl⟩:=h;exact⟨some a,l,c,rfl⟩,fun M w v h=>h.1⟩
def Vy{sz:Nat}{ts:List (List aE)}{M:j2}{w:World}{v:Value}(h:(aE.slice sz ts).rep M w v):(ts=[]/\aE.bi1.rep M w v)\/(aE.nnS sz ts).rep M w v:=by
 have h0:=h;obtain⟨a,cap,rfl,hc,hm,hel⟩:=h;cases a with
 | some a=>exact .inr ⟨h0,a,_,_,rfl⟩
 | none=>
   rcases hel with rfl | ⟨b,off,cs,T,fz,e,_⟩
   .exact .inl ⟨rfl,cap,rfl,hm⟩
   .cases e
def XE{P:n7}{f:FuncId}{sz:Nat}{ts:List (List aE)}{out:Out}(h1:ts=[]->aK P f [.one .bi1] out)(h2:aK P f [.one (.nnS sz ts)] out):aK P f [.one (.slice sz ts)] out:=by
 refine⟨h2.1,fun M w vs hM hv=>?_⟩
 match vs,hv with
 | [v],hv=>
   rcases Vy hv.1 with⟨e,h⟩ | h
   .exact(h1 e).2 M w [v] hM ⟨h,trivial⟩
   .exact h2.2 M w [v] hM ⟨h,trivial⟩
 | [],hv=>exact hv.elim
 | _::_::_,hv=>exact hv.2.elim
section
variable{P:n7}{T U ty:TypeId}{x y:n8}
def cc6{E sz b:Nat}(h:eP P T=some (E,sz,b)):aq P (.binOp .eql T x y U) ty [.one .bi1,.one (.exact (.slice none 0 0))] (.one (.bool true)):=by
 obtain⟨ie,hu,_⟩:=dZ h;intro M w ρ o ho ht hr;obtain⟨hx,hy⟩:=vO (x:=x) (y:=y) hr;obtain⟨cap,hx,_⟩:=hx;have hy:ρ y=.slice none 0 0/\_:=hy;refine⟨.bool true,?_,⟨rfl,rfl⟩⟩;simp[execOp,ho,hx,hy.1,eqGuard,binOp,run_equal_slice_nil w T E none 0 cap hu]
def bW1{E sz b sz':Nat}{ts:List (List aE)}(h:eP P T=some (E,sz,b)):aq P (.binOp .eql T x y U) ty [.one (.nnS sz' ts),.one (.exact (.slice none 0 0))] (.one (.bool false)):=by
 obtain⟨ie,hu,_⟩:=dZ h;intro M w ρ o ho ht hr;obtain⟨hx,hy⟩:=vO (x:=x) (y:=y) hr;obtain⟨_,a,l,c,hx⟩:=hx;have hy:ρ y=.slice none 0 0/\_:=hy;refine⟨.bool false,?_,⟨rfl,rfl⟩⟩;simp[execOp,ho,hx,hy.1,eqGuard,binOp,run_equal_slice_nil w T E (some a) l c hu]
end
def ar0  :aK prog 113 [(.one .bi1:aF)] (.ret [.one (.slice 3 [])]):=by
 refine dB func113 TD ?_;apply vn (cc6 mh);refine ut ?_;exact eD ⟨aE.Sub.nil,trivial⟩
def aj1(ts:List (List aE))(hs:ts.length<1099511627776):aK prog 113 [(.one (.nnS 3 ts):aF)] (.ret [.one (.slice 3 ts)]):=by
 refine dB func113 TD ?_;apply vn (bW1 mh);refine lw ?_;apply bh (us:=[]);refine su (ts:=[]) (us:=ts) (vs:=ts) rfl (.inr aE.Sub.nn) rfl O (by simp only[maxLen];omega) ?_;exact aN
def VT(ts:List (List aE))(hs:ts.length<1099511627776):aK prog 113 [.one (.slice 3 ts)] (.ret [.one (.slice 3 ts)]):=
 XE (fun e=>by subst e;exact ar0) (aj1 ts hs)
def eE{α:Type}(z:α->Bool):List α->Nat
 | []=>0
 | x::xs=>if eE z xs=0/\z x=true then 0 else eE z xs+1
theorem kg{α:Type}{z:α->Bool}:∀l:List α,eE z l<=l.length
 | []=>ah _
 | x::xs=>by
   have:=kg (z:=z) xs;simp only[eE,bm];split<;>omega
theorem xQ{α:Type}{z:α->Bool}:∀{l:List α}{n:Nat},n<=l.length->(∀i x,n<=i->l[i]?=some x->z x=true)->(n=0\/∃x,l[n-1]?=some x/\z x=false)->eE z l=n
 | [],n,h,_,_=>by simp at h;subst h;rfl
 | x::xs,n,h,h1,h2=>by
   cases n with
   | zero=>
     have h3:=xQ (z:=z) (l:=xs) (n:=0) (cG _) (fun i y _ hy=>h1 (i+1) y (cG _) (by simpa using hy)) (.inl rfl);have h4:=h1 0 x (cG _) rfl;simp[eE,h3,h4]
   | succ n=>
     have h3:=xQ (z:=z) (l:=xs) (n:=n) (by simpa using h) (fun i y hi hy=>h1 (i+1) y O (by simpa using hy)) (by
      cases n with
      | zero=>exact .inl rfl
      | succ n=>
        rcases h2 with h2 | ⟨y,hy,hz⟩
        .omega
        .exact .inr ⟨y,by simpa using hy,hz⟩)
     simp only[eE,h3];rw[aD];rintro⟨h4,h5⟩;subst h4;rcases h2 with h2 | ⟨y,hy,hz⟩
     .omega
     .simp at hy;subst hy;rw[h5]at hz;cases hz
theorem KE{α β:Type}{z:β->Bool}(f:α->β):∀l:List α,eE z (l.map f)=eE (fun a=>z (f a)) l
 | []=>rfl
 | x::xs=>by simp only[dy,eE,KE f xs]
abbrev rQ(ps:j1):List (List aE):=ps.map qC
abbrev sQ(ps:j1):aE:=.slice 3 (rQ ps)
abbrev rR(ps:List RQ):List (List aE):=ps.map rC
abbrev sR(ps:List RQ):aE:=.slice 4 (rR ps)
def zr(q:Rat):Bool:=decide (q=0)
def XN(a:RQ):Bool:=decide (a.q=0)
def trim(ps:j1):List Rat:=ps.take (eE zr ps)
def gI(ps:List RQ):List RQ:=ps.take (eE XN ps)
def tY(ps:List RQ):(gI ps).map RQ.q=trim (ps.map RQ.q):=by
 rw[trim,KE,gI,ou];rfl
def Fa{q:Rat}:zr q=decide (q.num.sign=0):=by rw[zr,kV];exact sign_zero.symm
def kL(ps:j1):(trim ps).length=eE zr ps:=by rw[trim,bP];have:=kg (z:=zr) ps;omega
def zh(ps:List RQ):(gI ps).length=eE XN ps:=by rw[gI,bP];have:=kg (z:=XN) ps;omega
def AL{E sz b T:Nat}{α:Type}{f:α->List aE}{ds:List α}{x:n8}{ty:Nat}{y:n8}{k:IntKind}{n:Int}{m:Nat}(h:eP prog T=some (E,sz,b))(h0:0<=n:=by omega)(hm:n.toNat=m:=by omega)(hn:m<=ds.length:=by omega):aq prog (.slice T x none (some y) none) ty [.one (.slice sz (ds.map f)),.one (.int k n)] (.one (.slice sz ((ds.take m).map f))):=by
 have:=Pg (P:=prog) (T:=T) (x:=x) (y:=y) (ty:=ty) (k:=k) (n:=n) (ts:=ds.map f) h h0 (by rw[aX,hm];exact hn);rw[hm,<-ou]at this;exact this
def BA(ps:j1)(hs:ps.length<1099511627776):aK prog 34 [(.one (sQ ps):aF)] (.ret [.one (sQ (trim ps))]):=by
 refine dB func34 ba4 ?_;apply vn (aZ mh (aX _));refine bC {n:Nat // n<=ps.length/\∀i q,n<=i->ps[i]?=some q->zr q=true} (fun g=>[.one (.int .i64 g.1)]) (fun g=>g.1) ⟨ps.length,ah _,fun i q hi hq=>by have:=(fK.1 hq).1;omega⟩ aR.rfl (fun _=>rfl) ?_;rintro⟨n,hn,hz⟩;dsimp only[aP,aQ]at hn hz|-;refine uS fL ?_ ?_<;>intro h3
 .apply vn aL;dsimp only[aP,aQ];obtain⟨q,hq⟩:∃q,ps[n-1]?=some q:=⟨_,bU O⟩
  apply vn (aY mh hq);apply vn (ay mq dO bY (.inl rfl));apply aA (gQ q);refine uS bA ?_ ?_<;>intro h9
  .apply vn aL
   exact aa rfl ⟨⟨n-1,O,fun i r hi hr=>by
    rcases bG i n with h | h
    .rw[show i=n-1 by omega,hq]at hr;simp only[aM]at hr;subst hr;rw[Fa];simpa using h9
    .exact hz i r h hr⟩,⟨aF.Sub.of_eq (congrArg (fun q=>aF.one (aE.int .i64 q)) (by show(n:Int)-1=((n-1:Nat):Int);omega)),trivial⟩,by show n-1<n;omega⟩
  apply vn (AL mh O O hn);dsimp only[aP,aQ];have ht:=xQ hn hz (.inr ⟨q,hq,by rw[Fa];simpa using h9⟩);apply aA (VT _ (by rw[aX,bP];omega)) rfl;dsimp only[aP,aQ];rw[trim,ht];exact aN
 apply vn (AL mh O O hn);dsimp only[aP,aQ];have ht:=xQ hn hz (.inl O);apply aA (VT _ (by rw[aX,bP];omega)) rfl;dsimp only[aP,aQ];rw[trim,ht];exact aN
def Cq(ps:j1)(hs:ps.length<1099511627776):aK prog 95 [(.one (sQ ps):aF)] (.ret [.one (.int .i64 ((eE zr ps:Int)-1))]):=by
 refine dB func95 al8 ?_;have hle:=kg (z:=zr) ps;have htl:=kL ps;apply aA (BA ps hs);apply vn (aZ mh (aX _));apply vn aL;dsimp only[aP,aQ];rw[<-htl];exact aN
def xW(ps:List RQ)(hs:ps.length<1099511627776):aK prog 144 [(.one (sR ps):aF)] (.ret [.one (sR (gI ps))]):=by
 refine dB func144 bl1 ?_;apply vn (aZ iy (aX _));refine bC {n:Nat // n<=ps.length/\∀i q,n<=i->ps[i]?=some q->XN q=true} (fun g=>[.one (.int .i64 g.1)]) (fun g=>g.1) ⟨ps.length,ah _,fun i q hi hq=>by have:=(fK.1 hq).1;omega⟩ aR.rfl (fun _=>rfl) ?_;rintro⟨n,hn,hz⟩;dsimp only[aP,aQ]at hn hz|-;refine uS fL ?_ ?_<;>intro h3
 .apply vn aL;dsimp only[aP,aQ];obtain⟨q,hq⟩:∃q,ps[n-1]?=some q:=⟨_,bU O⟩
  apply vn (aY iy hq);apply vn (ay Iz dO bY (.inl rfl));apply aA (bf0 q);refine uS bA ?_ ?_<;>intro h9
  .apply vn aL
   exact aa rfl ⟨⟨n-1,O,fun i r hi hr=>by
    rcases bG i n with h | h
    .rw[show i=n-1 by omega,hq]at hr;simp only[aM]at hr;subst hr;show zr q.q=true;rw[Fa];simpa using h9
    .exact hz i r h hr⟩,⟨aF.Sub.of_eq (congrArg (fun q=>aF.one (aE.int .i64 q)) (by show(n:Int)-1=((n-1:Nat):Int);omega)),trivial⟩,by show n-1<n;omega⟩
  apply vn (AL iy O O hn);dsimp only[aP,aQ];have ht:=xQ (z:=XN) hn hz (.inr ⟨q,hq,by show zr q.q=false;rw[Fa];simpa using h9⟩);refine su (ts:=[]) (us:=rR (ps.take n)) (vs:=rR (ps.take n)) rfl (.inr aE.Sub.same) rfl (by rw[aX,bP];omega) (by rw[aX,bP];simp only[maxLen];omega) ?_;dsimp only[aP,aQ];rw[gI,ht];exact aN
 apply vn (AL iy O O hn);dsimp only[aP,aQ];have ht:=xQ (z:=XN) hn hz (.inl O);refine su (ts:=[]) (us:=rR (ps.take n)) (vs:=rR (ps.take n)) rfl (.inr aE.Sub.same) rfl (by rw[aX,bP];omega) (by rw[aX,bP];simp only[maxLen];omega) ?_;dsimp only[aP,aQ];rw[gI,ht];exact aN
def Pe(ps:List RQ)(hs:ps.length<1099511627776):aK prog 96 [(.one (sR ps):aF)] (.ret [.one (.int .i64 ((eE XN ps:Int)-1))]):=by
 refine dB func96 ap1 ?_;have hle:=kg (z:=XN) ps;have htl:=zh ps;apply aA (xW ps hs);apply vn (aZ iy (aX _));apply vn aL;dsimp only[aP,aQ];rw[<-htl];exact aN
open Go Go.Proofs Go.RowKit Go.Shelf Tryz Ord
attribute [local go_sem] Oper.semAt_some
section
variable{α:Type}[Inhabited α]{e0 e1 e2:α->Value}
def ao4(l Bs n₀ b off cap:Nat)(vs:List α)(hlen:vs.length<4611686018427387904)(hb:b<n₀)(J Jx:List (Nat×α)->World->Prop)
  (hY:∀pre x W,J pre W->pre.length<vs.length->YieldAt Fence.wide (1000-1) prog l #[.int .i64 (x.1:Int),.agg #[e0 x.2,e1 x.2,e2 x.2]] W fun e W'=>
   (e=.returned (.bool true)/\J (pre++[x]) W'/\KpB n₀ Bs W W')\/(e=.returned (.bool false)/\Jx (pre++[x]) W'))
  (W:World) (hBs:W.cell? ⟨Bs,0,none⟩=some (.slice (some ⟨b,off,none⟩) vs.length cap)) (hc:∀j v,vs[j]?=some v->W.cell? ⟨b,off+j*3,none⟩=some (e0 v)/\W.cell? ⟨b,off+j*3+1,none⟩=some (e1 v)/\W.cell? ⟨b,off+j*3+2,none⟩=some (e2 v)) (h0:J [] W) :
  CallsIn Fence.wide 1000 prog 281 #[.func (.yield l) #[] #[],.pointer (some ⟨Bs,0,none⟩)] W fun e W'=>(∃v,e=.returned v) /\
   ((∃ys,ys=bk vs vs.length/\J ys W')\/(∃pre,(∃k,k<=vs.length/\pre=bk vs k)/\Jx pre W')):=by
 refine pA func281 rfl trivial ?_ rfl;simp only[ntmps281,ed,bm,ck,Nat.reduceAdd,Nat.reduceSub,fX,fW,fS,fU,List.nil_append,List.cons_append];obtain⟨N,hN⟩:∃N,vs.length=N:=⟨_,rfl⟩
 rw[hN]at hBs hY hlen|-
 gi_wp2
 gi_loopw [3] (fun i wr=>∃k:Nat,k<=N/\i=.int .i64 ((N:Int)-1-k)/\J (bk vs k) wr/\Below n₀ W wr/\wr.cell? ⟨Bs,0,none⟩=some (.slice (some ⟨b,off,none⟩) N cap))
  (fun i _=>(intOf i+1).toNat)
 case atStart=>exact⟨0,cG _,bY,h0,cz _ _,hBs⟩
 case round=>
  obtain⟨k,hk,rfl,hJs,hnx,hBx⟩:=hrel;have hmeas:(intOf (.int .i64 ((N:Int)-1-k))+1).toNat=N-k:=by simp[intOf];omega
  by_cases hlt:k<N
  .have hv:vs[N-1-k]?=some (vs[N-1-k]?.getD default):=by rw[bU O];rfl
   obtain⟨hx0,hx1,hx2⟩:=hc _ _ hv;have hcx0:=(hnx.cell (p:=⟨b,off+(N-1-k)*3,none⟩) hb).trans hx0;have hcx1:=(hnx.cell (p:=⟨b,off+(N-1-k)*3+1,none⟩) hb).trans hx1;have hcx2:=(hnx.cell (p:=⟨b,off+(N-1-k)*3+2,none⟩) hb).trans hx2;clear hx0 hx1 hx2;obtain⟨fn,tmps,assign,body,hy,hR⟩:=hY _ (N-1-k,vs[N-1-k]?.getD default) wr hJs (by rw[OI];exact hlt);generalize hx:vs[N-1-k]?.getD default=x at hy hR hcx0 hcx1 hcx2;have hsucc:bk vs (k+1)=bk vs k++[(N-1-k,x)]:=by rw[ad3,hN,hx]
   have e1:(N:Int)-1-k=((N-1-k:Nat):Int):=O
   have hn1:N-1-k<N:=O
   rw[e1]
   gi_wp2
   refine hR.mono ?_;rintro e W3 (⟨rfl,hJ3,hk3⟩ | ⟨rfl,hJx3⟩)
   .gi_wp2
    go_roundw
    case rel=>exact⟨k+1,O,by congr 1;omega,by rw[hsucc];exact hJ3,hnx.trans hk3.1,hk3.2 _ hBx⟩
    case measure=>simp[intOf]
   .gi_wp2
    refine Sj (Fz rfl _ _ _) rfl ?_;exact⟨⟨_,rfl⟩,.inr ⟨_,⟨k+1,O,rfl⟩,by rw[hsucc];exact hJx3⟩⟩
  .obtain rfl:k=N:=O
   gi_wp2
   go_end0
   exact⟨⟨_,rfl⟩,.inl ⟨_,rfl,hJs⟩⟩
def Wp{α:Type}(l Bs:Nat)(a:o9)(cap:Nat)(J:List (Nat×α)->World->Prop)(W:World)(hBs:W.cell? ⟨Bs,0,none⟩=some (.slice a 0 cap))(h0:J [] W) :
  CallsIn Fence.wide 1000 prog 281 #[.func (.yield l) #[] #[],.pointer (some ⟨Bs,0,none⟩)] W fun e W'=>(∃v,e=.returned v)/\J [] W':=by
 refine pA func281 rfl trivial ?_ rfl;simp only[ntmps281,ed,bm,ck,Nat.reduceAdd,Nat.reduceSub,fX,fW,fS,fU,List.nil_append,List.cons_append]
 gi_wp2
 gi_loopw [3] (fun i wr=>i=.int .i64 (-1)/\J [] wr) (fun _ _=>0)
 case atStart=>exact⟨rfl,h0⟩
 case round=>
  obtain⟨rfl,hJs⟩:=hrel
  gi_wp2
  go_end0
  exact⟨⟨_,rfl⟩,hJs⟩
def VX(n:Nat)(a:o9)(len cap:Nat)(w:World) :
  CallsIn Fence.wide n prog 248 #[.slice a len cap] w fun e w'=>e=.returned (.func (.func 281) #[] #[.pointer (some ⟨w.heap.size,0,none⟩)])/\w'=w.alloc (.cells #[.slice a len cap] 72):=by
 refine pA func248 rfl trivial ?_ rfl;simp only[ntmps248,ed,bm,ck,Nat.reduceAdd,Nat.reduceSub,fX,fW,fS,fU,List.nil_append,List.cons_append]
 gi_wp2
 go_ret
 exact⟨rfl,rfl⟩
def Sl3(e0 e1 e2:α->Value)(n₀:Nat)(W:World)(sv:Value)(vs:List α):Prop:=
 ∃a cap,sv=.slice a vs.length cap/\(vs=[]\/∃b off,a=some ⟨b,off,none⟩/\b<n₀/\∀j v,vs[j]?=some v->W.cell? ⟨b,off+j*3,none⟩=some (e0 v)/\W.cell? ⟨b,off+j*3+1,none⟩=some (e1 v)/\W.cell? ⟨b,off+j*3+2,none⟩=some (e2 v))
def Sl3.below{α:Type}{e0 e1 e2:α->Value}{n₀:Nat}{A B:World}(h:Below n₀ A B){sv:Value}{vs:List α}:Sl3 e0 e1 e2 n₀ A sv vs->Sl3 e0 e1 e2 n₀ B sv vs:=by
 rintro⟨a,cap,e,rfl | ⟨b,off,rfl,hb,hc⟩⟩
 .exact⟨a,cap,e,.inl rfl⟩
 .exact⟨_,cap,e,.inr ⟨b,off,rfl,hb,fun j v hj=>⟨(h.cell (p:=⟨b,off+j*3,none⟩) hb).trans (hc j v hj).1,(h.cell (p:=⟨b,off+j*3+1,none⟩) hb).trans (hc j v hj).2.1,(h.cell (p:=⟨b,off+j*3+2,none⟩) hb).trans (hc j v hj).2.2⟩⟩⟩
def Dp(Bs n₀:Nat)(sv:Value)(vs:List α)(hlen:vs.length<4611686018427387904)(w:World)(hBs:Bs<w.heap.size)(hn₀:n₀<=w.heap.size)
  (hc:w.cell? ⟨Bs,0,none⟩=some sv) (hI:Sl3 e0 e1 e2 n₀ w sv vs) :
  SeqStopsK Fence.wide 1000 prog 281 #[.pointer (some ⟨Bs,0,none⟩)] (fun x:Nat×α=>#[Value.int .i64 (x.1:Int),Value.agg #[e0 x.2,e1 x.2,e2 x.2]]) (KpB n₀ Bs) (fun ys=>ys=bk vs vs.length) (fun pre=>∃k,k<=vs.length/\pre=bk vs k) vs.length w:=fun l J Jx W hW _ _ hY h0=>by
 have hc':=(hW.cell (p:=⟨Bs,0,none⟩) hBs).trans hc;obtain⟨a,cap,rfl,rfl | ⟨b,off,rfl,hb,hcs⟩⟩:=hI.below (hW.mono hn₀)
 .exact(Wp (α:=α) l Bs a cap J W hc' h0).mono fun e W' ⟨he,hj⟩=>⟨he,.inl ⟨_,rfl,hj⟩⟩
 .exact(ao4 (e0:=e0) (e1:=e1) (e2:=e2) l Bs n₀ b off cap vs hlen hb J Jx hY W hc' hcs h0)
end
end Go.Sy
namespace Go.Sy
open Go Go.Proofs Tryz Ord
def cB8:Tr:=Ox 0 2 4 31 (dW 5 13 0 5 29 32 4 (aJ 14 0 (yD 36 6 7 0 8 0 2 2 1 2 2 36 37 (nE 104 9 10 0 11 0 12 0 4 39 40 (Rs 5 34 (.back 0 [lV 17 0,lV 15 0,lV 15 1,lV 15 2,lV 16 0,lV 16 1,lV 16 2,lV 16 3])))) (.ret [.agg [U 6 0,U 7 0,U 8 0],.agg [U 9 0,U 10 0,U 11 0,U 12 0]])))
def bA2:Tr:=.loop 0 [.w (.one (.c (.k (.int .u8 0)))),lV 2 0,lV 2 1,lV 2 2,lV 4 0,lV 4 1,lV 4 2,lV 4 3] cB8
def cs6:Tr:=gd 0 1 0 2 11 (aJ 1 0 (eO 120 [W 0 0,WK 1] [some 3,none] [16,18] [2,2] 90 false (eO 79 [W 0 0,WK 1] [some 4] [23,25] [2,2] 49 true bA2)) (eO 120 [W 0 0,W 0 1] [some 3,none] [16,18] [2,2] 90 false (OM 79 0 0 1 4 23 25 2 2 49 bA2)))
def bw1:aO prog f40 cT [.v (some 3)]=cs6:=aT
def cv9:Tr:=ZM 7 0 1 2 19 (Qr 8 40 24 (jk 3 56 2 10 23 25 40 (tU 9 50 28 (jk 4 64 3 12 27 29 50 (bX 1 1 3 13 (SA 14 11 13))))))
def cy0:Tr:=.loop 0 [lK 0,.nilrow,.nilrow] (bD 0 0 10 27 (dW 1 4 0 3 9 11 4 (aJ 5 0 (jL 0 0 1 0 27 16 17 (dK 6 3 26 18 cv9)) (XY 3 2 4 3))))
def ba6:aO prog f71 cT [.v none]=cy0:=aT
def Xy:Tr:=cC 6
def sS:Tr:=hx137Q 
def cx7:Tr:=ju 0 0 999 2 9 (aJ 3 0 (my 0 0 (-999) 2 14 (aJ 4 0 (ju 0 1 999 2 19 (aJ 5 0 (my 0 1 (-999) 2 24 Xy) sS)) sS)) sS)
def cv1:Tr:=Ox 0 2 4 4 (js 1 0 5 (aJ 2 0 cx7 sS))
def aW7:aO prog f39 cT [.v (some 3)]=cv1:=aT
def ce5:Tr:=aJ 22 0 sS (ia 18 1 99 2 54 (aJ 23 0 sS (kp 18 1 (-99) 2 59 (aJ 24 0 sS (bX 10 1 3 28 (kA 1 9 25))))))
def bS7:Tr:=dK 17 3 26 36 (Ox 18 2 4 39 (.need (.prim [W 19 0,.one (.c (.k (.int .u8 0)))] none) (.binOp .neq 5 (tT 40) (.const (.int .u8 0)) 5) 4 false (aJ 20 0 sS (ia 18 0 99 2 44 (aJ 21 0 sS (kp 18 0 (-99) 2 49 ce5))))))
def bC9:Tr:=cq 11 27 24 (bD 12 0 25 27 (dW 10 13 0 3 20 26 4 (aJ 14 0 (jL 0 0 2 0 22 31 32 (cq 15 27 33 (jL 16 0 10 0 27 34 35 bS7))) (bX 2 1 3 11 (kA 0 9 15)))))
def ck8:Tr:=jL 0 0 2 0 22 14 15 (cq 5 27 16 (bD 6 0 17 27 (ia 7 0 4 3 18 (aJ 8 0 sS (.loop 1 [lV 1 0,lK 0] (jL 0 0 2 0 22 22 23 bC9))))))
def cy2:Tr:=Rm (bD 0 0 8 22 (dW 2 3 0 3 6 9 4 (aJ 4 0 ck8 (bD 0 0 63 22 (ju 5 0 6 3 64 Xy)))))
def Qx:aO prog f55 cT [.v (some 2)]=cy2:=aT
structure bz where
 n:Int
 d:Int
 pow:Nat
abbrev nC(x:bz):List aE:=[.int .i64 x.n,.int .i64 x.d,.int .u8 x.pow]
abbrev nT(x:bz):aF:=.agg (nC x)
abbrev sN(l:List bz):aE:=.slice 3 (l.map nC)
structure bz.In(x:bz):Prop where
 n1:-9223372036854775808<=x.n
 n2:x.n<9223372036854775808
 d1:-9223372036854775808<=x.d
 d2:x.d<9223372036854775808
 p:x.pow<256
def bz.b(x:bz):Rat:=(x.n:Rat)/((if x.d=0 then 1 else x.d:Int):Rat)
def bz.v(x:bz):Rat:=x.b^(x.pow%4+1)
theorem _root_.Ord.Fit.pow{B:Nat}{q:Rat}(h:Fit B q)(hB:1<=B):∀n,Fit (B*n+1) (q^n)
 | 0=>by rw[bQ];exact(Fit.int (n:=1) (B:=1) O dO).mono O
 | n+1=>by
   rw[bE];exact((Ord.Fit.pow h hB n).mul h).mono (by rw[fO];omega)
def bz.In.fit{x:bz}(h:x.In):Fit 128 x.b:=by
 unfold bz.b;split
 .exact(iU h.n1 h.n2).div (iU (n:=1))
 .exact(iU h.n1 h.n2).div (iU h.d1 h.d2)
def bz.In.bk0{x:bz}(h:x.In):Fit 513 x.v:=(h.fit.pow O _).mono O
def Gd(x:bz)(h:x.In):aK prog 40 [(nT x:aF)] (.ret [qT x.v,oU (.of x.v)]):=by
 refine dB func40 bw1 ?_;have h1:=h.n1;have h2:=h.n2;have h3:=h.d1;have h4:=h.d2;have h5:=h.p;have hf:=h.fit;have hp:=fun i=>hf.pow O i
 have hm1:∀i,i<4->aK prog 36 [qT (x.b^(i+1)),qT x.b] (.ret [qT (x.b^(i+1+1))]):=fun i hi=>by
  have:=cr (x.b^(i+1)) x.b _ _ (hp (i+1)) hf;rw[<-bE]at this;exact this
 have hm2:∀i,i<4->aK prog 104 [oU (.of (x.b^(i+1))),oU (.of x.b)] (.ret [oU (.of (x.b^(i+1+1)))]):=fun i hi=>by
  have:=ud (.of (x.b^(i+1))) (.of x.b) _ _ (hp (i+1)) hf;rw[RQ.aJ2,RQ.aJ2,<-bE]at this;exact this
 refine uS bA ?_ ?_<;>intro h1
 .have hb:x.b=(x.n:Rat)/((1:Int):Rat):=by rw[bz.b,aI h1]
  have ho:=bU0 x.n 1 h.n1 h2;rw[aD O,aD O,<-hb]at ho;apply aA ho;dsimp only[aP,aQ];have ho:=aF7 x.n 1 h.n1 h2;rw[<-hb]at ho;apply aA ho
  refine bC {i:Nat // i<=x.pow%4} (fun g=>[.one (.int .u8 g.1),.one (dT (x.b^(g.1+1)).num.natAbs),.one (.bool (decide ((x.b^(g.1+1)).num<0))),.one (dT ((x.b^(g.1+1)).den-1)),.one (.int .i64 (x.b^(g.1+1)).num.sign),.one (bT (x.b^(g.1+1)).num.natAbs),.one (.int .i64 1),.one (bT (x.b^(g.1+1)).den)]) (fun g=>x.pow%4-g.1) ⟨0,cG _⟩ (by
   have e:x.b^(0+1)=x.b:=by rw[bE,bQ,kZ]
   simp only[e];exact aR.rfl) (fun _=>rfl) ?_
  rintro⟨i,hi⟩;dsimp only[aP,aQ]at hi|-;apply vn gR;refine uS az ?_ ?_<;>intro h7
  .apply aA (hm1 i O);apply aA (hm2 i O);apply vn Uj;dsimp only[aP,aQ];exact aa rfl ⟨⟨i+1,O⟩,aR.rfl,by show x.pow%4-(i+1)<x.pow%4-i;omega⟩
  have hie:i=x.pow%4:=O
  subst hie;exact aN
 have hb:x.b=(x.n:Rat)/(x.d:Rat):=by rw[bz.b,aD h1]
 have ho:=bU0 x.n x.d h.n1 h2 h3 h4;rw[aD h1,aD h1,<-hb]at ho;apply aA ho;dsimp only[aP,aQ];have ho:=aF7 x.n x.d h.n1 h2 h1 h3 h4;rw[<-hb]at ho;apply aA ho
 refine bC {i:Nat // i<=x.pow%4} (fun g=>[.one (.int .u8 g.1),.one (dT (x.b^(g.1+1)).num.natAbs),.one (.bool (decide ((x.b^(g.1+1)).num<0))),.one (dT ((x.b^(g.1+1)).den-1)),.one (.int .i64 (x.b^(g.1+1)).num.sign),.one (bT (x.b^(g.1+1)).num.natAbs),.one (.int .i64 1),.one (bT (x.b^(g.1+1)).den)]) (fun g=>x.pow%4-g.1) ⟨0,cG _⟩ (by
  have e:x.b^(0+1)=x.b:=by rw[bE,bQ,kZ]
  simp only[e];exact aR.rfl) (fun _=>rfl) ?_
 rintro⟨i,hi⟩;dsimp only[aP,aQ]at hi|-;apply vn gR;refine uS az ?_ ?_<;>intro h18
 .apply aA (hm1 i O);apply aA (hm2 i O);apply vn Uj;dsimp only[aP,aQ];exact aa rfl ⟨⟨i+1,O⟩,aR.rfl,by show x.pow%4-(i+1)<x.pow%4-i;omega⟩
 have hie:i=x.pow%4:=O
 subst hie;exact aN
def dY(l:List bz):List Rat:=l.map bz.v
def tS(l:List bz):List RQ:=l.map fun x=>RQ.of x.v
def pV{α β:Type}{f:α->β}{l:List α}{i:Nat}{x:α}(h:l[i]?=some x):(l.take i).map f++[f x]=(l.take (i+1)).map f:=by
 rw[nm,h,ep];rfl
def ac6(l:List bz)(h:∀x∈l,x.In)(hs:l.length<1099511627776:=by omega):aK prog 71 [(.one (sN l):aF)] (.ret [.one (sQ (dY l)),.one (sR (tS l))]):=by
 refine dB func71 ba6 ?_;refine bC {i:Nat // i<=l.length} (fun g=>[.one (.int .i64 g.1),.rows (rQ ((l.take g.1).map bz.v)),.rows (rR ((l.take g.1).map fun x=>RQ.of x.v))]) (fun g=>l.length-g.1) ⟨0,cG _⟩ aR.rfl (fun _=>rfl) ?_;rintro⟨i,hi⟩;dsimp only[aP,aQ]at hi|-;apply vn (aZ VJ (aX _));refine uS az ?_ ?_<;>intro h3
 .obtain⟨x,hx⟩:∃x,l[i]?=some x:=⟨_,bU O⟩
  have hl1:((l.take i).map bz.v).length<=i:=iF
  have hl2:((l.take i).map fun x=>RQ.of x.v).length<=i:=iF
  apply vn (aY VJ hx);apply vn (ay bQ3 dO bY (.inl rfl));apply aA (Gd x (h x (cj hx)));apply bh (us:=[qC x.v]);refine rW (xs:=(l.take i).map bz.v) (x:=x.v) (f:=qC) rfl rfl O (by simp only[maxLen];omega) ?_;rw[pV hx];apply bh (us:=[rC (RQ.of x.v)]);dsimp only[aP,aQ];refine rW (xs:=(l.take i).map fun x:bz=>RQ.of x.v) (x:=RQ.of x.v) (f:=rC) rfl rfl O (by simp only[maxLen];omega) ?_;rw[pV (f:=fun x:bz=>RQ.of x.v) hx];apply vn aC;dsimp only[aP,aQ];exact aa rfl ⟨⟨i+1,O⟩,aR.rfl,by show l.length-(i+1)<l.length-i;omega⟩
 rw[show i=l.length by omega,eW];exact aN
def bz.short(x:bz):Bool:=decide (x.pow%4=0/\x.n<=999/\-999<=x.n/\x.d<=999/\-999<=x.d)
def bz.Ew(x:bz):Bool:=decide (x.pow%4=0/\x.n<=99/\-99<=x.n/\x.d<=99/\-99<=x.d)
def zj(x:bz)(h:x.In):aK prog 39 [(nT x:aF)] (.ret [.one (.bool x.short)]):=by
 refine dB func39 aW7 ?_;apply vn gR;refine uS bA ?_ ?_<;>intro h2
 .refine uS iQ ?_ ?_<;>intro h4
  .refine uS gW ?_ ?_<;>intro h6
   .refine uS iQ ?_ ?_<;>intro h8
    .apply vn gW;dsimp only[aP,aQ];refine aN ?_;have:decide (-999<=x.d)=x.short:=by unfold bz.short;rw[kV];constructor<;>intro hh<;>omega
     rw[<-this];rfl
    refine aN ?_;have:x.short=false:=by unfold bz.short;rw[jJ];omega
    rw[this];rfl
   refine aN ?_;have:x.short=false:=by unfold bz.short;rw[jJ];omega
   rw[this];rfl
  refine aN ?_;have:x.short=false:=by unfold bz.short;rw[jJ];omega
  rw[this];rfl
 refine aN ?_;have:x.short=false:=by unfold bz.short;rw[jJ];omega
 rw[this];rfl
open Go
abbrev chr(d:Nat):UInt8:=UInt8.ofNat (48+d)
def ks:Nat->Nat->List UInt8
 | 0,_=>[]
 | k+1,n=>ks k (n/10)++[chr (n%10)]
abbrev dec(n:Nat):List UInt8:=Lib.decDigits n
def tc{n:Nat}(h:n<10):dec n=[chr n]:=by rw[dec,Lib.decDigits,dif_pos h]
def Ac{n:Nat}(h:¬n<10):dec n=dec (n/10)++[chr (n%10)]:=by rw[dec,Lib.decDigits,dif_neg h]
theorem vW:∀k n,(ks k n).length=k
 | 0,_=>rfl
 | k+1,n=>by rw[ks,gK,vW k];rfl
theorem GP:∀j k n,ks (j+k) n=ks j (n/10^k)++ks k n
 | j,0,n=>by simp[ks]
 | j,k+1,n=>by
   show ks (j+k) (n/10)++[chr (n%10)]=_;rw[GP j k (n/10),ks,gX,mW,bF,cD 10]
theorem TO:∀k n,ks k (n%10^k)=ks k n
 | 0,_=>rfl
 | k+1,n=>by
   have h1:n%10^(k+1)/10=n/10%10^k:=by
    rw[bF,cD,Nat.mod_mul_right_div_self]
   have h2:n%10^(k+1)%10=n%10:=Nat.mod_mod_of_dvd n ⟨10^k,by rw[bF,cD]⟩;rw[ks,ks,h1,h2,TO k]
theorem PN:∀k,ks k 0=List.replicate k 48
 | 0=>rfl
 | k+1=>by rw[ks,Nat.zero_div,PN k,Nat.zero_mod,List.replicate_succ'];rfl
def ad0(n:Nat):0<(dec n).length:=by
 by_cases h:n<10
 .rw[tc h];simp
 .rw[Ac h,gK];simp
theorem px:∀{k n:Nat},0<k->n<10^k->(dec n).length<=k
 | k+1,n,_,h=>by
   by_cases h10:n<10
   .rw[tc h10];simp
   .rw[Ac h10,gK];have h1:n/10<10^k:=by rw[bF]at h;omega
    have hk:0<k:=by rcases iI k with rfl | h2;· simp at h;omega
                    .exact h2
    have:=px hk h1;simp;omega
theorem TI:∀{k n:Nat},0<k->n<10^k->ks k n=List.replicate (k-(dec n).length) 48++dec n
 | k+1,n,_,h=>by
   by_cases h10:n<10
   .rw[tc h10,ks,gj h10,PN,gk h10];rfl
   .have h1:n/10<10^k:=by rw[bF]at h;omega
    have hk:0<k:=by rcases iI k with rfl | h2;· simp at h;omega
                    .exact h2
    rw[Ac h10,ks,TI hk h1,gX,gK]
    congr 2;simp
def am5{d:Nat}(hd:d<10):(chr d).toNat=48+d:=by
 simp only[chr,UInt8.toNat_ofNat'];omega
def aD1:∀(n:Nat),n≠0->∀c,(dec n).head? = some c->c≠48:=by
 intro n
 induction n using Nat.strongRecOn with
 | ind n ih=>
   intro h0 c hc;by_cases h:n<10
   .rw[tc h]at hc;simp only[List.head?_cons,aM]at hc;subst hc;intro e;have:=congrArg UInt8.toNat e;rw[am5 h]at this;simp at this;omega
   .rw[Ac h]at hc;have h2:=ad0 (n/10);rw[List.head?_append]at hc;cases hd:(dec (n/10)).head? with
    | none=>rw[List.head?_eq_none_iff]at hd;rw[hd]at h2;simp at h2
    | some d=>
      rw[hd]at hc;simp only[Option.some_or,aM]at hc;subst hc;exact ih (n/10) O O d hd
def aM2:dec 0=[48]:=by rw[tc O];rfl
def Bu(z:Int):List UInt8:=(if z<0 then[45]else[])++dec z.natAbs
def aI6(q:Rat):List UInt8:=Bu q.num++if q.den=1 then[]else 47::dec q.den
abbrev sT(l:k8):aE:=.str ⟨l.toArray⟩
abbrev bS(l:k8):aF:=.one (sT l)
section
variable{P:n7}{T U ty:TypeId}{x y z:n8}
def yZ{a b:k8}(h:a.length+b.length<=9223372036854775807):aq P (.binOp .add T x y U) ty [bS a,bS b] (bS (a++b)):=by
 have e:(⟨(a++b).toArray⟩:ByteArray)=⟨a.toArray⟩++⟨b.toArray⟩:=by
  apply ByteArray.ext;rw[ByteArray.data_append];simp
 show aq P _ ty _ (.one (.str ⟨(a++b).toArray⟩));rw[e];exact as3 (by show((a.toArray.size+b.toArray.size:Nat):Int)<=_;simp only[ed];omega)
def bH8{s:k8}{k:IntKind}{n:Int}{c:UInt8}(hu:P.underlying T=some .string)(hc:s[n.toNat]?=some c)(h0:0<=n:=by omega):aq P (.index T x y) ty [bS s,.one (.int k n)] (.one (.int .u8 c.toNat)):=by
 refine ai5 hu h0 ?_;obtain⟨hlt,he⟩:=fK.1 hc;have h1:n.toNat<(ByteArray.mk s.toArray).size:=by show _<s.toArray.size;simpa using hlt
 rw[getElem?_pos (ByteArray.mk s.toArray) n.toNat h1,<-he];rfl
def AR(s:k8)(i j:Nat):(ByteArray.mk s.toArray).extract i j=⟨((s.take j).drop i).toArray⟩:=by
 apply ByteArray.ext;rw[ByteArray.data_extract];simp[ac7,ox]
def bc9{s:k8}{k:IntKind}{n:Int}(hu:P.underlying T=some .string)(hn:n.toNat<=s.length)(h0:0<=n:=by omega):aq P (.slice T x (some y) none none) ty [bS s,.one (.int k n)] (bS (s.drop n.toNat)):=by
 have hs:(ByteArray.mk s.toArray).size=s.length:=by show s.toArray.size=_;simp
 have:=aZ4 (P:=P) (x:=x) (y:=y) (ty:=ty) (s:=⟨s.toArray⟩) (k:=k) hu h0 (by rw[hs];omega);rw[AR,hs,eW]at this;exact this
def bq7{s:k8}{k k':IntKind}{n m:Int}(hu:P.underlying T=some .string)(hm:m.toNat<=s.length)(h0:0<=n:=by omega)(hn:n<=m:=by omega):aq P (.slice T x (some y) (some z) none) ty [bS s,.one (.int k n),.one (.int k' m)] (bS ((s.take m.toNat).drop n.toNat)):=by
 have hs:(ByteArray.mk s.toArray).size=s.length:=by show s.toArray.size=_;simp
 have:=aw9 (P:=P) (x:=x) (y:=y) (z:=z) (ty:=ty) (s:=⟨s.toArray⟩) (k:=k) (k':=k') hu h0 hn (by rw[hs];omega);rw[AR]at this;exact this
def Wm{a b:k8}:aq P (.binOp .eql T x y U) ty [bS a,bS b] (.one (.bool (decide (a=b)))):=by
 have:decide (a=b)=decide ((ByteArray.mk a.toArray).data=(ByteArray.mk b.toArray).data):=by
  rw[kV];exact⟨fun h=>by rw[h],fun h=>by simpa using congrArg Array.toList h⟩
 rw[this];exact ca3
end
def TX{d:Nat}(h:d<10):(([48,49,50,51,52,53,54,55,56,57]:List UInt8).take (d+1)).drop d=[chr d]:=by
 match d,h with
 | 0,_=>rfl
 | 1,_=>rfl
 | 2,_=>rfl
 | 3,_=>rfl
 | 4,_=>rfl
 | 5,_=>rfl
 | 6,_=>rfl
 | 7,_=>rfl
 | 8,_=>rfl
 | 9,_=>rfl
 | d+10,h=>omega
def aK1{k H n:Nat}(h:n<2^H)(h0:n/10^k≠0):k<H:=by
 have h1:10^k<=n:=by
  rcases bG n (10^k)with h2 | h2
  .rw[gj h2]at h0;omega
  .exact h2
 have h2:2^k<=10^k:=gN O k;exact(Nat.pow_lt_pow_iff_right (a:=2) O).1 O
def aj2(k n:Nat):ks 4 (n/10^(4*k)%10000)++ks (4*k) n=ks (4*(k+1)) n:=by
 have:=TO 4 (n/10^(4*k));rw[show(10:Nat)^4=10000 by decide]at this;rw[this,<-GP,show 4+4*k=4*(k+1) by omega]
def Tn(k n:Nat):n/10^(4*k)/10000=n/10^(4*(k+1)):=by
 rw[mW,show 4*(k+1)=4*k+4 by omega,eH]
def XV(i r:Nat):[chr (r/10^i%10)]++ks i r=ks (i+1) r:=by
 rw[show i+1=1+i by omega,GP];rfl
def Yc(r i:Nat):r/10^i/10=r/10^(i+1):=by rw[mW,bF]
def ca1:Tr:=FX .rem 3 31 10 11 0 3 (bX 15 1 3 32 (.need (.prim [.one (.c (.k (.string ⟨#[48,49,50,51,52,53,54,55,56,57]⟩))),W 14 0,W 16 0] none) (.slice 9 (.const (.string ⟨#[48,49,50,51,52,53,54,55,56,57]⟩)) (some (tT 30)) (some (tT 33)) none) 9 false (dh 17 0 10 0 9 34 35 (FX .quo 3 37 10 11 0 3 (bX 12 1 3 27 (vM 1 18 19 20))))))
def cA3:Tr:=oO 10000 45 (eO 213 [W 3 0,.one (.c (.sr 1 6))] [none,none] [18,19] [45,45] 269 false (vC 257 8 23 45 3 (.loop 1 [lV 2 0,lV 9 0,lK 0] (kp 12 0 4 3 25 (aJ 13 0 (FX .rem 3 29 10 11 0 3 ca1) (kA 0 10 7))))))
def bV9:Tr:=ID 2 (.need (.prim [W 6 0,WK 0] none) (.index 9 (tT 40) (.const (I3 0))) 5 false (js 7 48 41 (aJ 8 0 (Yi 6 9 43 av4) (kp 0 0 0 3 46 (aJ 9 0 (aT2 6 48 aQ2) Xy)))))
def cj4:Tr:=gd 0 0 0 3 10 (aJ 1 0 (.ret [.one (.c (.k (.string ⟨#[48]⟩)))]) (.loop 0 [.w (.one (.c (.k (.string ⟨#[]⟩)))),lV 0 1] (bD 3 0 14 45 (ia 4 0 0 3 15 (aJ 5 0 cA3 bV9)))))
def au0:aO prog f206 cT [.v (some 2)]=cj4:=aT
def cy6:Tr:=kq 3 0 15 (aJ 4 0 (mv 117 0 1 18 35 (Ih 178 5 19 9 (aO2 6 (dh 2 0 7 0 9 17 21 (cC 8))))) (cC 2))
def bI3:Tr:=kq 2 0 15 (aJ 3 0 (mv 117 0 1 18 35 (Ih 178 4 19 9 (aO2 5 (dh 1 0 6 0 9 17 21 (cC 7))))) (cC 1))
def cA6:Tr:=Im 178 0 0 6 9 (aJ 0 1 (aT2 1 11 (Im 179 0 2 14 4 cy6)) (Im 179 0 2 14 4 bI3))
def bi3:aO prog f90 cT [.v (some 3)]=cA6:=aT
def Vb(z:Int)(H:Nat)(hz:z.natAbs<2^H)(hH:H<=34359738360:=by omega):aK prog 206 [(zT z:aF)] (.ret [bS (Bu z)]):=by
 refine dB func206 au0 ?_;have hb:=jM hz;have hb1:(bd 10000).length=1:=by rw[TB];rfl
 obtain⟨n,hn⟩:∃n,z.natAbs=n:=⟨_,rfl⟩
 rw[hn]at hz hb;rw[show zT z=.agg [.int .i64 z.sign,bT n] by rw[<-hn]];refine uS bA ?_ ?_<;>intro h1
 .have hz0:z=0:=Bk.1 h1;subst hz0;rw[show Bu 0=[48] by rw[Bu,aD O];exact aM2];exact aN
 have hn0:n≠0:=fun e=>h1 (by rw[Bk];omega);refine bC {k:Nat // n/10^(4*(k-1))≠0} (fun g=>[bS (ks (4*g.1) n),.one (bT (n/10^(4*g.1)))]) (fun g=>n/10^(4*g.1)) ⟨0,by simpa using hn0⟩ (show aR _ _ by rw[fu,jt,rO];exact aR.rfl) (fun _=>rfl) ?_;rintro⟨k,hk⟩;dsimp only[aP,aQ]at hk|-;have hk4:4*(k-1)<H:=aK1 hz hk;generalize hm:n/10^(4*k)=m;have hmn:m<=n:=by rw[<-hm];exact oA _ _
 have hbm:=iD hmn;apply vn (aZ gZ (aX _));refine uS fL ?_ ?_<;>intro h6
 .have hm0:m≠0:=fun e=>by subst e;rw[Gg]at h6;simp at h6
  apply bh (us:=[[.int .i64 10000]]);dsimp only[aP,aQ];have hover:=mf m 10000;rw[show bT 10000=.slice 1 [[.int .i64 10000]] by rw[bT,TB];rfl]at hover;apply aA hover
  apply aA (HB (m%10000) (by
   have:=mA (n:=m%10000) (k:=1) O;omega)) rfl
  dsimp only[aP,aQ];have hr:m%10000<10000:=eK _ O;generalize hr':m%10000=r at hr|-;refine bC {i:Nat // i<=4} (fun g=>[bS (ks g.1 r++ks (4*k) n),.one (.int .i64 ((r/10^g.1:Nat):Int)),.one (.int .i64 g.1)]) (fun g=>4-g.1) ⟨0,O⟩ (show aR _ _ by rw[jt,rO];exact aR.rfl) (fun _=>rfl) ?_;rintro⟨i,hi⟩;dsimp only[aP,aQ]at hi|-;refine uS az ?_ ?_<;>intro h12
  .have hri:r/10^i<=r:=oA _ _;generalize ht:r/10^i=t at hri|-;have ht10:t%10<10:=eK _ O;apply vn gR;apply vn gR;apply vn aC;dsimp only[aP,aQ];apply vn (bq7 un9 (by show _<=10;omega)) rfl;dsimp only[aP,aQ];rw[show((t:Int)%10+1).toNat=t%10+1 by omega,show((t:Int)%10).toNat=t%10 by omega,TX ht10];apply vn (yZ (by simp only[gK,vW,bm,ck];omega)) rfl;apply vn kW;apply vn aC;dsimp only[aP,aQ]
   exact aa rfl ⟨⟨i+1,O⟩,aR.of_eq (show[bS ([chr (t%10)]++(ks i r++ks (4*k) n)),(.one (.int .i64 ((t:Int)/10)):aF),.one (.int .i64 ((i:Int)+1))]=_ by
    dsimp only;rw[<-gX,<-ht,XV,<-Yc];rfl),by show 4-(i+1)<4-i;omega⟩
  refine aa rfl ⟨⟨k+1,by rw[ny,hm];exact hm0⟩,?_,?_⟩
  .dsimp only;rw[show i=4 by omega,<-hr',<-hm,aj2,Tn];exact aR.rfl
  .show n/10^(4*(k+1))<m;rw[<-Tn,hm];exact uX O O
 have hm0:m=0:=by
  have:bd m=[]:=ij O;exact Jb.1 this
 have hlt:n<10^(4*k):=by
  rcases bG n (10^(4*k))with h | h
  .exact h
  .have:=sF h (aw O);omega
 have hk0:0<4*k:=by
  rcases iI (4*k)with h | h
  .rw[h]at hlt;simp at hlt;omega
  .exact h
 rw[TI hk0 hlt];have hdl:=px hk0 hlt;have hdp:=ad0 n;refine bC {c:Nat // c<=4*k} (fun g=>[bS (List.replicate g.1 48++dec n)]) (fun g=>g.1) ⟨4*k-(dec n).length,O⟩ aR.rfl (fun _=>rfl) ?_;rintro⟨c,hc⟩;dsimp only[aP,aQ]at hc|-;obtain⟨x,hx⟩:∃x,(List.replicate c (48:UInt8)++dec n)[(0:Int).toNat]?=some x:=⟨_,bU (by simp only[gK];show 0<_;omega)⟩
 apply vn (bH8 un9 hx);refine uS bA ?_ ?_<;>intro h25
 .obtain⟨c',rfl⟩:∃c',c=c'+1:=by
   cases c with
   | succ c=>exact⟨c,rfl⟩
   | zero=>
     rw[ZP,List.nil_append]at hx;have h1:=aD1 n hn0 x (by rw[YS];exact hx);exact(h1 (UInt8.toNat_inj.1 (by show x.toNat=48;omega))).elim
  apply vn (bc9 un9 (by simp only[gK,lH];omega)) rfl;dsimp only[aP,aQ];exact aa rfl ⟨⟨c',O⟩,aR.rfl,by show c'<c'+1;omega⟩
 obtain rfl:c=0:=by
  cases c with
  | zero=>rfl
  | succ c=>
    rw[nw]at hx;have:x=48:=by simpa using hx.symm
    subst this;exact(h25 rfl).elim
 rw[ZP,List.nil_append];refine uS az ?_ ?_<;>intro h29
 .apply vn (yZ (a:=[45]) (by simp only[bm,ck];omega)) rfl;dsimp only[aP,aQ];have hneg:z<0:=by rcases dG z with⟨h,e⟩ | ⟨h,e⟩ | ⟨h,e⟩<;>omega
  rw[show Bu z=[45]++dec n by rw[Bu,aI hneg,hn]];exact aN
 have hneg:¬z<0:=by rcases dG z with⟨h,e⟩ | ⟨h,e⟩ | ⟨h,e⟩<;>omega
 rw[show Bu z=dec n by rw[Bu,aD hneg,hn];rfl];exact aN
def vi{n H:Nat}(h:n<2^H):(dec n).length<=H+1:=
 px (Nat.succ_pos H) (bt h (an (gN O H) (cB O (Qm H))))
def Ua{z:Int}{H:Nat}(h:z.natAbs<2^H):(Bu z).length<=H+2:=by
 have:=vi h;unfold Bu;rw[gK];split<;>simp <;> omega
end Go.Sy
namespace Go.Proofs
open Go.Shelf
def Tryz.CP:Go.Shelf.Ren:=⟨fun | 169=>244 | n=>n,fun | 70=>284 | 9=>9 | 0=>0 | 72=>287 | 37=>285 | 127=>325 | 3=>3 | 5=>5 | n=>n,fun | n=>n⟩
def Tryz.bd2:Go.Proofs.Lays.n169 Tryz.prog Tryz.CP:={
 mixed:=aT
 f169:=Tryz.func244.trans (congrArg some aT)
 t0:=Tryz.underlying0
 a0:=Tryz.isAgg0
 z0:=Tryz.sizeOf0
 v0:=Tryz.zeroValue0
 t3:=Tryz.underlying3
 a3:=Tryz.isAgg3
 z3:=Tryz.sizeOf3
 v3:=Tryz.zeroValue3
 t9:=Tryz.underlying9
 a9:=Tryz.isAgg9
 z9:=Tryz.sizeOf9
 v9:=Tryz.zeroValue9
 t37:=Tryz.underlying285
 a37:=Tryz.isAgg285
 z37:=Tryz.sizeOf285
 v37:=Tryz.zeroValue285
 t70:=Tryz.underlying284
 a70:=Tryz.isAgg284
 z70:=Tryz.sizeOf284
 v70:=Tryz.zeroValue284
 t72:=Tryz.underlying287
 a72:=Tryz.isAgg287
 z72:=Tryz.sizeOf287
 v72:=Tryz.zeroValue287
 t127:=Tryz.underlying325
 a127:=Tryz.isAgg325
 z127:=Tryz.sizeOf325
 v127:=Tryz.zeroValue325 }
def Tryz.AO:Builder.Extra Tryz.prog Tryz.CP:={
 sizeBuilder:=aT
 liesBuilder:=aT
 t5:=Tryz.underlying5
 a5:=Tryz.isAgg5
 z5:=Tryz.sizeOf5
 v5:=Tryz.zeroValue5
 infoByte:=aT
 cellsByte:=aT
 sizeByte:=aT
 neB5:=by decide }
open Go.RowKit in
def Tryz.Builder_String_any_k(B b:Nat)(l:k8)(w:World)(h:Lib.IsBuilderF 287 5 B b (Lib.byteCells l) w)(hBw:B<=w.heap.size) :
  Calls Tryz.prog 244 #[.pointer (some ⟨b,0,none⟩)] w fun e w'=>e=.returned (.string ⟨l.toArray⟩)/\(Lib.IsBuilderF 287 5 B b (Lib.byteCells l) w'/\Below B w w'/\Lib.OthersKept 5 (some b) w w'):=Any.Builder_String_any_k Tryz.bd2 Tryz.AO B b l w h hBw
def Tryz.RN:Go.Shelf.Ren:=⟨fun | 171=>241 | 243=>275 | 246=>288 | 283=>295 | 284=>296 | 285=>297 | 286=>298 | 129=>301 | 317=>300 | 318=>302 | 319=>303 | 320=>304 | 337=>305 | 338=>306 | n=>n,fun | 3=>3 | 9=>9 | 2=>2 | 4=>4 | 171=>336 | 0=>0 | 53=>254 | 37=>285 | 5=>5 | 173=>339 | 212=>343 | 51=>255 | 20=>20 | 213=>344 | 46=>320 | 232=>347 | 233=>348 | n=>n,fun | 17=>0 | 18=>2 | 19=>3 | n=>n⟩
def Tryz.at3:Go.Proofs.LaysM.n171 Tryz.prog Tryz.RN:={
 mixed:=aT
 f129:=Tryz.func301.trans (congrArg some aT)
 f171:=Tryz.func241.trans (congrArg some aT)
 f243:=Tryz.func275.trans (congrArg some aT)
 f246:=Tryz.func288.trans (congrArg some aT)
 f283:=Tryz.func295.trans (congrArg some aT)
 f284:=Tryz.func296.trans (congrArg some aT)
 f285:=Tryz.func297.trans (congrArg some aT)
 f286:=Tryz.func298.trans (congrArg some aT)
 f317:=Tryz.func300.trans (congrArg some aT)
 f318:=Tryz.func302.trans (congrArg some aT)
 f319:=Tryz.func303.trans (congrArg some aT)
 f320:=Tryz.func304.trans (congrArg some aT)
 f337:=Tryz.func305.trans (congrArg some aT)
 f338:=Tryz.func306.trans (congrArg some aT)
 t0:=Tryz.underlying0
 a0:=Tryz.isAgg0
 z0:=Tryz.sizeOf0
 v0:=Tryz.zeroValue0
 t2:=Tryz.underlying2
 a2:=Tryz.isAgg2
 z2:=Tryz.sizeOf2
 v2:=Tryz.zeroValue2
 t3:=Tryz.underlying3
 a3:=Tryz.isAgg3
 z3:=Tryz.sizeOf3
 v3:=Tryz.zeroValue3
 t4:=Tryz.underlying4
 a4:=Tryz.isAgg4
 z4:=Tryz.sizeOf4
 v4:=Tryz.zeroValue4
 t5:=Tryz.underlying5
 a5:=Tryz.isAgg5
 z5:=Tryz.sizeOf5
 v5:=Tryz.zeroValue5
 t9:=Tryz.underlying9
 a9:=Tryz.isAgg9
 z9:=Tryz.sizeOf9
 v9:=Tryz.zeroValue9
 t20:=Tryz.underlying20
 a20:=Tryz.isAgg20
 z20:=Tryz.sizeOf20
 v20:=Tryz.zeroValue20
 t37:=Tryz.underlying285
 a37:=Tryz.isAgg285
 z37:=Tryz.sizeOf285
 v37:=Tryz.zeroValue285
 t46:=Tryz.underlying320
 a46:=Tryz.isAgg320
 z46:=Tryz.sizeOf320
 v46:=Tryz.zeroValue320
 t51:=Tryz.underlying255
 a51:=Tryz.isAgg255
 z51:=Tryz.sizeOf255
 v51:=Tryz.zeroValue255
 t53:=Tryz.underlying254
 a53:=Tryz.isAgg254
 z53:=Tryz.sizeOf254
 v53:=Tryz.zeroValue254
 t171:=Tryz.underlying336
 a171:=Tryz.isAgg336
 z171:=Tryz.sizeOf336
 v171:=Tryz.zeroValue336
 t173:=Tryz.underlying339
 a173:=Tryz.isAgg339
 z173:=Tryz.sizeOf339
 v173:=Tryz.zeroValue339
 t212:=Tryz.underlying343
 a212:=Tryz.isAgg343
 z212:=Tryz.sizeOf343
 v212:=Tryz.zeroValue343
 t213:=Tryz.underlying344
 a213:=Tryz.isAgg344
 z213:=Tryz.sizeOf344
 t232:=Tryz.underlying347
 a232:=Tryz.isAgg347
 z232:=Tryz.sizeOf347
 v232:=Tryz.zeroValue347
 t233:=Tryz.underlying348
 a233:=Tryz.isAgg348
 z233:=Tryz.sizeOf348
 v233:=Tryz.zeroValue348
 g17:=aT
 g18:=aT
 g19:=aT
 i0:=aT
 i2:=aT
 i3:=aT
 i4:=aT
 i5:=aT
 i9:=aT
 i20:=aT
 i37:=aT
 i46:=aT
 i51:=aT
 i53:=aT
 i171:=aT
 i173:=aT
 i212:=aT
 i232:=aT
 i233:=aT
 m17:=aT
 m18:=aT
 m19:=by kernel_rfl }
open Go.RowKit Go.Sort Go.Lib in
def Tryz.strconv_Itoa(n:Int)(h0:-9223372036854775808<=n)(h1:n<=9223372036854775807)(w:World)(htab:Lib.TabIs Tryz.prog w "internal/strconv.uint64pow10" .u64 Lib.pow10Tab) :
  Calls Tryz.prog 241 #[.int .i64 n] w fun e w'=>e=.returned (.string ⟨(Lib.itoa n).toArray⟩)/\∃k os,w'=grow (w.drewN k) os:=Any.strconv_Itoa Tryz.at3 n h0 h1 w htab
def Tryz.Da:Go.Shelf.Ren:=⟨fun | 105=>243 | 212=>277 | 99=>278 | 165=>279 | 166=>242 | 170=>280 | 169=>244 | 263=>290 | 264=>291 | 206=>292 | 240=>276 | 241=>293 | 276=>289 | 277=>299 | n=>n,fun | 9=>9 | 3=>3 | 4=>4 | 20=>20 | 0=>0 | 46=>320 | 109=>321 | 5=>5 | 72=>287 | 76=>294 | 51=>255 | 146=>331 | 53=>254 | 148=>333 | 70=>284 | 37=>285 | 75=>293 | 127=>325 | 164=>329 | 80=>144 | n=>n,fun | n=>n⟩
def Tryz.bi7:Go.Proofs.Lays.n105 Tryz.prog Tryz.Da:={
 mixed:=aT
 f99:=Tryz.func278.trans (congrArg some aT)
 f105:=Tryz.func243.trans (congrArg some aT)
 f165:=Tryz.func279.trans (congrArg some aT)
 f166:=Tryz.func242.trans (congrArg some aT)
 f169:=Tryz.func244.trans (congrArg some aT)
 f170:=Tryz.func280.trans (congrArg some aT)
 f206:=Tryz.func292.trans (congrArg some aT)
 f212:=Tryz.func277.trans (congrArg some aT)
 f240:=Tryz.func276.trans (congrArg some aT)
 f241:=Tryz.func293.trans (congrArg some aT)
 f263:=Tryz.func290.trans (congrArg some aT)
 f264:=Tryz.func291.trans (congrArg some aT)
 f276:=Tryz.func289.trans (congrArg some aT)
 f277:=Tryz.func299.trans (congrArg some aT)
 t0:=Tryz.underlying0
 a0:=Tryz.isAgg0
 z0:=Tryz.sizeOf0
 v0:=Tryz.zeroValue0
 t3:=Tryz.underlying3
 a3:=Tryz.isAgg3
 z3:=Tryz.sizeOf3
 v3:=Tryz.zeroValue3
 t4:=Tryz.underlying4
 a4:=Tryz.isAgg4
 z4:=Tryz.sizeOf4
 v4:=Tryz.zeroValue4
 t5:=Tryz.underlying5
 a5:=Tryz.isAgg5
 z5:=Tryz.sizeOf5
 v5:=Tryz.zeroValue5
 t9:=Tryz.underlying9
 a9:=Tryz.isAgg9
 z9:=Tryz.sizeOf9
 v9:=Tryz.zeroValue9
 t20:=Tryz.underlying20
 a20:=Tryz.isAgg20
 z20:=Tryz.sizeOf20
 v20:=Tryz.zeroValue20
 t37:=Tryz.underlying285
 a37:=Tryz.isAgg285
 z37:=Tryz.sizeOf285
 v37:=Tryz.zeroValue285
 t46:=Tryz.underlying320
 a46:=Tryz.isAgg320
 z46:=Tryz.sizeOf320
 v46:=Tryz.zeroValue320
 t51:=Tryz.underlying255
 a51:=Tryz.isAgg255
 z51:=Tryz.sizeOf255
 v51:=Tryz.zeroValue255
 t53:=Tryz.underlying254
 a53:=Tryz.isAgg254
 z53:=Tryz.sizeOf254
 v53:=Tryz.zeroValue254
 t70:=Tryz.underlying284
 a70:=Tryz.isAgg284
 z70:=Tryz.sizeOf284
 v70:=Tryz.zeroValue284
 t72:=Tryz.underlying287
 a72:=Tryz.isAgg287
 z72:=Tryz.sizeOf287
 v72:=Tryz.zeroValue287
 t75:=Tryz.underlying293
 a75:=Tryz.isAgg293
 z75:=Tryz.sizeOf293
 v75:=Tryz.zeroValue293
 t76:=Tryz.underlying294
 a76:=Tryz.isAgg294
 z76:=Tryz.sizeOf294
 v76:=Tryz.zeroValue294
 t109:=Tryz.underlying321
 a109:=Tryz.isAgg321
 z109:=Tryz.sizeOf321
 v109:=Tryz.zeroValue321
 t127:=Tryz.underlying325
 a127:=Tryz.isAgg325
 z127:=Tryz.sizeOf325
 v127:=Tryz.zeroValue325
 t146:=Tryz.underlying331
 a146:=Tryz.isAgg331
 z146:=Tryz.sizeOf331
 v146:=Tryz.zeroValue331
 t148:=Tryz.underlying333
 a148:=Tryz.isAgg333
 z148:=Tryz.sizeOf333
 v148:=Tryz.zeroValue333
 t164:=Tryz.underlying329
 a164:=Tryz.isAgg329
 z164:=Tryz.sizeOf329
 v164:=Tryz.zeroValue329 }
def Tryz.BC:Builder.Extra Tryz.prog Tryz.Da:={
 sizeBuilder:=aT
 liesBuilder:=aT
 t5:=Tryz.underlying5
 a5:=Tryz.isAgg5
 z5:=Tryz.sizeOf5
 v5:=Tryz.zeroValue5
 infoByte:=aT
 cellsByte:=aT
 sizeByte:=aT
 neB5:=by decide }
end Go.Proofs
namespace Go.Sy
open Go Go.Proofs Go.RowKit Go.Shelf Tryz Ord
attribute [local go_sem] Oper.semAt_some
abbrev D9:={d:Nat // d<1000000000}
instance:Inhabited D9:=⟨⟨0,O⟩⟩
abbrev bV0(d:D9):Value:=.int .u32 (d.1:Int)
def tx(L:Nat)(pre:List (Nat×D9)):List UInt8:=pre.foldl (fun t x=>t++if x.1+1<L then ks 9 x.2.1 else dec x.2.1) []
def bg4(L:Nat)(pre:List (Nat×D9))(x:Nat×D9):tx L (pre++[x])=tx L pre++if x.1+1<L then ks 9 x.2.1 else dec x.2.1:=by simp[tx]
def Tc(L:Nat)(x:Nat×D9):(if x.1+1<L then ks 9 x.2.1 else dec x.2.1).length<=9:=by
 split
 .rw[vW];omega
 .exact px O (by rw[show(10:Nat)^9=1000000000 by decide];exact x.2.2)
def bY0(L:Nat)(pre:List (Nat×D9)):(tx L pre).length<=9*pre.length:=by
 have h:∀(l:List (Nat×D9))(t:k8),(l.foldl (fun t x=>t++if x.1+1<L then ks 9 x.2.1 else dec x.2.1) t).length<=t.length+9*l.length:=by
  intro l
  induction l with
  | nil=>intro t;simp
  | cons x l ih=>
    intro t;have h1:=ih (t++if x.1+1<L then ks 9 x.2.1 else dec x.2.1);have h2:=Tc L x;rw[gK]at h1;rw[List.foldl_cons,bm];omega
 have:=h pre []
 simpa[tx]using this
def SZ{ds:j3}(h:Dg ds):∃vs:List D9,vs.map Subtype.val=ds:=by
 induction ds with
 | nil=>exact⟨[],rfl⟩
 | cons d ds ih=>
   obtain⟨vs,hv⟩:=ih fun x hx=>h x (fj _ hx);exact⟨⟨d,h d gG⟩::vs,by rw[dy,hv]⟩
def NG(w:World)(k:Nat)(os:Array Obj):Below w.heap.size w (Sort.grow (w.drewN k) os):=by
 refine⟨rfl,rfl,rfl,?_,fun j hj=>?_⟩
 .show w.heap.size<=(w.heap++os).size;rw[Array.size_append];omega
 .show(w.heap++os)[j]?=_;exact FH hj
def bo3(n:Nat)(w:World)(M:j2)(hM:Good M w)(hn:n<=9223372036854775807:=by omega) :
  Calls prog 241 #[.int .i64 (n:Int)] w fun e w'=>e=.returned (.string ⟨(dec n).toArray⟩)/\Below w.heap.size w w':=by
 obtain⟨_,T,fz,h⟩:=hM (0,JL) (by simp[aZ0.tab])
 have htab:Lib.TabIs prog w "internal/strconv.uint64pow10" .u64 Lib.pow10Tab:=by
  unfold Lib.TabIs World.var?;rw[show prog.globalNamed "internal/strconv.uint64pow10" = some 0 by kernel_rfl];have h:w.heap[0]?=some (.cells JL T fz):=h;simp only[Option.bind_some,h];rfl
 refine(Tryz.strconv_Itoa (n:Int) O O w htab).mono ?_;rintro e w' ⟨rfl,k,os,rfl⟩;refine⟨?_,NG w k os⟩;rw[Lib.itoa_nonneg]
def bb2(B b:Nat)(bs:n5)(s:ByteArray)(w:World)(h:Lib.IsBuilderF 287 5 B b bs w)(hlen:bs.length+s.size<=140737488355328)(hBw:B<=w.heap.size) :
  Calls prog 242 #[.pointer (some ⟨b,0,none⟩),.string s] w fun e w'=>e=.returned (.tuple #[.int .i64 s.size,.nilIface])/\(Lib.IsBuilderF 287 5 B b (bs++Lib.strCells s) w'/\Below B w w'/\Lib.OthersKept 5 (some b) w w'):=
 (Any.Builder_WriteString_k { Tryz.bi7 with } Tryz.BC B b bs s w h hlen hBw).mono fun e w' ⟨h1,h2,h3,h4⟩=>⟨h1,.inr h2,h3,h4⟩
def TU{T e B b:Nat}{bs:n5}{A A':World}(h:Lib.IsBuilderF T e B b bs A)(k:∀(j:Nat)(o:Obj),A.heap[j]?=some o->o.isCells=true->A'.heap[j]?=some o):Lib.IsBuilderF T e B b bs A':=by
 have one:∀p,Lib.BuilderAtF T e B b p bs A->Lib.BuilderAtF T e B b p bs A':=by
  rintro p ⟨h1,v,h2,⟨h3,h4⟩,h5⟩;refine⟨h1,v,k _ _ h2 rfl,⟨h3,?_⟩,h5⟩;rcases h4 with h4 | ⟨g,cap,cur,fz,h6,h7,h8,h9⟩
  .exact .inl h4
  .exact .inr ⟨g,cap,cur,fz,h6,h7,k _ _ h8 rfl,h9⟩
 exact h.elim (fun x=>.inl (one _ x)) (fun x=>.inr (one _ x))
def gD{A B:World}{row:Option Nat}(hg:A.grownBy B row)(hr:∀r,row=some r->∃o:Obj,A.heap[r]?=some o/\o.isCells=false){b:Nat}{o:Obj}(ho:A.heap[b]?=some o)(hc:o.isCells=true):B.heap[b]?=some o:=by
 refine(hg.block b (cf.1 ho).1 fun e=>?_).trans ho;obtain⟨o',ho',hc'⟩:=hr b e.symm;rw[ho]at ho';cases ho';rw[hc]at hc';cases hc'
def aH{W:World}{b T:Nat}{cs:l7}{fz:Nat×Nat}(h:W.heap[b]?=some (.cells cs T fz)){j:Nat}{v:Value}(hj:cs[j]?=some v):W.cell? ⟨b,j,none⟩=some v:=by
 simp only[World.cell?,h]
 simpa using hj
def Du{A A':World}(h:Below A.heap.size A A')(j:Nat)(o:Obj)(ho:A.heap[j]?=some o):A'.heap[j]?=some o:=(h.block j (cf.1 ho).1).trans ho
def bc0(n:Nat)(a:o9)(len cap:Nat)(w:World) :
  CallsIn Fence.wide n prog 179 #[.agg #[.slice a len cap]] w fun e w'=>e=.returned (.bool (decide ((len:Int)=0)))/\w'=w.alloc (.cells #[.slice a len cap] 35):=by
 refine pA func179 rfl trivial ?_ rfl;simp only[ntmps179,ed,bm,ck,Nat.reduceAdd,Nat.reduceSub,fX,fW,fS,fU,List.nil_append,List.cons_append]
 gi_wp2
 go_ret
 exact⟨rfl,rfl⟩
def ao5{n0 L cap:Nat}{a:o9}{W0 W W':World}{bs bs':n5}(h2:Below (n0+2) W0 W)(h3:n0+4<=W.heap.size)(h4:W.heap[n0+3]?=some (.cells #[.slice a L cap] 33 (0,0)))
  (hb:Below (n0+2) W W') (ho:∀k o,W.heap[k]?=some o->some k≠some (n0+2)->(∀c fz,o≠.cells c 5 fz)->W'.heap[k]?=some o)
  (h1:Lib.IsBuilderF 287 5 (n0+2) (n0+2) bs W) (h1':Lib.IsBuilderF 287 5 (n0+2) (n0+2) bs' W') :
  KeepsOthers W W'/\KpB n0 (n0+3) W W'/\Lib.IsBuilderF 287 5 (n0+2) (n0+2) bs' W'/\Below (n0+2) W0 W'/\n0+4<=W'.heap.size/\W'.heap[n0+3]?=some (.cells #[.slice a L cap] 33 (0,0)):=by
 have h5:=ho _ _ h4 bY (by intro c fz h;cases h)
 obtain⟨cs,T,fz,hbc⟩:∃cs T fz,W.heap[n0+2]?=some (.cells cs T fz):=by
  rcases h1 with⟨_,v,h,_⟩ | ⟨_,v,h,_⟩
  .exact⟨_,_,_,h⟩
  .exact⟨_,_,_,h⟩
 refine⟨⟨hb.size,fun k o hk hc=>ho k o hk ?_ (by rintro c fz rfl;cases hc)⟩,⟨hb.mono O,fun v hv=>?_⟩,h1',h2.trans hb,an h3 hb.size,h5⟩
 .rintro e;cases e;rw[hbc]at hk;cases hk;cases hc
 .simp only[World.cell?,h4,h5]at hv|-;exact hv
def bq5(n:Nat)(a:o9)(len cap:Nat)(h:len≠0)(w:World) :
  CallsIn Fence.wide n prog 179 #[.agg #[.slice a len cap]] w fun e w'=>e=.returned (.bool false)/\w'=w.alloc (.cells #[.slice a len cap] 35):=by
 have:=bc0 n a len cap w;rw[ej O]at this;exact this
end Go.Sy
namespace Go.Sy
open Go Go.Proofs Go.RowKit Go.Shelf Tryz Ord
attribute [local go_sem] Oper.semAt_some
def cl9:Tr:=yD 36 0 0 1 0 2 2 2 1 2 2 6 7 (lZ 64 3 0 3 1 3 2 1 0 1 1 1 2 8 9 (iz 4 4 1 4 2))
def ao9:aO prog f246 cT [.v (some 3),.v (some 3),.ref 3]=cl9:=aT
def od(ps:j1)(c:Rat):Rat:=ps.foldr (fun a v=>v*c+a) 0
def aj4(v c x:Rat)(A B C:Nat)(hv:Fit A v)(hc:Fit B c)(hx:Fit C x)(hA:A+B+C<=4294967296):aK prog 246 [(qT v:aF),(qT c:aF),(.one (.aW (qC x)):aF)] (.ret [qT (v*x+c)]):=by
 refine dvr (ins:=[.v (qT v),.v (qT c),.ref (qC x)]) func246 ao9 ?_;apply aA (cr v x A C hv hx);apply aA (lU (v*x) c _ B (hv.mul hx) hc);exact aN
section
variable(M:j2)(w:World)(B:Nat)
structure QV where
 q:Rat
 u0:Value
 u1:Value
 u2:Value
 fit:Fit B q
 rep:ai M w (qC q) [u0,u1,u2]
end
theorem aZ8(M:j2)(w:World)(B:Nat)(hB:1<=B):Nonempty (QV M w B):=
 ⟨⟨0,.slice none 0 0,.bool false,.slice none 0 0,Fit.zero hB,ai.sub fg ⟨⟨rfl,rfl⟩,⟨rfl,rfl⟩,⟨rfl,rfl⟩,trivial⟩⟩⟩
def hv{M:j2}{w:World}{B:Nat}(x:Rat)(pre:List (Nat×QV M w B)):Rat:=pre.foldl (fun v c=>v*x+c.2.q) 0
def bR1{W:World}{b T:Nat}{cs:l7}(h:W.heap[b]?=some (.cells cs T (0,0)))(j:Nat):W.frozen? ⟨b,j,none⟩=false:=by
 simp[World.frozen?,h]
def nO{P:n7}{W:World}{b T j:Nat}{cs:l7}{u:Value}(h:W.heap[b]?=some (.cells cs T (0,0)))(hj:j<cs.size)(o:u.oneCell'=true) :
  (store ⟨b,j,none⟩ u).run P W=.ok () (W.setRow b (cs.setIfInBounds j u)):=by
 have hcell:W.cell? ⟨b,j,none⟩=some cs[j]:=by simp[World.cell?,h,hj]
 have hfro:W.frozen? ⟨b,j,none⟩=false:=by simp[World.frozen?,h]
 rw[run_store P W _ u _ o,hcell];simp[hfro,xM W b j cs T (0,0) u h]
def yW{P:n7}{W:World}{b T:Nat}{c0 c1 c2 u0 u1 u2:Value}(h:W.heap[b]?=some (.cells #[c0,c1,c2] T (0,0)))(o0:u0.oneCell'=true)(o1:u1.oneCell'=true)(o2:u2.oneCell'=true) :
  (((store ⟨b,0,none⟩ u0).run P W).andThen fun _ w'=>((store ⟨b,1,none⟩ u1).run P w').andThen fun _ w'=>(store ⟨b,2,none⟩ u2).run P w')=.ok () (W.setRow b #[u0,u1,u2]):=by
 rw[nO h bY o0,gA,nO (dP W b _ _ T (0,0) h) bY o1,gA,nq,nO (dP W b _ _ T (0,0) h) bY o2,nq];rfl
def below_setRow{n:Nat}{A W:World}{g:Nat}(h:Below n A W)(cs:l7)(hg:n<=g:=by omega):Below n A (W.setRow g cs):=
 ⟨h.os,h.tape,h.output,by simpa[World.setRow]using h.size,fun k hk=>by
  rw[du W g k cs O];exact h.block k hk⟩
def aZ2{M:j2}{w:World}{B:Nat}(x:Rat)(pre:List (Nat×QV M w B))(y:Nat×QV M w B):hv x (pre++[y])=hv x pre*x+y.2.q:=by simp[hv]
theorem aN6{M:j2}{w:World}{B C:Nat}{x:Rat}(hx:Fit C x):∀(pre:List (Nat×QV M w B))(v:Rat)(A:Nat),Fit A v->Fit (pre.length*(B+C+1)+A) (pre.foldl (fun v c=>v*x+c.2.q) v)
 | [],v,A,h=>by simpa using h
 | y::ys,v,A,h=>by
   have:=aN6 hx ys (v*x+y.2.q) _ ((h.mul hx).add y.2.fit);refine this.mono ?_;rw[bm,ba];omega
def cJ7{M:j2}{w:World}{q:Rat}{vs:n5}(h:cW M w [qT q] vs):∃v0 v1 v2,pack vs=.agg #[v0,v1,v2]/\ai M w (qC q) [v0,v1,v2]:=by
 match vs,h with
 | [v],h=>
   obtain⟨⟨us,rfl,hus⟩,_⟩:=h
   match us,hus with
   | [a,b,c],hus=>exact⟨a,b,c,rfl,hus⟩
   | [],hus=>exact hus.elim
   | [_],hus=>exact hus.2.elim
   | [_,_],hus=>exact hus.2.2.elim
   | _::_::_::_::_,hus=>exact hus.2.2.2.elim
 | [],h=>exact h.elim
 | _::_::_,h=>exact h.2.elim
def am7(M:j2)(w:World)(B C:Nat)(x:Rat)(hx:Fit C x)(hM:cX M w)(hB:1<=B)[Inhabited (QV M w B)](a:o9)(cap:Nat)(ts:List (QV M w B))(hlen:ts.length<4611686018427387904)(hbig:ts.length*(B+C+1)+B+C+1<=4294967296)
  (hI:Sl3 QV.u0 QV.u1 QV.u2 w.heap.size w (.slice a ts.length cap) ts) (z0 z1 z2:Value) (hz:ai M w (qC 0) [z0,z1,z2]) (xp:Value) (hxp:(aE.aW (qC x)).rep M w xp) :
  CallsIn Fence.wide 1001 prog 245 #[.slice a ts.length cap,.agg #[z0,z1,z2],.func (.func 246) #[] #[xp]] w fun e W'=>Below w.heap.size w W'/\∃u0 u1 u2,e=.returned (.agg #[u0,u1,u2])/\ai M W' (qC (hv x (bk ts ts.length))) [u0,u1,u2]:=by
 refine Ae func245 rfl trivial ?_ rfl;simp only[ntmps245,ed,bm,ck,Nat.reduceAdd,Nat.reduceSub,fX,fW,fS,fU,List.nil_append,List.cons_append];generalize hL:ts.length=L at hI hlen hbig|-
 gi_wp2_with (refine⟨trivial,?_⟩;gi_at_call 248;refine(VX _ _ _ _ _).mono ?_;rintro e w' ⟨rfl,rfl⟩)
 obtain⟨n0,hn0⟩:∃n0,w.heap.size=n0:=⟨_,rfl⟩
 obtain⟨hM,hMg⟩:=hM;rw[hn0]at hI hM|-;obtain⟨W0,hW0⟩:∃W0,((((w.alloc (.cells #[z0,z1,z2] 39)).alloc (.cells #[.func (.func 246) #[] #[xp]] 224)).alloc (.cells #[.slice none 0 0,.bool false,.slice none 0 0] 39)).alloc (.cells #[.slice a L cap] 72))=W0:=⟨_,rfl⟩
 have hs0:W0.heap.size=n0+4:=by rw[<-hW0];simp[hn0]
 have hX0:W0.heap[n0]?=some (.cells #[z0,z1,z2] 39 (0,0)):=by rw[<-hW0,bJ _ _ _ iF,bJ _ _ _ iF,bJ _ _ _ iF,<-hn0];exact bc w _
 have hS0:W0.heap[n0+1]?=some (.cells #[.func (.func 246) #[] #[xp]] 224 (0,0)):=by
  rw[<-hW0,bJ _ _ _ iF,bJ _ _ _ iF];have:=bc (w.alloc (.cells #[z0,z1,z2] 39)) (.cells #[.func (.func 246) #[] #[xp]] 224);rw[br,hn0]at this;exact this
 have hR0:W0.heap[n0+2]?=some (.cells #[.slice none 0 0,.bool false,.slice none 0 0] 39 (0,0)):=by
  rw[<-hW0,bJ _ _ _ iF];have:=bc ((w.alloc (.cells #[z0,z1,z2] 39)).alloc (.cells #[.func (.func 246) #[] #[xp]] 224)) (.cells #[.slice none 0 0,.bool false,.slice none 0 0] 39);rw[br,br,hn0]at this;exact this
 have hP0:W0.heap[n0+3]?=some (.cells #[.slice a L cap] 72 (0,0)):=by
  rw[<-hW0];have:=bc (((w.alloc (.cells #[z0,z1,z2] 39)).alloc (.cells #[.func (.func 246) #[] #[xp]] 224)).alloc (.cells #[.slice none 0 0,.bool false,.slice none 0 0] 39)) (.cells #[.slice a L cap] 72);rw[br,br,br,hn0]at this;exact this
 have hB0:Below n0 w W0:=by
  rw[<-hW0];exact((((cz _ w).alloc O _).alloc iF _).alloc iF _).alloc iF _
 rw[hW0]
 refine wpIn_rangeFunc_ownH (w0:=W0) rfl O (gf:=281) (lb:=#[.pointer (some ⟨n0+1+1+1,0,none⟩)]) rfl trivial (AN func281 aT rfl)
  (Dp (e0:=QV.u0) (e1:=QV.u1) (e2:=QV.u2) (n0+3) n0 (.slice a L cap) ts O W0 O O (aH hP0 rfl) (hI.below hB0)) aa6 (ad4 O O) (cz _ _) (fun _=>rfl)
  (fun pre W=>Below n0 w W/\n0+4<=W.heap.size/\W.heap[n0+1]?=some (.cells #[.func (.func 246) #[] #[xp]] 224 (0,0))/\W.heap[n0+2]?=some (.cells #[.slice none 0 0,.bool false,.slice none 0 0] 39 (0,0)) /\
   ∃u0 u1 u2,W.heap[n0]?=some (.cells #[u0,u1,u2] 39 (0,0))/\ai (fun b=>M b\/b=n0\/b=n0+2) W (qC (hv x pre)) [u0,u1,u2])
  (fun _ _ _=>False) ?own (fun _=>by intro s A B row hs;exact hs.elim) ?start
  (fun y a' W=>∃b,n0+4<=b/\a'={ tmps:=#[.slice a L cap,.agg #[z0,z1,z2],.func (.func 246) #[] #[xp],undef,.pointer (some ⟨n0,0,none⟩),.pointer (some ⟨n0+1,0,none⟩),.pointer (some ⟨n0+1+1,0,none⟩),undef,.pointer (some ⟨b,0,none⟩),.slice a L cap,.func (.func 281) #[] #[.pointer (some ⟨n0+1+1+1,0,none⟩)],.int .i64 (y.1:Int),.agg #[y.2.u0,y.2.u1,y.2.u2],undef,undef,undef,undef,undef],defers:=[] } /\ W.heap[b]?=some (.cells #[y.2.u0,y.2.u1,y.2.u2] 39 (0,0)))
  ?ax ?assign ?body ?done ?stop
 case own=>
  rintro s A A' row ⟨h1,h2,h3,h4,u0,u1,u2,h5,h6⟩ hg hr;have hr':∀r,row=some r->∃o:Obj,A.heap[r]?=some o/\o.isCells=false:=fun r e=>(hr r e).2;refine⟨h1.grown hg O (fun k e=>by have:=(hr k e).1;omega),an h2 hg.size,gD hg hr' h3 rfl,gD hg hr' h4 rfl,u0,u1,u2,gD hg hr' h5 rfl,h6.mono fun b o hb ho hc=>⟨hb,gD hg hr' ho hc⟩⟩
 case start=>
  refine⟨hB0,O,hS0,hR0,z0,z1,z2,hX0,hz.mono fun b o hb ho hc=>?_⟩;have hlt:=(cf.1 ho).1;exact⟨fun h=>h.elim hb O,(hB0.block b O).trans ho⟩
 case ax=>
  rintro y a' _ A A' row ⟨b,h1,h2,h3⟩ hg hr;exact⟨b,h1,h2,gD hg (fun r e=>(hr r e).2) h3 rfl⟩
 case assign=>
  rintro l pre y W K ⟨h1,h2,h3,h4,u0,u1,u2,h5,h6⟩ hK
  gi_wp2
  obtain⟨o0,o1,o2⟩:y.2.u0.oneCell'=true/\y.2.u1.oneCell'=true/\y.2.u2.oneCell'=true:=by
   have:=y.2.rep.one;exact⟨this _ bY,this _ bY,this _ bY⟩
  have hnew:=bc W (.cells #[.slice none 0 0,.bool false,.slice none 0 0] 39);rw[yW hnew o0 o1 o2];obtain⟨W',hW'⟩:∃W',(W.alloc (.cells #[.slice none 0 0,.bool false,.slice none 0 0] 39)).setRow W.heap.size #[y.2.u0,y.2.u1,y.2.u2]=W':=⟨_,rfl⟩
  have hold:∀k,k<W.heap.size->W'.heap[k]?=W.heap[k]?:=fun k hk=>by rw[<-hW',du _ _ _ _ O,bJ _ _ _ hk]
  have hself:W'.heap[W.heap.size]?=some (.cells #[y.2.u0,y.2.u1,y.2.u2] 39 (0,0)):=by rw[<-hW'];exact dP _ _ _ _ _ _ hnew
  have hbel:Below W.heap.size W W':=by rw[<-hW'];exact below_setRow ((cz _ W).alloc (ah _) _) _ (ah _)
  have hlt:∀{k:Nat}{o:Obj},W.heap[k]?=some o->k<W.heap.size:=fun h=>(cf.1 h).1;rw[hW']
  gi_wp2
  refine hK _ _ ⟨hbel.size,fun k o _ ho _=>(hold k (hlt ho)).trans ho⟩ ⟨hbel.mono O,fun v hv=>?_⟩
   ⟨h1.trans (hbel.mono O),an h2 hbel.size,(hold _ (hlt h3)).trans h3,(hold _ (hlt h4)).trans h4,u0,u1,u2,(hold _ (hlt h5)).trans h5,h6.mono fun b o hb ho _=>⟨hb,(hold b (hlt ho)).trans ho⟩⟩
   ⟨W.heap.size,O,rfl,hself⟩
  simp only[World.cell?,hold (n0+3) O]at hv|-;exact hv
 case body=>
  rintro l pre y a' W hl _ ⟨h1,h2,h3,h4,u0,u1,u2,h5,h6⟩ ⟨b,hb,rfl,hbc⟩ hlt;have hltW:∀{k:Nat}{o:Obj},W.heap[k]?=some o->k<W.heap.size:=fun h=>(cf.1 h).1;have c0:W.cell? ⟨n0,0,none⟩=some u0:=aH h5 rfl;have c1:W.cell? ⟨n0,1,none⟩=some u1:=aH h5 rfl;have c2:W.cell? ⟨n0,2,none⟩=some u2:=aH h5 rfl;have cs:W.cell? ⟨n0+1,0,none⟩=some (.func (.func 246) #[] #[xp]):=aH h3 rfl;have cb0:W.cell? ⟨b,0,none⟩=some y.2.u0:=aH hbc rfl;have cb1:W.cell? ⟨b,1,none⟩=some y.2.u1:=aH hbc rfl;have cb2:W.cell? ⟨b,2,none⟩=some y.2.u2:=aH hbc rfl;have hM1:∀k,(M k\/k=n0\/k=n0+2)->k<W.heap.size:=fun k h=>h.elim (fun h=>by have:=hM k h;omega) (fun h=>O)
  have hkeep:bq M w (fun b=>M b\/b=n0\/b=n0+2) W:=fun k o hk ho _=>by
   have hlt:=(cf.1 ho).1;exact⟨fun h=>h.elim hk O,(h1.block k O).trans ho⟩
  have hfit:Fit (pre.length*(B+C+1)+1) (hv x pre):=aN6 hx pre 0 1 (Fit.zero (ah 1))
  have hbound:pre.length*(B+C+1)+1+B+C<=4294967296:=by
   rw[hL]at hlt;have:=cg (B+C+1) (na hlt);omega
  have hcall:Calls prog 246 #[.agg #[u0,u1,u2],.agg #[y.2.u0,y.2.u1,y.2.u2],xp] W fun e w'=>Below W.heap.size W w'/\∃v0 v1 v2,e=.returned (.agg #[v0,v1,v2])/\ai (fun b=>M b\/b=n0\/b=n0+2) w' (qC (hv x (pre++[y]))) [v0,v1,v2]:=by
   refine((aj4 (hv x pre) y.2.q x _ _ _ hfit y.2.fit hx hbound).2 (fun b=>M b\/b=n0\/b=n0+2) W [.agg #[u0,u1,u2],.agg #[y.2.u0,y.2.u1,y.2.u2],xp] ⟨hM1,hMg.jc hkeep⟩ ⟨⟨[u0,u1,u2],rfl,h6⟩,⟨[_,_,_],rfl,y.2.rep.mono hkeep⟩,aE.mono _ hkeep hxp,trivial⟩).mono ?_;rintro e w' ⟨hb',vs,rfl,hvs⟩;rw[aZ2];obtain⟨v0,v1,v2,e1,hr⟩:=cJ7 hvs;exact⟨hb',v0,v1,v2,by rw[e1],hr⟩
  gi_wp2_with (refine⟨trivial,?_⟩;gi_at_call 246;refine(FU l (lO.2 hcall)).mono ?_;rintro e w' ⟨hbw,v0,v1,v2,rfl,hvr⟩)
  have hone:=hvr.one;have hbox:w'.heap[n0]?=some (.cells #[u0,u1,u2] 39 (0,0)):=(hbw.block n0 (hltW h5)).trans h5;rw[yW hbox (hone _ bY) (hone _ bY) (hone _ bY)];obtain⟨W3,hW3⟩:∃W3,w'.setRow n0 #[v0,v1,v2]=W3:=⟨_,rfl⟩
  have hself:W3.heap[n0]?=some (.cells #[v0,v1,v2] 39 (0,0)):=by rw[<-hW3];exact dP _ _ _ _ _ _ hbox
  have hoth:∀k,k≠n0->W3.heap[k]?=w'.heap[k]?:=fun k hk=>by rw[<-hW3,du _ _ _ _ hk]
  have hold:∀{k:Nat}{o:Obj},k≠n0->W.heap[k]?=some o->W3.heap[k]?=some o:=fun hk ho=>(hoth _ hk).trans ((hbw.block _ (hltW ho)).trans ho);have hbel:Below n0 W W3:=by rw[<-hW3];exact below_setRow (hbw.mono O) _ (ah _)
  rw[hW3]
  gi_wp2
  refine⟨⟨hbel.size,fun k o hk ho _=>hold O ho⟩,⟨hbel,fun v hv=>?_⟩,h1.trans hbel,an h2 hbel.size,hold O h3,hold O h4,v0,v1,v2,hself,hvr.mono fun k o hk ho _=>⟨hk,(hoth k fun e=>hk (.inr (.inl e))).trans ho⟩⟩;simp only[World.cell?,hoth (n0+3) O,hbw.block (n0+3) O]at hv|-;exact hv
 case done=>
  rintro D ys W hD rfl ⟨h1,h2,h3,h4,u0,u1,u2,h5,h6⟩ hK;have c0:W.cell? ⟨n0,0,none⟩=some u0:=aH h5 rfl;have c1:W.cell? ⟨n0,1,none⟩=some u1:=aH h5 rfl;have c2:W.cell? ⟨n0,2,none⟩=some u2:=aH h5 rfl;have hone:=h6.one
  gi_wp2
  rw[yW h4 (hone _ bY) (hone _ bY) (hone _ bY)]
  gi_wp2
  obtain⟨W3,hW3⟩:∃W3,W.setRow (n0+2) #[u0,u1,u2]=W3:=⟨_,rfl⟩
  have hself:W3.heap[n0+2]?=some (.cells #[u0,u1,u2] 39 (0,0)):=by rw[<-hW3];exact dP _ _ _ _ _ _ h4
  have hoth:∀k,k≠n0+2->W3.heap[k]?=W.heap[k]?:=fun k hk=>by rw[<-hW3,du _ _ _ _ hk]
  have hK3:W3.heap[D]?=some (.deferred (some [])):=(hoth D O).trans hK;have hbel:Below n0 W W3:=by rw[<-hW3];exact below_setRow (cz _ W) _
  rw[hW3];obtain⟨W4,hW4⟩:∃W4,W3.putObj D (.deferred none)=W4:=⟨_,rfl⟩
  have hoth4:∀k,k≠D->W4.heap[k]?=W3.heap[k]?:=fun k hk=>by rw[<-hW4];exact sE O
  have hself4:W4.heap[n0+2]?=some (.cells #[u0,u1,u2] 39 (0,0)):=(hoth4 _ O).trans hself;have d0:W4.cell? ⟨n0+2,0,none⟩=some u0:=aH hself4 rfl;have d1:W4.cell? ⟨n0+2,1,none⟩=some u1:=aH hself4 rfl;have d2:W4.cell? ⟨n0+2,2,none⟩=some u2:=aH hself4 rfl;refine⟨bY,.inl ⟨_,_,rfl,AA hK3,?_⟩⟩;rw[hW4];refine⟨.agg #[u0,u1,u2],?_,?_,u0,u1,u2,rfl,by rw[<-hL];exact h6.mono fun k o hk ho hc=>⟨fun h=>hk (.inl h),(hoth4 k (by rintro rfl;rw[hK]at ho;cases ho;cases hc)).trans ((hoth k (by rintro rfl;exact hk (.inr (.inr rfl)))).trans ho)⟩⟩
  .refine ly _ _ [_] ?_;simp[show f245.results=#[.cell 6 39]from rfl,nD,go_sem,d0,d1,d2]
  .rw[<-hn0]at h1 hbel;exact(h1.trans hbel).trans (by rw[<-hW4];exact xU (w:=w) (ah _) W3 D _ _ O hK3 rfl rfl)
 case stop=>
  rintro D c pre W hD _ h hK;exact h.elim
theorem rU{α:Type}(P:Nat->α->Prop):∀n,(∀i,i<n->∃x,P i x)->∃ts:List α,ts.length=n/\∀(i:Nat)x,ts[i]?=some x->P i x
 | 0,_=>⟨[],rfl,fun i x h=>by simp at h⟩
 | n+1,h=>by
   obtain⟨ts,h1,h2⟩:=rU P n fun i hi=>h i O;obtain⟨x,hx⟩:=h n O;refine⟨ts++[x],by simp[h1],fun i y hy=>?_⟩;rcases bG i n with hi | hi
   .rw[et O]at hy;exact h2 i y hy
   .rw[jP O]at hy
    have hin:i-ts.length=0:=by
     have:=(fK.1 hy).1;simp at this;omega
    rw[hin]at hy;simp only[nL,aM]at hy;subst hy;obtain rfl:i=n:=O
    exact hx
def bR6{M:j2}{w:World}{B:Nat}{v:Value}{ps:j1}(h:(sQ ps).rep M w v)(hp:∀q∈ps,Fit B q) :
  ∃(ts:List (QV M w B))(a:o9)(cap:Nat),v=.slice a ts.length cap/\ts.map QV.q=ps/\Sl3 QV.u0 QV.u1 QV.u2 w.heap.size w v ts:=by
 obtain⟨a,cap,rfl,hc,hm,hel⟩:=h;have hlen:(rQ ps).length=ps.length:=aX _;rcases hel with h | ⟨b,off,cs,T,fz,rfl,hb,hh,hr⟩
 .have:ps=[]:=by cases ps<;>simp_all[rQ]
  subst this;exact⟨[],a,cap,rfl,rfl,a,cap,rfl,.inl rfl⟩
 .obtain⟨ts,h1,h2⟩:=rU (fun i (x:QV M w B)=>ps[i]?=some x.q/\w.cell? ⟨b,off+i*3,none⟩=some x.u0/\w.cell? ⟨b,off+i*3+1,none⟩=some x.u1/\w.cell? ⟨b,off+i*3+2,none⟩=some x.u2) ps.length fun i hi=>by
   obtain⟨q,hq⟩:∃q,ps[i]?=some q:=⟨_,bU hi⟩
   obtain⟨_,hrep⟩:=hr i (qC q) (by rw[rQ,dS,hq];rfl)
   have hat:∀j,j<3->((cs.toList.drop (off+i*3)).take 3)[j]?=cs[off+i*3+j]?:=fun j hj=>by
    rw[fi,aI hj,kH];simp
   have hl:=hrep.length;generalize hus:(cs.toList.drop (off+i*3)).take 3=us at hrep hl hat
   match us,hrep with
   | [x0,x1,x2],hrep=>
     refine⟨⟨q,x0,x1,x2,hp q (cj hq),hrep⟩,hq,?_,?_,?_⟩
     .have h0:=hat 0 O;rw[cu]at h0;exact aH hh (by rw[<-h0];rfl)
     .exact aH hh (by rw[<-hat 1 O];rfl)
     .exact aH hh (by rw[<-hat 2 O];rfl)
   | [],hrep=>exact hrep.elim
   | [_],hrep=>exact hrep.2.elim
   | [_,_],hrep=>exact hrep.2.2.elim
   | _::_::_::_::_,hrep=>exact hrep.2.2.2.elim
  refine⟨ts,_,cap,by rw[hlen,h1],?_,_,cap,by rw[hlen,h1],.inr ⟨b,off,rfl,(cf.1 hh).1,fun j v hj=>(h2 j v hj).2⟩⟩;refine kd fun i=>?_;rw[dS];cases hi:ts[i]? with
  | none=>
    have:=gm.1 hi;rw[gm.2 O];rfl
  | some x=>rw[(h2 i x hi).1];rfl
def aw7{α:Type}[Inhabited α](vs:List α):(bk vs vs.length).map Prod.snd=vs.reverse:=by
 refine kd fun i=>?_;rw[bk,eG,dS];rcases bG i vs.length with h | h
 .rw[jd h,FJ h];have h':vs.length-1-i<vs.length:=O
  simp[bU h']
 .rw[gm.2 (by simpa using h),gm.2 (by simpa using h)];rfl
def cr8{M:j2}{w:World}{B:Nat}[Inhabited (QV M w B)](x:Rat)(ts:List (QV M w B)):hv x (bk ts ts.length)=od (ts.map QV.q) x:=by
 have h:hv x (bk ts ts.length)=((bk ts ts.length).map Prod.snd).foldl (fun v c=>v*x+c.q) 0:=by rw[hv,List.foldl_map]
 rw[h,aw7,List.foldl_reverse,od,List.foldr_map]
def WG(ps:j1)(x:Rat)(B C:Nat)(hB:1<=B)(hp:∀q∈ps,Fit B q)(hx:Fit C x)(hl:ps.length*(B+C+1)+B+C+1<=4294967296:=by omega) :
  aK prog 245 [.one (sQ ps),qT 0,.one (.lp 246 [.aW (qC x)])] (.ret [qT (od ps x)]):=by
 refine⟨bM aT,fun M w vs hM hv=>?_⟩
 match vs,hv with
 | [v0,v1,v2],⟨k0,⟨us,k1,hus⟩,⟨fs,k2,hfs⟩,_⟩=>
   obtain⟨ts,a,cap,rfl,hq,hsl⟩:=bR6 k0 hp;obtain⟨iq⟩:=aZ8 M w B hB
   haveI:Inhabited (QV M w B):=⟨iq⟩
   subst k1 k2
   match us,hus,fs,hfs with
   | [z0,z1,z2],hus,[xp],hfs=>
     have hlen:ps.length=ts.length:=by rw[<-hq,aX]
     rw[hlen]at hl;have h1:=am7 M w B C x hx hM hB a cap ts (by have:=dn ts.length (show 0<B+C+1 by omega);omega) hl hsl z0 z1 z2 hus xp hfs.1;rw[cr8,hq]at h1;refine((lO (n:=1001)).1 h1).mono ?_;rintro e w' ⟨hb,u0,u1,u2,rfl,hr⟩;exact⟨hb,[.agg #[u0,u1,u2]],rfl,⟨[u0,u1,u2],rfl,hr⟩,trivial⟩
   | [],hus,_,_=>exact hus.elim
   | [_],hus,_,_=>exact hus.2.elim
   | [_,_],hus,_,_=>exact hus.2.2.elim
   | _::_::_::_::_,hus,_,_=>exact hus.2.2.2.elim
   | [_,_,_],_,[],hfs=>exact hfs.elim
   | [_,_,_],_,_::_::_,hfs=>exact hfs.2.elim
 | [],hv=>exact hv.elim
 | [_],hv=>exact hv.2.elim
 | [_,_],hv=>exact hv.2.2.elim
 | _::_::_::_::_,hv=>exact hv.2.2.2.elim
def ct2:Tr:=eO 245 [W 0 0,.agg [tN,tE (.bool false),tN],.one (.lp 246 [.ref 0 [.u 1 0,.u 1 1,.u 1 2]])] [some 3] [5,6,7] [72,39,224] 39 true (iz 2 2 1 2 2)
def bg1:aO prog f181 cT [.v none,.v (some 3)]=ct2:=aT
def bk9(ps:j1)(c:Rat)(B:Nat)(hp:∀q∈ps,Fit B q)(hc:Fit B c)(hB:1<=B:=by omega)(hl:ps.length*(2*B+2)+2*B+2<=4294967296:=by omega):aK prog 181 [(.one (sQ ps):aF),(qT c:aF)] (.ret [qT (od ps c)]):=by
 refine dB func181 bg1 ?_;have hl2:ps.length*(B+B+1)<=ps.length*(2*B+2):=cd _ O;refine pg (show aR [.one (sQ ps),.agg [.exact (.slice none 0 0),.bool false,.exact (.slice none 0 0)],.one (.lp 246 [.aW (qC c)])] [.one (sQ ps),qT 0,.one (.lp 246 [.aW (qC c)])]from⟨aF.Sub.same,fg,aF.Sub.same,trivial⟩) (WG ps c B B hB hp hc) rfl ?_;exact aN
end Go.Sy
namespace Go.Sy
open Go Go.Proofs Tryz Ord
def SE{n H:Nat}(h:n<2^H):(dg n).length<=H:=HT (bt h (gN O H))
open Go Go.Proofs Go.RowKit Go.Shelf Tryz Ord
attribute [local go_sem] Oper.semAt_some
def ak6(a:o9)(cap:Nat)(vs:List D9)(w:World)(M:j2)(hM:Good M w)(hI:Sl1 bV0 w.heap.size w (.slice a vs.length cap) vs)(hlen:vs.length<=1:=by omega)(h0:vs.length≠0:=by omega) :
  CallsIn Fence.wide 1001 prog 178 #[.agg #[.slice a vs.length cap]] w fun e W'=>e=.returned (.string ⟨(tx vs.length (bk vs vs.length)).toArray⟩)/\Below w.heap.size w W':=by
 refine Ae func178 rfl trivial ?_ rfl;simp only[ntmps178,ed,bm,ck,Nat.reduceAdd,Nat.reduceSub,fX,fW,fS,fU,List.nil_append,List.cons_append];generalize hL:vs.length=L at hI hlen h0|-
 gi_wp2_with (refine⟨trivial,?_⟩;gi_at_call 179;refine(bq5 _ _ _ _ h0 _).mono ?_;rintro e w' ⟨rfl,rfl⟩)
 gi_wp2_with (refine⟨trivial,?_⟩;gi_at_call 240;refine(SK _ _ _ _ _).mono ?_;rintro e w' ⟨rfl,rfl⟩)
 obtain⟨n0,hn0⟩:∃n0,w.heap.size=n0:=⟨_,rfl⟩
 rw[hn0]at hI|-;obtain⟨W0,hW0⟩:∃W0,((((w.alloc (.cells #[.slice a L cap] 35)).alloc (.cells #[.slice a L cap] 35)).alloc (.cells #[.pointer none,.slice none 0 0] 287)).alloc (.cells #[.slice a L cap] 33))=W0:=⟨_,rfl⟩
 have hs0:W0.heap.size=n0+4:=by rw[<-hW0];simp[hn0]
 have hA0:W0.heap[n0]?=some (.cells #[.slice a L cap] 35 (0,0)):=by rw[<-hW0,bJ _ _ _ iF,bJ _ _ _ iF,bJ _ _ _ iF,<-hn0];exact bc w _
 have hT0:W0.heap[n0+2]?=some (.cells #[.pointer none,.slice none 0 0] 287 (0,0)):=by
  rw[<-hW0,bJ _ _ _ iF];have:=bc ((w.alloc (.cells #[.slice a L cap] 35)).alloc (.cells #[.slice a L cap] 35)) (.cells #[.pointer none,.slice none 0 0] 287);rw[br,br,hn0]at this;exact this
 have hP0:W0.heap[n0+3]?=some (.cells #[.slice a L cap] 33 (0,0)):=by
  rw[<-hW0];have:=bc (((w.alloc (.cells #[.slice a L cap] 35)).alloc (.cells #[.slice a L cap] 35)).alloc (.cells #[.pointer none,.slice none 0 0] 287)) (.cells #[.slice a L cap] 33);rw[br,br,br,hn0]at this;exact this
 have hB0:Below n0 w W0:=by
  rw[<-hW0];exact((((cz _ w).alloc O _).alloc iF _).alloc iF _).alloc iF _
 rw[hW0];have hG0:Good M W0:=hM.below hn0.symm hB0
 refine wpIn_rangeFunc_ownF (w0:=W0) rfl O (gf:=274) (lb:=#[.pointer (some ⟨n0+1+1+1,0,none⟩)]) rfl trivial (AN func274 aT rfl)
  (Di (enc:=bV0) (n0+3) n0 (.slice a L cap) vs O W0 O O (aH hP0 rfl) (hI.below hB0)) aa6 (ad4 O O) (cz _ _) (fun _=>rfl)
  (fun pre W=>Lib.IsBuilderF 287 5 (n0+2) (n0+2) (Lib.byteCells (tx L pre)) W/\Below (n0+2) W0 W/\n0+4<=W.heap.size/\W.heap[n0+3]?=some (.cells #[.slice a L cap] 33 (0,0)))
  (fun _ _ _=>False) ?own (fun _=>by intro s A B row hs;exact hs.elim) ?start
  (fun x=>{ tmps:=#[.agg #[.slice a L cap],.pointer (some ⟨n0,0,none⟩),.string ⟨#[]⟩,.pointer (some ⟨n0+1+1,0,none⟩),.int .i64 (x.1:Int),.int .u32 (x.2.1:Int),undef,.agg #[.slice a L cap],.bool false,.pointer (some ⟨n0,0,none⟩),.slice a L cap,.func (.func 274) #[] #[.pointer (some ⟨n0+1+1+1,0,none⟩)],.int .i64 (x.1:Int),.int .u32 (x.2.1:Int),undef,undef,undef,undef,undef,undef,undef,undef,undef,undef,undef,undef,undef,undef,undef,undef,undef],defers:=[] }) ?assign ?body ?done ?stop
 case own=>
  rintro s A A' row ⟨h1,h2,h3,h4⟩ hg hr;exact⟨TU h1 fun j o ho hc=>gD hg (fun r e=>(hr r e).2) ho hc,h2.grown hg O (fun k e=>by have:=(hr k e).1;omega),an h3 hg.size,gD hg (fun r e=>(hr r e).2) h4 rfl⟩
 case start=>
  exact⟨Lib.IsBuilderF.of (.inl ⟨ah _,_,hT0,⟨rfl,.inl ⟨rfl,rfl⟩⟩,by simp[Value.ownBlock]⟩),cz _ _,O,hP0⟩
 case assign=>
  intro l x W K hK
  gi_wp2
  exact hK
 case body=>
  rintro l pre x W ⟨h1,h2,h3,h4⟩ hlt;have hG:Good M W:=hM.below hn0.symm (hB0.trans (h2.mono O));have hA:W.heap[n0]?=some (.cells #[.slice a L cap] 35 (0,0)):=(h2.block n0 O).trans hA0;have cA:W.cell? ⟨n0,0,none⟩=some (.slice a L cap):=aH hA rfl;have hx:x.2.1<1000000000:=x.2.2;have hpl:=bY0 L pre;have htx2:tx L (pre++[x])=tx L pre++dec x.2.1:=by rw[bg4,aD O]
  have h32:n0+2<=W.heap.size:=O
  rw[hL]at hlt
  have lC:(Lib.byteCells (tx L pre)).length+(⟨(dec x.2.1).toArray⟩:ByteArray).size<=140737488355328:=by
   have h2:(⟨(dec x.2.1).toArray⟩:ByteArray).size=(dec x.2.1).length:=ed;have h3:(dec x.2.1).length<=9:=px O (by rw[show(10:Nat)^9=1000000000 by decide];exact hx);rw[Lib.byteCells_length,h2];omega
  have hcell2:Lib.byteCells (tx L pre)++Lib.strCells ⟨(dec x.2.1).toArray⟩=Lib.byteCells (tx L pre++dec x.2.1):=by
   rw[Lib.strCells_eq,Lib.byteCells_append]
  have hc:¬(x.1:Int)<(L:Int)-1:=O
  gi_wp2_with (refine⟨trivial,?_⟩;gi_at_call 241;refine(FU l (lO.2 (bo3 x.2.1 _ M hG))).mono ?_;rintro e w1 ⟨rfl,hb1⟩;have cA1:w1.cell? ⟨n0,0,none⟩=some (.slice a L cap):=(hb1.cell (p:=⟨n0,0,none⟩) (show n0<W.heap.size by omega)).trans cA)
  have b1:Lib.IsBuilderF 287 5 (n0+2) (n0+2) (Lib.byteCells (tx L pre)) w1:=TU h1 fun j o ho _=>Du hb1 j o ho;have s1:n0+2<=w1.heap.size:=an h32 hb1.size;have q:CallsIn (Fence.wide.inRound l) 998 prog 242 #[.pointer (some ⟨n0+1+1,0,none⟩),.string ⟨(dec x.2.1).toArray⟩] w1 fun e w'=>e=.returned (.tuple #[.int .i64 (⟨(dec x.2.1).toArray⟩:ByteArray).size,.nilIface])/\(Lib.IsBuilderF 287 5 (n0+2) (n0+2) (Lib.byteCells (tx L pre)++Lib.strCells ⟨(dec x.2.1).toArray⟩) w'/\Below (n0+2) w1 w'/\Lib.OthersKept 5 (some (n0+2)) w1 w'):=FU l (lO.2 (bb2 (n0+2) (n0+2) _ ⟨(dec x.2.1).toArray⟩ w1 b1 lC s1))
  gi_wp2_with (refine⟨trivial,?_⟩;gi_at_call 242;refine q.mono ?_;clear q;rintro e w4 ⟨rfl,b4,hl4,ho4⟩)
  rw[hcell2,<-htx2]at b4;exact ao5 h2 h3 h4 ((hb1.mono h32).trans hl4) (fun k o ho hk hu=>ho4 k o (Du hb1 k o ho) hk hu) h1 b4
 case done=>
  rintro D ys W hD rfl ⟨h1,h2,h3,h4⟩ hK;have s1:n0+2<=W.heap.size:=O
  have hbW:Below n0 w W:=hB0.trans (h2.mono O)
  gi_wp2_with (refine⟨trivial,?_⟩;gi_at_call 244;refine(lO.2 (Tryz.Builder_String_any_k (n0+2) (n0+2) _ W h1 s1)).mono ?_;rintro e w1 ⟨rfl,b1,hl1,ho1⟩)
  have hne:some D≠some (n0+2):=by intro e;cases e;omega
  have hK1:=ho1 D _ hK hne (by intro c fz h;cases h);refine⟨bY,.inl ⟨_,_,rfl,AA hK1,?_⟩⟩;rw[hn0];refine⟨_,Gk rfl _ _ _,rfl,(hbW.trans (hl1.mono O)).trans ?_⟩;exact xU (w:=w) O w1 D _ _ O hK1 rfl rfl
 case stop=>
  rintro D c pre W hD _ h hK;exact h.elim
def Hp(n:Nat)(hn:n<1000000000)(h0:n≠0:=by omega):aK prog 178 [mT n] (.ret [bS (dec n)]):=by
 refine⟨bM aT,fun M w vs hM hv=>?_⟩
 match vs,hv with
 | [v],hv=>
   obtain⟨⟨us,rfl,hus⟩,_⟩:=hv
   match us,hus with
   | [u],hus=>
     obtain⟨ds,hds⟩:=SZ (oH n);have hdg:dg n=[n]:=by unfold dg;rw[jU,gk hn,gj hn,eN]
     have hdl:ds.length=1:=by rw[<-aX (f:=Subtype.val),hds,hdg];rfl
     obtain⟨a,cap,rfl,hel⟩:=bz9 hus.1;have hl:((dg n).map (fun d:Nat=>(d:Int))).length=ds.length:=by rw[aX,hdg,hdl];rfl
     rw[hl]
     have hI:Sl1 bV0 w.heap.size w (.slice a ds.length cap) ds:=by
      refine⟨a,cap,rfl,?_⟩;rcases hel with h | ⟨b,off,rfl,hb,hc⟩
      .rw[hdg]at h;cases h
      .refine .inr ⟨b,off,rfl,hb,fun j v hj=>hc j _ ?_⟩;rw[<-hds,eG,dS,hj];rfl
     have h1:=ak6 a cap ds w M hM.2 hI
     have ht:tx ds.length (bk ds ds.length)=dec n:=by
      match ds,hdl,hds with
      | [d],_,hds=>
        rw[hdg]at hds;have e:d.1=n:=by simpa using hds
        rw[<-e];rfl
     rw[ht]at h1;refine((lO (n:=1001)).1 h1).mono ?_;rintro e w' ⟨rfl,hb⟩;exact⟨hb,[.string ⟨(dec n).toArray⟩],rfl,⟨rfl,rfl⟩,trivial⟩
   | [],hus=>exact hus.elim
   | _::_::_,hus=>exact hus.2.elim
 | [],hv=>exact hv.elim
 | _::_::_,hv=>exact hv.2.elim
def HE(q:Rat)(hf:Fit 64 q)(h0:q.num.natAbs≠0)(hn1:q.num.natAbs<1000000000)(hd1:q.den<1000000000):aK prog 90 [(qT q:aF)] (.ret [bS (aI6 q)]):=by
 refine dB func90 bi3 ?_;have hd:=SE hf.2;have hn:=SE hf.1;have hp:=q.den_pos;have ln:=vi hf.1;have ld:=vi hf.2;rw[show aI6 q=((if q.num<0 then[45]else[])++dec q.num.natAbs)++if q.den=1 then[]else[47]++dec q.den from rfl];apply aA (Hp q.num.natAbs hn1 h0);refine p8 ?_ ?_<;>intro h1
 .apply vn (yZ (a:=[45]) (by simp only[bm,ck];omega)) rfl;apply aA (BG (q.den-1));refine uS Oo ?_ ?_<;>intro h5
  .apply aA (iw q);apply aA (Hp q.den hd1);apply vn (yZ (a:=[47]) (by simp only[bm,ck];omega)) rfl;apply vn (yZ (by simp only[gK,bm,ck];omega)) rfl;dsimp only[aP,aQ];rw[aI h1,aD O];exact aN
  rw[aI h1,aI O,dD];exact aN
 apply aA (BG (q.den-1));refine uS Oo ?_ ?_<;>intro h14
 .apply aA (iw q);apply aA (Hp q.den hd1);apply vn (yZ (a:=[47]) (by simp only[bm,ck];omega)) rfl;apply vn (yZ (by simp only[gK,bm,ck];omega)) rfl;dsimp only[aP,aQ];rw[aD h1,aD O];exact aN
 rw[aD h1,aI O,dD];exact aN
end Go.Sy
