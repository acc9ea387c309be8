/- Part. -/
import Derived.Test.YtacgmapjhpghkaaGreatDoorRa
import Derived.Laws.Cover3
import Derived.Shelf.Strings.BuilderK
import Derived.Shelf.Strconv.Itoa3
import Derived.Shelf.Strings.Repeat
import Derived.RangeFuncNested
set_option linter.all false
set_option maxHeartbeats 2000000
set_option maxRecDepth 100000
namespace Go.Sy
def mU:=@Go.CallsIn.inRound
def ue:=@Go.Lib.byteCells_length
def ve:=@Go.Lib.byteCells_append
def vd:=@Go.Lib.strCells_eq
def PL:=@Go.run_equal_slice_nil
def Rg:=@Go.Lib.IsBuilderF.of
open Go Go.Proofs Tryz Ord
def cj3:Tr:=aJ8 98 (aR 1 0 (hx173Q ) (aq3 98 (TI 3 56 2 0 5 6 98 (nP 3 3))))
theorem Tg:aV prog f207 ck [.v none]=cj3:=by kernel_rfl
def aD8:Tr:=.back 0 [lV 9 0]
def aF5:Tr:=dp 2 1 17 aD8
def ax0:Tr:=cH 10
def bW2:Tr:=bA 0 0 4 0 98 9 11 (bW 5 3 46 12 (Lq 23 6 13 3 (eB 7 0 0 3 14 (aR 8 0 aF5 (Ly 2 98 19 20 (mz 207 9 21 98 98 ax0))))))
def bQ0:Tr:=al 0 0 4 98 (BR 1 (qS .gtr 3 6 0 2 0 4 (aR 3 0 (dp 2 1 10 bW2) (Ly 2 98 19 20 (mz 207 4 21 98 98 (cH 5))))))
theorem aR2:aV prog f157 ck [.v none]=bQ0:=by kernel_rfl
def bT9:Tr:=Cv 157 0 3 98 98 (al 1 0 4 98 (dp 2 1 5 (cH 3)))
theorem ai7:aV prog f83 ck [.v none]=bT9:=by kernel_rfl
def bQ4:Tr:=bW 5 4 51 12 (fO 56 [(G4 6)] [none] [13] [51] 3 false (eB 7 0 0 3 14 (aR 8 0 aF5 (Ly 2 102 19 20 (YI 4 64 9 21 102 (nP 4 10))))))
def cd1:Tr:=al 0 0 4 102 (BR 1 (qS .gtr 3 6 0 2 0 4 (aR 3 0 (dp 2 1 10 (bA 0 0 4 0 102 9 11 bQ4)) (Ly 2 102 19 20 (YI 4 64 4 21 102 (nP 4 5))))))
theorem aZ3:aV prog f126 ck [.v none]=cd1:=by kernel_rfl
def aC.aB2:aC where
 rep:=fun _ _ v=>∃cap,v=.slice none 0 cap/\cap<=maxLen
 mono:=fun _ h=>h
 one:=by rintro M w v ⟨cap,rfl,_⟩;rfl
def aC.nnS(sz:Nat)(ts:List (List aC)):aC where
 rep:=fun M w v=>(aC.slice sz ts).rep M w v/\∃a l c,v=.slice (some a) l c
 mono:=fun hk h=>⟨aC.mono _ hk h.1,h.2⟩
 one:=fun h=>aC.one _ h.1
theorem aC.Sub.nn{sz:Nat}{ts:List (List aC)}:(aC.nnS sz ts).Sub (.slice sz ts):=
 .inr ⟨fun M w v h=>by obtain⟨_,a,l,c,rfl⟩:=h;exact⟨some a,l,c,rfl⟩,fun M w v h=>h.1⟩
theorem Vv{sz:Nat}{ts:List (List aC)}{M:Nat->Prop}{w:World}{v:Value}(h:(aC.slice sz ts).rep M w v):(ts=[]/\aC.aB2.rep M w v)\/(aC.nnS sz ts).rep M w v:=by
 have h0:=h;obtain⟨a,cap,rfl,hc,hm,hel⟩:=h;cases a with
 | some a=>exact .inr ⟨h0,a,_,_,rfl⟩
 | none=>
   rcases hel with rfl | ⟨b,off,cs,T,fz,e,_⟩
   ·exact .inl ⟨rfl,cap,rfl,hm⟩
   ·cases e
theorem Dr{P:Program}{f:FuncId}{sz:Nat}{ts:List (List aC)}{out:Out}(h1:ts=[]->aU P f [.one .aB2] out)(h2:aU P f [.one (.nnS sz ts)] out):aU P f [.one (.slice sz ts)] out:=by
 refine⟨h2.1,fun M w vs hM hv=>?_⟩
 match vs,hv with
 | [v],hv=>
   rcases Vv hv.1 with⟨e,h⟩ | h
   ·exact(h1 e).2 M w [v] hM ⟨h,trivial⟩
   ·exact h2.2 M w [v] hM ⟨h,trivial⟩
 | [],hv=>exact hv.elim
 | _::_::_,hv=>exact hv.2.elim
section
variable{P:Program}{T U ty:TypeId}{x y:Operand}
theorem aK0{E sz b:Nat}(h:dY P T=some (E,sz,b)):ah P (.binOp .eql T x y U) ty [.one .aB2,.one (.exact (.slice none 0 0))] (.one (.bool true)):=by
 obtain⟨ie,hu,_⟩:=bZ h;intro M w ρ o ho ht hr;obtain⟨hx,hy⟩:=rF (x:=x) (y:=y) hr;obtain⟨cap,hx,_⟩:=hx;have hy:ρ y=.slice none 0 0/\_:=hy;refine⟨.bool true,?_,⟨rfl,rfl⟩⟩;simp[execOp,ho,hx,hy.1,eqGuard,binOp,PL w T E none 0 cap hu]
theorem aG6{E sz b sz':Nat}{ts:List (List aC)}(h:dY P T=some (E,sz,b)):ah P (.binOp .eql T x y U) ty [.one (.nnS sz' ts),.one (.exact (.slice none 0 0))] (.one (.bool false)):=by
 obtain⟨ie,hu,_⟩:=bZ h;intro M w ρ o ho ht hr;obtain⟨hx,hy⟩:=rF (x:=x) (y:=y) hr;obtain⟨_,a,l,c,hx⟩:=hx;have hy:ρ y=.slice none 0 0/\_:=hy;refine⟨.bool false,?_,⟨rfl,rfl⟩⟩;simp[execOp,ho,hx,hy.1,eqGuard,binOp,PL w T E (some a) l c hu]
end
theorem an0  :aU prog 207 [(.one .aB2:aN)] (.ret [.one (.slice 3 [])]):=by
 refine dL func207 Tg ?_;apply vn (aK0 kg);refine jm true rfl (fun _=>?_) (fun h=>by cases h);exact fK ⟨aC.Sub.nil,trivial⟩
theorem ag4(ts:List (List aC))(hs:ts.length<1099511627776):aU prog 207 [(.one (.nnS 3 ts):aN)] (.ret [.one (.slice 3 ts)]):=by
 refine dL func207 Tg ?_;apply vn (aG6 kg);refine jm false rfl (fun h=>by cases h) (fun _=>?_);apply eL (us:=[]);refine uH (ts:=[]) (us:=ts) (vs:=ts) rfl (.inr aC.Sub.nn) rfl (by omega) (by simp only[maxLen];omega) ?_;exact aL
theorem VN(ts:List (List aC))(hs:ts.length<1099511627776):aU prog 207 [.one (.slice 3 ts)] (.ret [.one (.slice 3 ts)]):=
 Dr (fun e=>by subst e;exact an0) (ag4 ts hs)
def nX{α:Type}(z:α->Bool):List α->Nat
 | []=>0
 | x::xs=>if nX z xs=0/\z x=true then 0 else nX z xs+1
theorem jX{α:Type}{z:α->Bool}:∀l:List α,nX z l<=l.length
 | []=>aa _
 | x::xs=>by
   have:=jX (z:=z) xs;simp only[nX,an];split<;>omega
theorem tK{α:Type}{z:α->Bool}:∀{l:List α}{n:Nat},n<=l.length->(∀i x,n<=i->l[i]?=some x->z x=true)->(n=0\/∃x,l[n-1]?=some x/\z x=false)->nX z l=n
 | [],n,h,_,_=>by simp at h;subst h;rfl
 | x::xs,n,h,h1,h2=>by
   cases n with
   | zero=>
     have h3:=tK (z:=z) (l:=xs) (n:=0) (cz _) (fun i y _ hy=>h1 (i+1) y (cz _) (by simpa using hy)) (.inl rfl);have h4:=h1 0 x (cz _) rfl;simp[nX,h3,h4]
   | succ n=>
     have h3:=tK (z:=z) (l:=xs) (n:=n) (by simpa using h) (fun i y hi hy=>h1 (i+1) y (by omega) (by simpa using hy)) (by
      cases n with
      | zero=>exact .inl rfl
      | succ n=>
        rcases h2 with h2 | ⟨y,hy,hz⟩
        ·omega
        ·exact .inr ⟨y,by simpa using hy,hz⟩)
     simp only[nX,h3];rw[aG];rintro⟨h4,h5⟩;subst h4;rcases h2 with h2 | ⟨y,hy,hz⟩
     ·omega
     ·simp at hy;subst hy;rw[h5]at hz;cases hz
theorem Ve{α β:Type}{z:β->Bool}(f:α->β):∀l:List α,nX z (l.map f)=nX (fun a=>z (f a)) l
 | []=>rfl
 | x::xs=>by simp only[en,nX,Ve f xs]
abbrev rQ(ps:List Rat):List (List aC):=ps.map qC
abbrev sQ(ps:List Rat):aC:=.slice 3 (rQ ps)
abbrev rR(ps:List RQ):List (List aC):=ps.map rC
abbrev sR(ps:List RQ):aC:=.slice 4 (rR ps)
def zr(q:Rat):Bool:=decide (q=0)
def zrR(a:RQ):Bool:=decide (a.q=0)
def trim(ps:List Rat):List Rat:=ps.take (nX zr ps)
def kY(ps:List RQ):List RQ:=ps.take (nX zrR ps)
theorem pH(ps:List RQ):(kY ps).map RQ.q=trim (ps.map RQ.q):=by
 rw[trim,Ve,kY,jB];rfl
theorem zF{q:Rat}:zr q=decide (q.num.sign=0):=by rw[zr,kF];exact sign_zero.symm
theorem gX(ps:List Rat):(trim ps).length=nX zr ps:=by rw[trim,bK];have:=jX (z:=zr) ps;omega
theorem Nn(ps:List RQ):(kY ps).length=nX zrR ps:=by rw[kY,bK];have:=jX (z:=zrR) ps;omega
theorem zx{E sz b T:Nat}{α:Type}{f:α->List aC}{ds:List α}{x:Operand}{ty:Nat}{y:Operand}{k:IntKind}{n:Int}{m:Nat}(h:dY prog T=some (E,sz,b))(hn:m<=ds.length)(h0:0<=n:=by omega)(hm:n.toNat=m:=by omega):ah prog (.slice T x none (some y) none) ty [.one (.slice sz (ds.map f)),.one (.int k n)] (.one (.slice sz ((ds.take m).map f))):=by
 have:=xS (P:=prog) (T:=T) (x:=x) (y:=y) (ty:=ty) (k:=k) (n:=n) (ts:=ds.map f) h h0 (by rw[aI,hm];exact hn);rw[hm,<-jB]at this;exact this
theorem Az(ps:List Rat)(hs:ps.length<1099511627776):aU prog 157 [(.one (sQ ps):aN)] (.ret [.one (sQ (trim ps))]):=by
 refine dL func157 aR2 ?_;apply vn (aP kg (aI _));refine bE {n:Nat // n<=ps.length/\∀i q,n<=i->ps[i]?=some q->zr q=true} (fun g=>[.one (.int .i64 g.1)]) (fun g=>g.1) ⟨ps.length,aa _,fun i q hi hq=>by have:=(dM.1 hq).1;omega⟩ aZ.rfl (fun _=>rfl) ?_;rintro⟨n,hn,hz⟩;dsimp only[aE,aF]at hn hz|-;apply vn fB;refine vs _ rfl ?_ ?_<;>intro h3
 ·apply vn (aH (by omega) (by omega));dsimp only[aE,aF];obtain⟨q,hq⟩:∃q,ps[n-1]?=some q:=⟨_,bQ (by omega)⟩
  apply vn (aJ kg (by omega) (by omega) hq);apply vn (aQ cM (by decide) (by simp) (.inl rfl));apply aA (lM q);apply vn bj;dsimp only[aE,aF];refine vs _ rfl ?_ ?_<;>intro h9
  ·apply vn (aH (by omega) (by omega))
   exact ab rfl ⟨⟨n-1,by omega,fun i r hi hr=>by
    rcases fY i n with h | h
    ·rw[show i=n-1 by omega,hq]at hr;simp only[aW]at hr;subst hr;rw[zF];simpa using h9
    ·exact hz i r h hr⟩,⟨aN.Sub.of_eq (congrArg (fun q=>aN.one (aC.int .i64 q)) (by show(n:Int)-1=((n-1:Nat):Int);omega)),trivial⟩,by show n-1<n;omega⟩
  apply vn (zx kg hn);dsimp only[aE,aF];have ht:=tK hn hz (.inr ⟨q,hq,by rw[zF];simpa using h9⟩);apply aA (VN _ (by rw[aI,bK];omega)) rfl;dsimp only[aE,aF];rw[trim,ht];exact aL
 apply vn (zx kg hn);dsimp only[aE,aF];have ht:=tK hn hz (.inl (by omega));apply aA (VN _ (by rw[aI,bK];omega)) rfl;dsimp only[aE,aF];rw[trim,ht];exact aL
theorem ak6(ps:List Rat)(hs:ps.length<1099511627776):aU prog 83 [(.one (sQ ps):aN)] (.ret [.one (.int .i64 ((nX zr ps:Int)-1))]):=by
 refine dL func83 ai7 ?_;have hle:=jX (z:=zr) ps;have htl:=gX ps;apply aA (Az ps hs);apply vn (aP kg (aI _));apply vn (aH (by omega) (by omega));dsimp only[aE,aF];rw[<-htl];exact aL
theorem Aq(ps:List RQ)(hs:ps.length<1099511627776):aU prog 126 [(.one (sR ps):aN)] (.ret [.one (sR (kY ps))]):=by
 refine dL func126 aZ3 ?_;apply vn (aP jv (aI _));refine bE {n:Nat // n<=ps.length/\∀i q,n<=i->ps[i]?=some q->zrR q=true} (fun g=>[.one (.int .i64 g.1)]) (fun g=>g.1) ⟨ps.length,aa _,fun i q hi hq=>by have:=(dM.1 hq).1;omega⟩ aZ.rfl (fun _=>rfl) ?_;rintro⟨n,hn,hz⟩;dsimp only[aE,aF]at hn hz|-;apply vn fB;refine vs _ rfl ?_ ?_<;>intro h3
 ·apply vn (aH (by omega) (by omega));dsimp only[aE,aF];obtain⟨q,hq⟩:∃q,ps[n-1]?=some q:=⟨_,bQ (by omega)⟩
  apply vn (aJ jv (by omega) (by omega) hq);apply vn (aQ gB (by decide) (by simp) (.inl rfl));apply aA (Zv q);apply vn bj;dsimp only[aE,aF];refine vs _ rfl ?_ ?_<;>intro h9
  ·apply vn (aH (by omega) (by omega))
   exact ab rfl ⟨⟨n-1,by omega,fun i r hi hr=>by
    rcases fY i n with h | h
    ·rw[show i=n-1 by omega,hq]at hr;simp only[aW]at hr;subst hr;show zr q.q=true;rw[zF];simpa using h9
    ·exact hz i r h hr⟩,⟨aN.Sub.of_eq (congrArg (fun q=>aN.one (aC.int .i64 q)) (by show(n:Int)-1=((n-1:Nat):Int);omega)),trivial⟩,by show n-1<n;omega⟩
  apply vn (zx jv hn);dsimp only[aE,aF];have ht:=tK (z:=zrR) hn hz (.inr ⟨q,hq,by show zr q.q=false;rw[zF];simpa using h9⟩);refine uH (ts:=[]) (us:=rR (ps.take n)) (vs:=rR (ps.take n)) rfl (.inr aC.Sub.same) rfl (by rw[aI,bK];omega) (by rw[aI,bK];simp only[maxLen];omega) ?_;dsimp only[aE,aF];rw[kY,ht];exact aL
 apply vn (zx jv hn);dsimp only[aE,aF];have ht:=tK (z:=zrR) hn hz (.inl (by omega));refine uH (ts:=[]) (us:=rR (ps.take n)) (vs:=rR (ps.take n)) rfl (.inr aC.Sub.same) rfl (by rw[aI,bK];omega) (by rw[aI,bK];simp only[maxLen];omega) ?_;dsimp only[aE,aF];rw[kY,ht];exact aL
open Go Go.Proofs Go.RowKit Go.Shelf Tryz Ord
attribute [local go_sem] Oper.semAt_some
section
variable{α:Type}[Inhabited α]{e0 e1 e2:α->Value}
theorem al0(l Bs n₀ b off cap:Nat)(vs:List α)(hlen:vs.length<4611686018427387904)(hb:b<n₀)(J Jx:List (Nat×α)->World->Prop)
  (hY:∀pre x W,J pre W->pre.length<vs.length->YieldAt Fence.wide (1000-1) prog l #[.int .i64 (x.1:Int),(.agg #[e0 x.2,e1 x.2,e2 x.2])] W fun e W'=>
   (e=.returned (.bool true)/\J (pre++[x]) W'/\KpB n₀ Bs W W')\/(e=.returned (.bool false)/\Jx (pre++[x]) W'))
  (W:World) (hBs:W.cell? ⟨Bs,0,none⟩=some (.slice (some ⟨b,off,none⟩) vs.length cap)) (hc:∀j v,vs[j]?=some v->W.cell? ⟨b,off+j*3,none⟩=some (e0 v)/\W.cell? ⟨b,off+j*3+1,none⟩=some (e1 v)/\W.cell? ⟨b,off+j*3+2,none⟩=some (e2 v)) (h0:J [] W) :
  CallsIn Fence.wide 1000 prog 246 #[.func (.yield l) #[] #[],.pointer (some ⟨Bs,0,none⟩)] W fun e W'=>(∃v,e=.returned v) /\
   ((∃ys,ys=bk vs vs.length/\J ys W')\/(∃pre,(∃k,k<=vs.length/\pre=bk vs k)/\Jx pre W')):=by
 refine iH func246 rfl trivial ?_ rfl;simp only[ntmps246,cw,an,bo,Nat.reduceAdd,Nat.reduceSub,dx,dk,du,di,List.nil_append,List.cons_append];obtain⟨N,hN⟩:∃N,vs.length=N:=⟨_,rfl⟩
 rw[hN]at hBs hY hlen|-
 gi_wp2
 gi_loopw [3] (fun i wr=>∃k:Nat,k<=N/\i=.int .i64 ((N:Int)-1-k)/\J (bk vs k) wr/\Below n₀ W wr/\wr.cell? ⟨Bs,0,none⟩=some (.slice (some ⟨b,off,none⟩) N cap))
  (fun i _=>(intOf i+1).toNat)
 case atStart=>exact⟨0,cz _,by simp,h0,cu _ _,hBs⟩
 case round=>
  obtain⟨k,hk,rfl,hJs,hnx,hBx⟩:=hrel;have hmeas:(intOf (.int .i64 ((N:Int)-1-k))+1).toNat=N-k:=by simp[intOf];omega
  by_cases hlt:k<N
  ·have hv:vs[N-1-k]?=some (vs[N-1-k]?.getD default):=by rw[bQ (by omega)];rfl
   obtain⟨hx0,hx1,hx2⟩:=hc _ _ hv;have hcx0:=(hnx.cell (p:=⟨b,off+(N-1-k)*3,none⟩) hb).trans hx0;have hcx1:=(hnx.cell (p:=⟨b,off+(N-1-k)*3+1,none⟩) hb).trans hx1;have hcx2:=(hnx.cell (p:=⟨b,off+(N-1-k)*3+2,none⟩) hb).trans hx2;clear hx0 hx1 hx2;obtain⟨fn,tmps,assign,body,hy,hR⟩:=hY _ (N-1-k,vs[N-1-k]?.getD default) wr hJs (by rw[Lk];exact hlt);generalize hx:vs[N-1-k]?.getD default=x at hy hR hcx0 hcx1 hcx2;have hsucc:bk vs (k+1)=bk vs k++[(N-1-k,x)]:=by rw[PW,hN,hx]
   have e1:(N:Int)-1-k=((N-1-k:Nat):Int):=by omega
   have hn1:N-1-k<N:=by omega
   rw[e1]
   gi_wp2
   refine hR.mono ?_;rintro e W3 (⟨rfl,hJ3,hk3⟩ | ⟨rfl,hJx3⟩)
   ·gi_wp2
    go_roundw
    case rel=>exact⟨k+1,by omega,by congr 1;omega,by rw[hsucc];exact hJ3,hnx.trans hk3.1,hk3.2 _ hBx⟩
    case measure=>simp[intOf]
   ·gi_wp2
    refine gZ (Aw rfl _ _ _) rfl ?_;exact⟨⟨_,rfl⟩,.inr ⟨_,⟨k+1,by omega,rfl⟩,by rw[hsucc];exact hJx3⟩⟩
  ·obtain rfl:k=N:=by omega
   gi_wp2
   go_end0
   exact⟨⟨_,rfl⟩,.inl ⟨_,rfl,hJs⟩⟩
theorem Wv{α:Type}(l Bs:Nat)(a:Option Addr)(cap:Nat)(J:List (Nat×α)->World->Prop)(W:World)(hBs:W.cell? ⟨Bs,0,none⟩=some (.slice a 0 cap))(h0:J [] W) :
  CallsIn Fence.wide 1000 prog 246 #[.func (.yield l) #[] #[],.pointer (some ⟨Bs,0,none⟩)] W fun e W'=>(∃v,e=.returned v)/\J [] W':=by
 refine iH func246 rfl trivial ?_ rfl;simp only[ntmps246,cw,an,bo,Nat.reduceAdd,Nat.reduceSub,dx,dk,du,di,List.nil_append,List.cons_append]
 gi_wp2
 gi_loopw [3] (fun i wr=>i=.int .i64 (-1)/\J [] wr) (fun _ _=>0)
 case atStart=>exact⟨rfl,h0⟩
 case round=>
  obtain⟨rfl,hJs⟩:=hrel
  gi_wp2
  go_end0
  exact⟨⟨_,rfl⟩,hJs⟩
theorem VS(n:Nat)(a:Option Addr)(len cap:Nat)(w:World) :
  CallsIn Fence.wide n prog 224 #[.slice a len cap] w fun e w'=>e=.returned (.func (.func 246) #[] #[.pointer (some ⟨w.heap.size,0,none⟩)])/\w'=w.alloc (.cells #[.slice a len cap] 98):=by
 refine iH func224 rfl trivial ?_ rfl;simp only[ntmps224,cw,an,bo,Nat.reduceAdd,Nat.reduceSub,dx,dk,du,di,List.nil_append,List.cons_append]
 gi_wp2
 go_ret
 exact⟨rfl,rfl⟩
def Sl3(e0 e1 e2:α->Value)(n₀:Nat)(W:World)(sv:Value)(vs:List α):Prop:=
 ∃a cap,sv=.slice a vs.length cap/\(vs=[]\/∃b off,a=some ⟨b,off,none⟩/\b<n₀/\∀j v,vs[j]?=some v->W.cell? ⟨b,off+j*3,none⟩=some (e0 v)/\W.cell? ⟨b,off+j*3+1,none⟩=some (e1 v)/\W.cell? ⟨b,off+j*3+2,none⟩=some (e2 v))
theorem Sl3.below{α:Type}{e0 e1 e2:α->Value}{n₀:Nat}{A B:World}(h:Below n₀ A B){sv:Value}{vs:List α}:Sl3 e0 e1 e2 n₀ A sv vs->Sl3 e0 e1 e2 n₀ B sv vs:=by
 rintro⟨a,cap,e,rfl | ⟨b,off,rfl,hb,hc⟩⟩
 ·exact⟨a,cap,e,.inl rfl⟩
 ·exact⟨_,cap,e,.inr ⟨b,off,rfl,hb,fun j v hj=>⟨(h.cell (p:=⟨b,off+j*3,none⟩) hb).trans (hc j v hj).1,(h.cell (p:=⟨b,off+j*3+1,none⟩) hb).trans (hc j v hj).2.1,(h.cell (p:=⟨b,off+j*3+2,none⟩) hb).trans (hc j v hj).2.2⟩⟩⟩
theorem yQ(Bs n₀:Nat)(sv:Value)(vs:List α)(hlen:vs.length<4611686018427387904)(w:World)(hBs:Bs<w.heap.size)(hn₀:n₀<=w.heap.size)
  (hc:w.cell? ⟨Bs,0,none⟩=some sv) (hI:Sl3 e0 e1 e2 n₀ w sv vs) :
  SeqStopsK Fence.wide 1000 prog 246 #[.pointer (some ⟨Bs,0,none⟩)] (fun x:Nat×α=>#[Value.int .i64 (x.1:Int),(Value.agg #[e0 x.2,e1 x.2,e2 x.2])]) (KpB n₀ Bs) (fun ys=>ys=bk vs vs.length) (fun pre=>∃k,k<=vs.length/\pre=bk vs k) vs.length w:=fun l J Jx W hW _ _ hY h0=>by
 have hc':=(hW.cell (p:=⟨Bs,0,none⟩) hBs).trans hc;obtain⟨a,cap,rfl,rfl | ⟨b,off,rfl,hb,hcs⟩⟩:=hI.below (hW.mono hn₀)
 ·exact(Wv (α:=α) l Bs a cap J W hc' h0).mono fun e W' ⟨he,hj⟩=>⟨he,.inl ⟨_,rfl,hj⟩⟩
 ·exact(al0 (e0:=e0) (e1:=e1) (e2:=e2) l Bs n₀ b off cap vs hlen hb J Jx hY W hc' hcs h0)
end
end Go.Sy
namespace Go.Sy
open Go Go.Proofs Tryz Ord
def ca0:Tr:=aw5 0 31 (dD 5 0 13 5 29 32 4 (aR 14 0 (pE 76 6 7 0 8 0 2 36 37 (pD 77 9 10 0 11 0 12 0 4 0 4 1 4 2 4 3 39 40 (.need (.prim [(W 5 0),(.one (.c (.k (.int .u8 1))))] none) (.binOp .add 5 (tT 34) (.const (.int .u8 1)) 5) 5 false (.back 0 [lV 17 0,lV 15 0,lV 15 1,lV 15 2,lV 16 0,lV 16 1,lV 16 2,lV 16 3])))) (.ret [(.agg [(U 6 0),(U 7 0),(U 8 0)]),(.agg [(U 9 0),(U 10 0),(U 11 0),(U 12 0)])])))
def bo0:Tr:=.loop 0 [(.w (.one (.c (.k (.int .u8 0))))),lV 2 0,lV 2 1,lV 2 2,lV 4 0,lV 4 1,lV 4 2,lV 4 3] ca0
def bV1:Tr:=eB 0 1 0 2 11 (aR 1 0 (fO 72 [(W 0 0),(WK 1)] [(some 3),none] [16,18] [2,2] 55 false (fO 75 [(W 0 0),(WK 1)] [(some 4)] [23,25] [2,2] 51 true bo0)) (UC 72 0 0 1 3 16 18 2 2 55 (Bj 75 0 0 1 4 23 25 2 2 51 bo0)))
theorem bi5:aV prog f15 ck [.v (some 3)]=bV1:=by kernel_rfl
def ch7:Tr:=fO 15 [(G3 7)] [(some 3),(some 4)] [19] [27] 52 false (wM 8 28 24 (fH 3 56 2 10 23 25 28 (ju 9 32 28 (fH 4 64 3 12 27 29 32 (ao 1 1 3 13 (uM 14 11 13))))))
def cj1:Tr:=.loop 0 [lK 0,.nilrow,.nilrow] (al 0 0 10 22 (dD 1 0 4 3 9 11 4 (aR 5 0 (bA 0 0 1 0 22 16 17 (bW 6 3 27 18 ch7)) (.ret [(.one (.c (.sr 3 2))),(.one (.c (.sr 4 3)))]))))
theorem aR3:aV prog f33 ck [.v none]=cj1:=by kernel_rfl
structure de where
 n:Int
 d:Int
 pow:Nat
abbrev nC(x:de):List aC:=[.int .i64 x.n,.int .i64 x.d,.int .u8 x.pow]
abbrev nT(x:de):aN:=.agg (nC x)
abbrev sN(l:List de):aC:=.slice 3 (l.map nC)
structure de.In(x:de):Prop where
 n1:-9223372036854775808<=x.n
 n2:x.n<9223372036854775808
 d1:-9223372036854775808<=x.d
 d2:x.d<9223372036854775808
 p:x.pow<256
def de.b(x:de):Rat:=(x.n:Rat)/((if x.d=0 then 1 else x.d:Int):Rat)
def de.v(x:de):Rat:=x.b^(x.pow%4+1)
theorem _root_.Ord.Fit.pow{B:Nat}{q:Rat}(h:Fit B q)(hB:1<=B):∀n,Fit (B*n+1) (q^n)
 | 0=>by rw[ss];exact(Fit.int (n:=1) (B:=1) (by omega) (by decide)).mono (by omega)
 | n+1=>by
   rw[lR];exact((Ord.Fit.pow h hB n).mul h).mono (by rw[ep];omega)
theorem de.In.fit{x:de}(h:x.In):Fit 128 x.b:=by
 unfold de.b;split
 ·exact(sX h.n1 h.n2).div (sX (n:=1))
 ·exact(sX h.n1 h.n2).div (sX h.d1 h.d2)
theorem ad1(x:de)(h:x.In):aU prog 15 [(nT x:aN)] (.ret [qT x.v,qw (.of x.v)]):=by
 refine dL func15 bi5 ?_;have h1:=h.n1;have h2:=h.n2;have h3:=h.d1;have h4:=h.d2;have h5:=h.p;have hf:=h.fit;have hp:=fun i=>hf.pow (by omega) i
 have hm1:∀i,i<4->aU prog 76 [qT (x.b^(i+1)),qT x.b] (.ret [qT (x.b^(i+1+1))]):=fun i hi=>by
  have:=jJ (x.b^(i+1)) x.b _ _ (hp (i+1)) hf;rw[<-lR]at this;exact this
 have hm2:∀i,i<4->aU prog 77 [qw (.of (x.b^(i+1))),qw (.of x.b)] (.ret [qw (.of (x.b^(i+1+1)))]):=fun i hi=>by
  have:=uJ (.of (x.b^(i+1))) (.of x.b) _ _ (hp (i+1)) hf;rw[RQ.Pv,RQ.Pv,<-lR]at this;exact this
 apply vn bj;refine vs _ rfl ?_ ?_<;>intro h1
 ·have hb:x.b=(x.n:Rat)/((1:Int):Rat):=by rw[de.b,aK h1]
  have ho:=bD3 x.n 1 h.n1 h2;rw[aG (by omega),aG (by omega),<-hb]at ho;apply aA ho;dsimp only[aE,aF];have ho:=az2 x.n 1 h.n1 h2;rw[<-hb]at ho;apply aA ho
  refine bE {i:Nat // i<=x.pow%4} (fun g=>[.one (.int .u8 g.1),.one (dT (x.b^(g.1+1)).num.natAbs),.one (.bool (decide ((x.b^(g.1+1)).num<0))),.one (dT ((x.b^(g.1+1)).den-1)),.one (.int .i64 (x.b^(g.1+1)).num.sign),.one (bT (x.b^(g.1+1)).num.natAbs),.one (.int .i64 1),.one (bT (x.b^(g.1+1)).den)]) (fun g=>x.pow%4-g.1) ⟨0,cz _⟩ (by
   have e:x.b^(0+1)=x.b:=by rw[lR,ss,vD]
   simp only[e];exact aZ.rfl) (fun _=>rfl) ?_
  rintro⟨i,hi⟩;dsimp only[aE,aF]at hi|-;apply vn mX;apply vn aj;refine vs _ rfl ?_ ?_<;>intro h7
  ·apply aA (hm1 i (by omega));apply aA (hm2 i (by omega));dsimp only[aE,aF];apply vn TW;dsimp only[aE,aF];exact ab rfl ⟨⟨i+1,by omega⟩,aZ.rfl,by show x.pow%4-(i+1)<x.pow%4-i;omega⟩
  have hie:i=x.pow%4:=by omega
  subst hie;exact aL
 have hb:x.b=(x.n:Rat)/(x.d:Rat):=by rw[de.b,aG h1]
 have ho:=bD3 x.n x.d h.n1 h2 h3 h4;rw[aG h1,aG h1,<-hb]at ho;apply aA ho;dsimp only[aE,aF];have ho:=az2 x.n x.d h.n1 h2 h1 h3 h4;rw[<-hb]at ho;apply aA ho
 refine bE {i:Nat // i<=x.pow%4} (fun g=>[.one (.int .u8 g.1),.one (dT (x.b^(g.1+1)).num.natAbs),.one (.bool (decide ((x.b^(g.1+1)).num<0))),.one (dT ((x.b^(g.1+1)).den-1)),.one (.int .i64 (x.b^(g.1+1)).num.sign),.one (bT (x.b^(g.1+1)).num.natAbs),.one (.int .i64 1),.one (bT (x.b^(g.1+1)).den)]) (fun g=>x.pow%4-g.1) ⟨0,cz _⟩ (by
  have e:x.b^(0+1)=x.b:=by rw[lR,ss,vD]
  simp only[e];exact aZ.rfl) (fun _=>rfl) ?_
 rintro⟨i,hi⟩;dsimp only[aE,aF]at hi|-;apply vn mX;apply vn aj;refine vs _ rfl ?_ ?_<;>intro h18
 ·apply aA (hm1 i (by omega));apply aA (hm2 i (by omega));dsimp only[aE,aF];apply vn TW;dsimp only[aE,aF];exact ab rfl ⟨⟨i+1,by omega⟩,aZ.rfl,by show x.pow%4-(i+1)<x.pow%4-i;omega⟩
 have hie:i=x.pow%4:=by omega
 subst hie;exact aL
def cP(l:List de):List Rat:=l.map de.v
def kX(l:List de):List RQ:=l.map fun x=>RQ.of x.v
theorem xF{α β:Type}{f:α->β}{l:List α}{i:Nat}{x:α}(h:l[i]?=some x):(l.take i).map f++[f x]=(l.take (i+1)).map f:=by
 rw[ma,h,bt];rfl
theorem aa1(l:List de)(h:∀x∈l,x.In)(hs:l.length<1099511627776):aU prog 33 [(.one (sN l):aN)] (.ret [.one (sQ (cP l)),.one (sR (kX l))]):=by
 refine dL func33 aR3 ?_;refine bE {i:Nat // i<=l.length} (fun g=>[.one (.int .i64 g.1),.rows (rQ ((l.take g.1).map de.v)),.rows (rR ((l.take g.1).map fun x=>RQ.of x.v))]) (fun g=>l.length-g.1) ⟨0,cz _⟩ aZ.rfl (fun _=>rfl) ?_;rintro⟨i,hi⟩;dsimp only[aE,aF]at hi|-;apply vn (aP Yq (aI _));apply vn aj;refine vs _ rfl ?_ ?_<;>intro h3
 ·obtain⟨x,hx⟩:∃x,l[i]?=some x:=⟨_,bQ (by omega)⟩
  have hl1:((l.take i).map de.v).length<=i:=by simp;omega
  have hl2:((l.take i).map fun x=>RQ.of x.v).length<=i:=by simp;omega
  apply vn (aJ Yq (by omega) (by omega) hx);apply vn (aQ cg4 (by decide) (by simp) (.inl rfl));dsimp only[aE,aF];apply aA (ad1 x (h x (ei hx)));apply eL (us:=[qC x.v]);refine iE (xs:=(l.take i).map de.v) (x:=x.v) (f:=qC) rfl rfl (by omega) (by simp only[maxLen];omega) ?_;rw[xF hx];apply eL (us:=[rC (RQ.of x.v)]);dsimp only[aE,aF];refine iE (xs:=(l.take i).map fun x:de=>RQ.of x.v) (x:=RQ.of x.v) (f:=rC) rfl rfl (by omega) (by simp only[maxLen];omega) ?_;rw[xF (f:=fun x:de=>RQ.of x.v) hx];apply vn (aB (by omega) (by omega));dsimp only[aE,aF];exact ab rfl ⟨⟨i+1,by omega⟩,aZ.rfl,by show l.length-(i+1)<l.length-i;omega⟩
 rw[show i=l.length by omega,gw];exact aL
def de.short(x:de):Bool:=decide (x.pow%4=0/\x.n<=999/\-999<=x.n/\x.d<=999/\-999<=x.d)
open Go
abbrev chr(d:Nat):UInt8:=UInt8.ofNat (48+d)
def gm:Nat->Nat->List UInt8
 | 0,_=>[]
 | k+1,n=>gm k (n/10)++[chr (n%10)]
abbrev dec(n:Nat):List UInt8:=Lib.decDigits n
theorem gN{n:Nat}(h:n<10):dec n=[chr n]:=by rw[dec,Lib.decDigits,dif_pos h]
theorem jM{n:Nat}(h:¬n<10):dec n=dec (n/10)++[chr (n%10)]:=by rw[dec,Lib.decDigits,dif_neg h]
theorem rL:∀k n,(gm k n).length=k
 | 0,_=>rfl
 | k+1,n=>by rw[gm,cJ,rL k];rfl
theorem Bb:∀j k n,gm (j+k) n=gm j (n/10^k)++gm k n
 | j,0,n=>by simp[gm]
 | j,k+1,n=>by
   show gm (j+k) (n/10)++[chr (n%10)]=_;rw[Bb j k (n/10),gm,dq,lq,bh,cD 10]
theorem BJ:∀k n,gm k (n%10^k)=gm k n
 | 0,_=>rfl
 | k+1,n=>by
   have h1:n%10^(k+1)/10=n/10%10^k:=by
    rw[bh,cD,Nat.mod_mul_right_div_self]
   have h2:n%10^(k+1)%10=n%10:=Nat.mod_mod_of_dvd n ⟨10^k,by rw[bh,cD]⟩;rw[gm,gm,h1,h2,BJ k]
theorem Mn:∀k,gm k 0=List.replicate k 48
 | 0=>rfl
 | k+1=>by rw[gm,Nat.zero_div,Mn k,Nat.zero_mod,List.replicate_succ'];rfl
theorem Lm:∀k n,0<n/10^k->dec n=dec (n/10^k)++gm k n
 | 0,n,_=>by simp[gm]
 | k+1,n,h=>by
   rw[bh,cD,<-lq]at h|-;have h10:¬n<10:=fun hn=>by rw[fA hn,Nat.zero_div]at h;omega
   rw[jM h10,Lm k (n/10) h,gm,dq]
theorem aF0{k m d:Nat}(hm:0<m)(hd:d<10^k):dec (d+10^k*m)=dec m++gm k d:=by
 have hp:0<10^k:=ej (by omega);have e:(d+10^k*m)/10^k=m:=by rw[nt _ _ hp,fA hd,bM]
 rw[Lm k _ (by rw[e];exact hm),e,<-BJ k (d+_),se,ew hd]
theorem Ab(n:Nat):0<(dec n).length:=by
 by_cases h:n<10
 ·rw[gN h];simp
 ·rw[jM h,cJ];simp
theorem fy:∀{k n:Nat},0<k->n<10^k->(dec n).length<=k
 | k+1,n,_,h=>by
   by_cases h10:n<10
   ·rw[gN h10];simp
   ·rw[jM h10,cJ];have h1:n/10<10^k:=by rw[bh]at h;omega
    have hk:0<k:=by rcases ia k with rfl | h2;· simp at h;omega
                    ·exact h2
    have:=fy hk h1;simp;omega
theorem BE:∀{k n:Nat},0<k->n<10^k->gm k n=List.replicate (k-(dec n).length) 48++dec n
 | k+1,n,_,h=>by
   by_cases h10:n<10
   ·rw[gN h10,gm,fA h10,Mn,ew h10];rfl
   ·have h1:n/10<10^k:=by rw[bh]at h;omega
    have hk:0<k:=by rcases ia k with rfl | h2;· simp at h;omega
                    ·exact h2
    rw[jM h10,gm,BE hk h1,dq,cJ]
    congr 2;simp
theorem cl5(c:Nat):Lib.repeatL [48] c=List.replicate c 48:=by
 induction c with
 | zero=>rfl
 | succ c ih=>rw[Lib.repeatL,ih,jU];rfl
theorem aq2{d e:Nat}(hd:d<10)(he:e<10)(h:chr d=chr e):d=e:=by
 have:=congrArg UInt8.toNat h;simp only[chr,UInt8.toNat_ofNat']at this;omega
theorem xK{d:Nat}(hd:d<10):(chr d).toNat=48+d:=by
 simp only[chr,UInt8.toNat_ofNat'];omega
theorem Lr:∀(n:Nat),∀c∈dec n,48<=c.toNat/\c.toNat<58:=by
 intro n
 induction n using Nat.strongRecOn with
 | ind n ih=>
   intro c hc;by_cases h:n<10
   ·rw[gN h]at hc;simp only[ed]at hc;subst hc;rw[xK h];omega
   ·rw[jM h]at hc;rcases fI.1 hc with hc | hc
    ·exact ih _ (by omega) c hc
    ·simp only[ed]at hc;subst hc;rw[xK (by omega)];omega
theorem zO:∀{m n:Nat},dec m=dec n->m=n:=by
 intro m
 induction m using Nat.strongRecOn with
 | ind m ih=>
   intro n h;by_cases hm:m<10
   ·by_cases hn:n<10
    ·rw[gN hm,gN hn]at h;simp only[Al,eI]at h;exact aq2 hm hn h
    ·rw[gN hm,jM hn]at h;have:=congrArg List.length h;have h2:=Ab (n/10);simp only[cJ,an,bo]at this;omega
   ·by_cases hn:n<10
    ·rw[jM hm,gN hn]at h;have:=congrArg List.length h;have h2:=Ab (m/10);simp only[cJ,an,bo]at this;omega
    ·rw[jM hm,jM hn]at h;obtain⟨h1,h2⟩:=List.append_inj' h rfl;simp only[Al,eI]at h2;have:=ih (m/10) (by omega) h1;have:=aq2 (dU _ (by omega)) (dU _ (by omega)) h2;omega
theorem ax5:∀(n:Nat),n≠0->∀c,(dec n).head? = some c->c≠48:=by
 intro n
 induction n using Nat.strongRecOn with
 | ind n ih=>
   intro h0 c hc;by_cases h:n<10
   ·rw[gN h]at hc;simp only[NX,aW]at hc;subst hc;intro e;have:=congrArg UInt8.toNat e;rw[xK h]at this;simp at this;omega
   ·rw[jM h]at hc;have h2:=Ab (n/10);rw[List.head?_append]at hc;cases hd:(dec (n/10)).head? with
    | none=>rw[List.head?_eq_none_iff]at hd;rw[hd]at h2;simp at h2
    | some d=>
      rw[hd]at hc;simp only[Option.some_or,aW]at hc;subst hc;exact ih (n/10) (by omega) (by omega) d hd
theorem YQ:dec 1=[49]:=by rw[gN (by omega)];rfl
theorem UK:dec 0=[48]:=by rw[gN (by omega)];rfl
def oi(z:Int):List UInt8:=(if z<0 then[45]else[])++dec z.natAbs
def lg(q:Rat):List UInt8:=oi q.num++if q.den=1 then[]else 47::dec q.den
theorem YH{z:Int}:∀c∈oi z,c≠47:=by
 intro c hc;unfold oi at hc;rcases fI.1 hc with hc | hc
 ·split at hc
  ·simp only[ed]at hc;subst hc;decide
  ·cases hc
 ·intro e;subst e;have:=(Lr _ _ hc).1;simp at this
theorem au3{y z:Int}(h:oi y=oi z):y=z:=by
 have hh:∀n:Nat,(dec n).head? ≠ some 45:=fun n e=>by
  have:=(Lr n 45 (List.mem_of_head? e)).1;simp at this
 unfold oi at h;split at h<;>split at h
 ·have:=zO (Zo h);omega
 ·rename_i h1 h2;rw[List.nil_append]at h;exact(hh _ (by rw[<-h];rfl)).elim
 ·rename_i h1 h2;rw[List.nil_append]at h;exact(hh _ (by rw[h];rfl)).elim
 ·have:=zO (Zo h);omega
theorem cb9{a b a' b':List UInt8}(ha:∀c∈a,c≠47)(ha':∀c∈a',c≠47)(hb:b=[]\/b.head? = some 47)(hb':b'=[]\/b'.head? = some 47)(h:a++b=a'++b'):a=a'/\b=b':=by
 induction a generalizing a' with
 | nil=>
   cases a' with
   | nil=>exact⟨rfl,h⟩
   | cons x a'=>
     rw[List.nil_append,List.cons_append]at h;subst h;rcases hb with hb | hb
     ·cases hb
     ·simp only[NX,aW]at hb;exact(ha' x dV hb).elim
 | cons y a ih=>
   cases a' with
   | nil=>
     rw[List.nil_append,List.cons_append]at h;subst h;rcases hb' with hb | hb
     ·cases hb
     ·simp only[NX,aW]at hb;exact(ha y dV hb).elim
   | cons x a'=>
     simp only[List.cons_append,Al]at h;obtain⟨rfl,h⟩:=h;obtain⟨rfl,h2⟩:=ih (fun c hc=>ha c (dc _ hc)) (fun c hc=>ha' c (dc _ hc)) h;exact⟨rfl,h2⟩
theorem aL8{p q:Rat}(h:lg p=lg q):p=q:=by
 unfold lg at h
 have hh:∀r:Rat,(if r.den=1 then[]else 47::dec r.den)=[]\/(if r.den=1 then[]else 47::dec r.den:List UInt8).head? = some 47:=fun r=>by
  split
  ·exact .inl rfl
  ·exact .inr rfl
 obtain⟨h1,h2⟩:=cb9 (fun c=>YH c) (fun c=>YH c) (hh p) (hh q) h;refine Rat.ext (au3 h1) ?_;split at h2<;>split at h2
 ·omega
 ·cases h2
 ·cases h2
 ·simp only[Al,yz]at h2;exact zO h2
theorem aS6{p q:Rat}:lg p=lg q↔p=q:=⟨aL8,fun h=>by rw[h]⟩
abbrev sT(l:List UInt8):aC:=.str ⟨l.toArray⟩
abbrev bS(l:List UInt8):aN:=.one (sT l)
section
variable{P:Program}{T U ty:TypeId}{x y z:Operand}
theorem kE{a b:List UInt8}(h:a.length+b.length<=9223372036854775807):ah P (.binOp .add T x y U) ty [bS a,bS b] (bS (a++b)):=by
 have e:(⟨(a++b).toArray⟩:ByteArray)=⟨a.toArray⟩++⟨b.toArray⟩:=by
  apply Mz;rw[ae7];simp
 show ah P _ ty _ (.one (.str ⟨(a++b).toArray⟩));rw[e];exact ao5 (by show((a.toArray.size+b.toArray.size:Nat):Int)<=_;simp only[cw];omega)
theorem br7{s:List UInt8}{k:IntKind}{n:Int}{c:UInt8}(hu:P.underlying T=some .string)(hc:s[n.toNat]?=some c)(h0:0<=n:=by omega):ah P (.index T x y) ty [bS s,.one (.int k n)] (.one (.int .u8 c.toNat)):=by
 refine af8 hu h0 ?_;obtain⟨hlt,he⟩:=dM.1 hc;have h1:n.toNat<(ByteArray.mk s.toArray).size:=by show _<s.toArray.size;simpa using hlt
 rw[getElem?_pos (ByteArray.mk s.toArray) n.toNat h1,<-he];rfl
theorem vv(s:List UInt8)(i j:Nat):(ByteArray.mk s.toArray).extract i j=⟨((s.take j).drop i).toArray⟩:=by
 apply Mz;rw[ByteArray.data_extract];simp[ad6,nm]
theorem aT2{s:List UInt8}{k:IntKind}{n:Int}(hu:P.underlying T=some .string)(hn:n.toNat<=s.length)(h0:0<=n:=by omega):ah P (.slice T x (some y) none none) ty [bS s,.one (.int k n)] (bS (s.drop n.toNat)):=by
 have hs:(ByteArray.mk s.toArray).size=s.length:=by show s.toArray.size=_;simp
 have:=aQ5 (P:=P) (x:=x) (y:=y) (ty:=ty) (s:=⟨s.toArray⟩) (k:=k) hu h0 (by rw[hs];omega);rw[vv,hs,gw]at this;exact this
theorem be3{s:List UInt8}{k k':IntKind}{n m:Int}(hu:P.underlying T=some .string)(hm:m.toNat<=s.length)(h0:0<=n:=by omega)(hn:n<=m:=by omega):ah P (.slice T x (some y) (some z) none) ty [bS s,.one (.int k n),.one (.int k' m)] (bS ((s.take m.toNat).drop n.toNat)):=by
 have hs:(ByteArray.mk s.toArray).size=s.length:=by show s.toArray.size=_;simp
 have:=as0 (P:=P) (x:=x) (y:=y) (z:=z) (ty:=ty) (s:=⟨s.toArray⟩) (k:=k) (k':=k') hu h0 hn (by rw[hs];omega);rw[vv]at this;exact this
theorem ar4{a b:List UInt8}:ah P (.binOp .eql T x y U) ty [bS a,bS b] (.one (.bool (decide (a=b)))):=by
 have:decide (a=b)=decide ((ByteArray.mk a.toArray).data=(ByteArray.mk b.toArray).data):=by
  rw[kF];exact⟨fun h=>by rw[h],fun h=>by simpa using congrArg Array.toList h⟩
 rw[this];exact xd
end
theorem TD{d:Nat}(h:d<10):(([48,49,50,51,52,53,54,55,56,57]:List UInt8).take (d+1)).drop d=[chr d]:=by
 match d,h with
 | 0,_=>rfl
 | 1,_=>rfl
 | 2,_=>rfl
 | 3,_=>rfl
 | 4,_=>rfl
 | 5,_=>rfl
 | 6,_=>rfl
 | 7,_=>rfl
 | 8,_=>rfl
 | 9,_=>rfl
 | d+10,h=>omega
theorem aD5{k H n:Nat}(h:n<2^H)(h0:n/10^k≠0):k<H:=by
 have h1:10^k<=n:=by
  rcases fY n (10^k)with h2 | h2
  ·rw[fA h2]at h0;omega
  ·exact h2
 have h2:2^k<=10^k:=qO (by omega) k;exact(Nat.pow_lt_pow_iff_right (a:=2) (by omega)).1 (by omega)
theorem ag5(k n:Nat):gm 4 (n/10^(4*k)%10000)++gm (4*k) n=gm (4*(k+1)) n:=by
 have:=BJ 4 (n/10^(4*k));rw[show(10:Nat)^4=10000 by decide]at this;rw[this,<-Bb,show 4+4*k=4*(k+1) by omega]
theorem SI(k n:Nat):n/10^(4*k)/10000=n/10^(4*(k+1)):=by
 rw[lq,show 4*(k+1)=4*k+4 by omega,eP]
theorem XQ(i r:Nat):[chr (r/10^i%10)]++gm i r=gm (i+1) r:=by
 rw[show i+1=1+i by omega,Bb];rfl
theorem XZ(r i:Nat):r/10^i/10=r/10^(i+1):=by rw[lq,bh]
def bI3:Tr:=qS .rem 3 31 10 11 0 3 (ao 15 1 3 32 (.need (.prim [(.one (.c (.k (.string ⟨#[48,49,50,51,52,53,54,55,56,57]⟩)))),(W 14 0),(W 16 0)] none) (.slice 9 (.const (.string ⟨#[48,49,50,51,52,53,54,55,56,57]⟩)) (some (tT 30)) (some (tT 33)) none) 9 false (fF 17 10 9 34 35 (qS .quo 3 37 10 11 0 3 (ao 12 1 3 27 (.back 1 [lV 18 0,lV 19 0,lV 20 0]))))))
def bQ7:Tr:=.need (.lit 1 [[(.k (.int .i64 10000))]]) (.buildSlice 47 1 #[(0,(.const (I3 10000)))]) 47 false (fO 219 [(W 3 0),(.one (.c (.sr 1 6)))] [none,none] [18,19] [47,47] 247 false (mz 225 8 23 47 3 (.loop 1 [lV 2 0,lV 9 0,lK 0] (iC 12 0 4 3 25 (aR 13 0 (qS .rem 3 29 10 11 0 3 bI3) (iY 0 10 7))))))
def bD5:Tr:=BR 2 (.need (.prim [(W 6 0),(WK 0)] none) (.index 9 (tT 40) (.const (I3 0))) 5 false (.need (.prim [(W 7 0),(.one (.c (.k (.int .u8 48))))] none) (.binOp .eql 5 (tT 41) (.const (.int .u8 48)) 5) 4 false (aR 8 0 (aI0 6 9 43 aD8) (iC 0 0 0 3 46 (aR 9 0 (aD4 6 48 ax0) (cH 6))))))
def cc3:Tr:=eB 0 0 0 3 10 (aR 1 0 (.ret [(.one (.c (.k (.string ⟨#[48]⟩))))]) (.loop 0 [(.w (.one (.c (.k (.string ⟨#[]⟩))))),lV 0 1] (al 3 0 14 47 (qS .gtr 3 15 0 4 0 4 (aR 5 0 bQ7 bD5)))))
theorem aq0:aV prog f186 ck [.v (some 2)]=cc3:=by kernel_rfl
def bi9:Tr:=cH 4
def au9:Tr:=cH 8
def ch1:Tr:=.need (.prim [(W 2 0),(.one (.c (.k (.string ⟨#[49]⟩))))] none) (.binOp .eql 9 (tT 5) (.const (.string ⟨#[49]⟩)) 9) 4 false (aR 3 0 (LO 186 0 8 49 9 bi9) (fO 186 [(G2 0)] [none] [11] [49] 9 false (.need (.prim [(W 4 0),(.one (.c (.k (.string ⟨#[47]⟩))))] none) (.binOp .add 9 (tT 12) (.const (.string ⟨#[47]⟩)) 9) 9 false (pT 120 0 2 14 49 (LO 186 6 15 49 9 (fF 5 7 9 13 16 au9))))))
def bX1:Tr:=pT 120 0 2 3 49 (LO 186 1 4 49 9 ch1)
theorem aP5:aV prog f98 ck [.v (some 4)]=bX1:=by kernel_rfl
def bZ5:Tr:=Cc 172 0 2 14 4 (kL 3 0 15 (aR 4 0 (rD 163 0 1 18 42 (fO 171 [(G1 5)] [none] [19] [42] 9 false (aM6 6 (fF 2 7 9 17 21 au9)))) (cH 2)))
def bx7:Tr:=kL 2 0 15 (aR 3 0 (rD 163 0 1 18 42 (fO 171 [(G1 4)] [none] [19] [42] 9 false (aM6 5 (fF 1 6 9 17 21 (cH 7))))) (cH 1))
def bU0:Tr:=Cc 171 0 0 6 9 (aR 0 1 (aD4 1 11 bZ5) (Cc 172 0 2 14 4 bx7))
theorem ZP:aV prog f74 ck [.v (some 3)]=bU0:=by kernel_rfl
def cd8:Tr:=Lq 74 0 5 9 (fO 98 [(G4 1)] [none] [7] [51] 9 true (oe .eql 9 6 8 2 0 3 0 4 bi9))
theorem bb4:aV prog f29 ck [.v (some 3),.v (some 4)]=cd8:=by kernel_rfl
theorem wB(z:Int)(H:Nat)(hz:z.natAbs<2^H)(hH:H<=34359738360):aU prog 186 [(zT z:aN)] (.ret [bS (oi z)]):=by
 refine dL func186 aq0 ?_;have hb:=gd hz;have hb1:(bd 10000).length=1:=by rw[Te];rfl
 obtain⟨n,hn⟩:∃n,z.natAbs=n:=⟨_,rfl⟩
 rw[hn]at hz hb;rw[show zT z=.agg [.int .i64 z.sign,bT n] by rw[<-hn]];apply vn bj;refine vs _ rfl ?_ ?_<;>intro h1
 ·have hz0:z=0:=Ae.1 h1;subst hz0;rw[show oi 0=[48] by rw[oi,aG (by omega)];exact UK];exact aL
 have hn0:n≠0:=fun e=>h1 (by rw[Ae];omega);refine bE {k:Nat // n/10^(4*(k-1))≠0} (fun g=>[bS (gm (4*g.1) n),.one (bT (n/10^(4*g.1)))]) (fun g=>n/10^(4*g.1)) ⟨0,by simpa using hn0⟩ (show aZ _ _ by rw[eu,pW,nw];exact aZ.rfl) (fun _=>rfl) ?_;rintro⟨k,hk⟩;dsimp only[aE,aF]at hk|-;have hk4:4*(k-1)<H:=aD5 hz hk;generalize hm:n/10^(4*k)=m;have hmn:m<=n:=by rw[<-hm];exact pZ _ _
 have hbm:=fj hmn;apply vn (aP fT (aI _));apply vn fB;refine vs _ rfl ?_ ?_<;>intro h6
 ·have hm0:m≠0:=fun e=>by subst e;rw[Au]at h6;simp at h6
  apply eL (us:=[[.int .i64 10000]]);dsimp only[aE,aF];have hover:=kN m 10000;rw[show bT 10000=.slice 1 [[.int .i64 10000]] by rw[bT,Te];rfl]at hover;apply aA hover
  apply aA (BD (m%10000) (by
   have:=jq (n:=m%10000) (k:=1) (by omega);omega)) rfl
  dsimp only[aE,aF];have hr:m%10000<10000:=dU _ (by omega);generalize hr':m%10000=r at hr|-;refine bE {i:Nat // i<=4} (fun g=>[bS (gm g.1 r++gm (4*k) n),.one (.int .i64 ((r/10^g.1:Nat):Int)),.one (.int .i64 g.1)]) (fun g=>4-g.1) ⟨0,by omega⟩ (show aZ _ _ by rw[pW,nw];exact aZ.rfl) (fun _=>rfl) ?_;rintro⟨i,hi⟩;dsimp only[aE,aF]at hi|-;apply vn aj;refine vs _ rfl ?_ ?_<;>intro h12
  ·have hri:r/10^i<=r:=pZ _ _;generalize ht:r/10^i=t at hri|-;have ht10:t%10<10:=dU _ (by omega);apply vn mX;apply vn mX;apply vn (aB (by omega) (by omega));dsimp only[aE,aF];apply vn (be3 un9 (by show _<=10;omega)) rfl;dsimp only[aE,aF];rw[show((t:Int)%10+1).toNat=t%10+1 by omega,show((t:Int)%10).toNat=t%10 by omega,TD ht10];apply vn (kE (by simp only[cJ,rL,an,bo];omega)) rfl;apply vn xL;apply vn (aB (by omega) (by omega));dsimp only[aE,aF]
   exact ab rfl ⟨⟨i+1,by omega⟩,aZ.of_eq (show[bS ([chr (t%10)]++(gm i r++gm (4*k) n)),(.one (.int .i64 ((t:Int)/10)):aN),.one (.int .i64 ((i:Int)+1))]=_ by
    dsimp only;rw[<-dq,<-ht,XQ,<-XZ];rfl),by show 4-(i+1)<4-i;omega⟩
  refine ab rfl ⟨⟨k+1,by rw[jS,hm];exact hm0⟩,?_,?_⟩
  ·dsimp only;rw[show i=4 by omega,<-hr',<-hm,ag5,SI];exact aZ.rfl
  ·show n/10^(4*(k+1))<m;rw[<-SI,hm];exact qY (by omega) (by omega)
 have hm0:m=0:=by
  have:bd m=[]:=eV (by omega);exact CU.1 this
 have hlt:n<10^(4*k):=by
  rcases fY n (10^(4*k))with h | h
  ·exact h
  ·have:=mQ h (ej (by omega));omega
 have hk0:0<4*k:=by
  rcases ia (4*k)with h | h
  ·rw[h]at hlt;simp at hlt;omega
  ·exact h
 rw[BE hk0 hlt];have hdl:=fy hk0 hlt;have hdp:=Ab n;refine bE {c:Nat // c<=4*k} (fun g=>[bS (List.replicate g.1 48++dec n)]) (fun g=>g.1) ⟨4*k-(dec n).length,by omega⟩ aZ.rfl (fun _=>rfl) ?_;rintro⟨c,hc⟩;dsimp only[aE,aF]at hc|-;obtain⟨x,hx⟩:∃x,(List.replicate c (48:UInt8)++dec n)[(0:Int).toNat]?=some x:=⟨_,bQ (by simp only[cJ];show 0<_;omega)⟩
 apply vn (br7 un9 hx);apply vn bj;refine vs _ rfl ?_ ?_<;>intro h25
 ·obtain⟨c',rfl⟩:∃c',c=c'+1:=by
   cases c with
   | succ c=>exact⟨c,rfl⟩
   | zero=>
     rw[YX,List.nil_append]at hx;have h1:=ax5 n hn0 x (by rw[Zw];exact hx);exact(h1 (UInt8.toNat_inj.1 (by show x.toNat=48;omega))).elim
  apply vn (aT2 un9 (by simp only[cJ,eX];omega)) rfl;dsimp only[aE,aF];exact ab rfl ⟨⟨c',by omega⟩,aZ.rfl,by show c'<c'+1;omega⟩
 obtain rfl:c=0:=by
  cases c with
  | zero=>rfl
  | succ c=>
    rw[jU]at hx;have:x=48:=by simpa using hx.symm
    subst this;exact(h25 rfl).elim
 rw[YX,List.nil_append];apply vn aj;refine vs _ rfl ?_ ?_<;>intro h29
 ·apply vn (kE (a:=[45]) (by simp only[an,bo];omega)) rfl;dsimp only[aE,aF];have hneg:z<0:=by rcases cp z with⟨h,e⟩ | ⟨h,e⟩ | ⟨h,e⟩<;>omega
  rw[show oi z=[45]++dec n by rw[oi,aK hneg,hn]];exact aL
 have hneg:¬z<0:=by rcases cp z with⟨h,e⟩ | ⟨h,e⟩ | ⟨h,e⟩<;>omega
 rw[show oi z=dec n by rw[oi,aG hneg,hn];rfl];exact aL
theorem Dx(n:Nat):oi (n:Int)=dec n:=by rw[oi,aG (by omega),cU];rfl
theorem lZ{n H:Nat}(h:n<2^H):(dec n).length<=H+1:=
 fy (Nat.succ_pos H) (cj h (aq (qO (by omega) H) (hU (by omega) (Nat.le_succ H))))
theorem TG{z:Int}{H:Nat}(h:z.natAbs<2^H):(oi z).length<=H+2:=by
 have:=lZ h;unfold oi;rw[cJ];split<;>simp <;> omega
theorem ba5(a:RQ)(H:Nat)(hf:Fit H a.q)(hH:H<=34359738360:=by omega):aU prog 98 [(qw a:aN)] (.ret [bS (lg a.q)]):=by
 refine dL func98 aP5 ?_;have hd:=TG (z:=(a.q.den:Int)) hf.2;have hn:=TG hf.1;rw[show lg a.q=oi a.q.num++if a.q.den=1 then[]else[47]++dec a.q.den from rfl];apply aA (lD a);apply aA (wB (a.q.den:Int) H hf.2 hH);apply vn (ar4 (b:=[49]));refine vs _ rfl ?_ ?_<;>intro h3
 ·apply aA (wB a.q.num H hf.1 hH);dsimp only[aE,aF];have h1:a.q.den=1:=zO (by rw[<-Dx,h3,YQ]);rw[aK h1,bw];exact aL
 apply aA (wB a.q.num H hf.1 hH);apply vn (kE (b:=[47]) (by simp only[an,bo];omega)) rfl;apply aA (lD a);apply aA (wB (a.q.den:Int) H hf.2 hH);dsimp only[aE,aF];apply vn (kE (by simp only[cJ,an,bo];omega)) rfl;dsimp only[aE,aF];have h1:a.q.den≠1:=fun h=>h3 (by rw[Dx,h,YQ]);rw[aG h1,show oi a.q.num++47::dec a.q.den=(oi a.q.num++[47])++oi (a.q.den:Int) by rw[Dx,dq];rfl];exact aL
end Go.Sy
namespace Go.Proofs
open Go.Shelf
def Tryz.xw:Go.Shelf.Ren:=⟨fun | 169=>170 | n=>n,fun | 70=>206 | 9=>9 | 0=>0 | 72=>209 | 37=>207 | 127=>241 | 3=>3 | 5=>5 | n=>n,fun | n=>n⟩
theorem Tryz.aT3:Go.Proofs.Lays.n169 Tryz.prog Tryz.xw:={
 mixed:=by kernel_rfl
 f169:=Tryz.func170.trans (congrArg some (by kernel_rfl))
 t0:=Tryz.underlying0
 a0:=Tryz.isAgg0
 z0:=Tryz.sizeOf0
 v0:=Tryz.zeroValue0
 t3:=Tryz.underlying3
 a3:=Tryz.isAgg3
 z3:=Tryz.sizeOf3
 v3:=Tryz.zeroValue3
 t9:=Tryz.underlying9
 a9:=Tryz.isAgg9
 z9:=Tryz.sizeOf9
 v9:=Tryz.zeroValue9
 t37:=Tryz.underlying207
 a37:=Tryz.isAgg207
 z37:=Tryz.sizeOf207
 v37:=Tryz.zeroValue207
 t70:=Tryz.underlying206
 a70:=Tryz.isAgg206
 z70:=Tryz.sizeOf206
 v70:=Tryz.zeroValue206
 t72:=Tryz.underlying209
 a72:=Tryz.isAgg209
 z72:=Tryz.sizeOf209
 v72:=Tryz.zeroValue209
 t127:=Tryz.underlying241
 a127:=Tryz.isAgg241
 z127:=Tryz.sizeOf241
 v127:=Tryz.zeroValue241 }
theorem Tryz.vm:Builder.Extra Tryz.prog Tryz.xw:={
 sizeBuilder:=by kernel_rfl
 liesBuilder:=by kernel_rfl
 t5:=Tryz.underlying5
 a5:=Tryz.isAgg5
 z5:=Tryz.sizeOf5
 v5:=Tryz.zeroValue5
 infoByte:=by kernel_rfl
 cellsByte:=by kernel_rfl
 sizeByte:=by kernel_rfl
 neB5:=by decide }
open Go.RowKit in
theorem Tryz.Builder_String_any_k(B b:Nat)(l:List UInt8)(w:World)(h:Lib.IsBuilderF 209 5 B b (Lib.byteCells l) w)(hBw:B<=w.heap.size) :
  Calls Tryz.prog 170 #[.pointer (some ⟨b,0,none⟩)] w fun e w'=>e=.returned (.string ⟨l.toArray⟩)/\(Lib.IsBuilderF 209 5 B b (Lib.byteCells l) w'/\Below B w w'/\Lib.OthersKept 5 (some b) w w'):=Any.Builder_String_any_k Tryz.aT3 Tryz.vm B b l w h hBw
def Tryz.Qn:Go.Shelf.Ren:=⟨fun | 171=>169 | 243=>214 | 246=>236 | 283=>252 | 284=>253 | 285=>254 | 286=>255 | 129=>262 | 317=>261 | 318=>263 | 319=>264 | 320=>265 | 337=>267 | 338=>268 | n=>n,fun | 3=>3 | 9=>9 | 2=>2 | 4=>4 | 171=>280 | 0=>0 | 53=>236 | 37=>207 | 5=>5 | 173=>283 | 212=>292 | 51=>237 | 20=>20 | 213=>293 | 46=>251 | 232=>297 | 233=>298 | n=>n,fun | 17=>0 | 18=>2 | 19=>3 | n=>n⟩
theorem Tryz.ap8:Go.Proofs.LaysM.n171 Tryz.prog Tryz.Qn:={
 mixed:=by kernel_rfl
 f129:=Tryz.func262.trans (congrArg some (by kernel_rfl))
 f171:=Tryz.func169.trans (congrArg some (by kernel_rfl))
 f243:=Tryz.func214.trans (congrArg some (by kernel_rfl))
 f246:=Tryz.func236.trans (congrArg some (by kernel_rfl))
 f283:=Tryz.func252.trans (congrArg some (by kernel_rfl))
 f284:=Tryz.func253.trans (congrArg some (by kernel_rfl))
 f285:=Tryz.func254.trans (congrArg some (by kernel_rfl))
 f286:=Tryz.func255.trans (congrArg some (by kernel_rfl))
 f317:=Tryz.func261.trans (congrArg some (by kernel_rfl))
 f318:=Tryz.func263.trans (congrArg some (by kernel_rfl))
 f319:=Tryz.func264.trans (congrArg some (by kernel_rfl))
 f320:=Tryz.func265.trans (congrArg some (by kernel_rfl))
 f337:=Tryz.func267.trans (congrArg some (by kernel_rfl))
 f338:=Tryz.func268.trans (congrArg some (by kernel_rfl))
 t0:=Tryz.underlying0
 a0:=Tryz.isAgg0
 z0:=Tryz.sizeOf0
 v0:=Tryz.zeroValue0
 t2:=Tryz.underlying2
 a2:=Tryz.isAgg2
 z2:=Tryz.sizeOf2
 v2:=Tryz.zeroValue2
 t3:=Tryz.underlying3
 a3:=Tryz.isAgg3
 z3:=Tryz.sizeOf3
 v3:=Tryz.zeroValue3
 t4:=Tryz.underlying4
 a4:=Tryz.isAgg4
 z4:=Tryz.sizeOf4
 v4:=Tryz.zeroValue4
 t5:=Tryz.underlying5
 a5:=Tryz.isAgg5
 z5:=Tryz.sizeOf5
 v5:=Tryz.zeroValue5
 t9:=Tryz.underlying9
 a9:=Tryz.isAgg9
 z9:=Tryz.sizeOf9
 v9:=Tryz.zeroValue9
 t20:=Tryz.underlying20
 a20:=Tryz.isAgg20
 z20:=Tryz.sizeOf20
 v20:=Tryz.zeroValue20
 t37:=Tryz.underlying207
 a37:=Tryz.isAgg207
 z37:=Tryz.sizeOf207
 v37:=Tryz.zeroValue207
 t46:=Tryz.underlying251
 a46:=Tryz.isAgg251
 z46:=Tryz.sizeOf251
 v46:=Tryz.zeroValue251
 t51:=Tryz.underlying237
 a51:=Tryz.isAgg237
 z51:=Tryz.sizeOf237
 v51:=Tryz.zeroValue237
 t53:=Tryz.underlying236
 a53:=Tryz.isAgg236
 z53:=Tryz.sizeOf236
 v53:=Tryz.zeroValue236
 t171:=Tryz.underlying280
 a171:=Tryz.isAgg280
 z171:=Tryz.sizeOf280
 v171:=Tryz.zeroValue280
 t173:=Tryz.underlying283
 a173:=Tryz.isAgg283
 z173:=Tryz.sizeOf283
 v173:=Tryz.zeroValue283
 t212:=Tryz.underlying292
 a212:=Tryz.isAgg292
 z212:=Tryz.sizeOf292
 v212:=Tryz.zeroValue292
 t213:=Tryz.underlying293
 a213:=Tryz.isAgg293
 z213:=Tryz.sizeOf293
 t232:=Tryz.underlying297
 a232:=Tryz.isAgg297
 z232:=Tryz.sizeOf297
 v232:=Tryz.zeroValue297
 t233:=Tryz.underlying298
 a233:=Tryz.isAgg298
 z233:=Tryz.sizeOf298
 v233:=Tryz.zeroValue298
 g17:=by kernel_rfl
 g18:=by kernel_rfl
 g19:=by kernel_rfl
 i0:=by kernel_rfl
 i2:=by kernel_rfl
 i3:=by kernel_rfl
 i4:=by kernel_rfl
 i5:=by kernel_rfl
 i9:=by kernel_rfl
 i20:=by kernel_rfl
 i37:=by kernel_rfl
 i46:=by kernel_rfl
 i51:=by kernel_rfl
 i53:=by kernel_rfl
 i171:=by kernel_rfl
 i173:=by kernel_rfl
 i212:=by kernel_rfl
 i232:=by kernel_rfl
 i233:=by kernel_rfl
 m17:=by kernel_rfl
 m18:=by kernel_rfl
 m19:=by kernel_rfl }
open Go.RowKit Go.Sort Go.Lib in
theorem Tryz.strconv_Itoa(n:Int)(h0:-9223372036854775808<=n)(h1:n<=9223372036854775807)(w:World)(htab:Lib.TabIs Tryz.prog w "internal/strconv.uint64pow10" .u64 Lib.pow10Tab) :
  Calls Tryz.prog 169 #[.int .i64 n] w fun e w'=>e=.returned (.string ⟨(Lib.itoa n).toArray⟩)/\∃k os,w'=grow (w.drewN k) os:=Any.strconv_Itoa Tryz.ap8 n h0 h1 w htab
def Tryz.yD:Go.Shelf.Ren:=⟨fun | 105=>216 | 212=>238 | 99=>239 | 165=>240 | 166=>167 | 170=>166 | 169=>170 | 263=>256 | 264=>257 | 206=>258 | 240=>213 | 241=>259 | 276=>235 | 277=>266 | n=>n,fun | 9=>9 | 3=>3 | 4=>4 | 20=>20 | 0=>0 | 46=>251 | 109=>267 | 5=>5 | 72=>209 | 76=>212 | 51=>237 | 146=>285 | 53=>236 | 148=>287 | 70=>206 | 37=>207 | 75=>211 | 127=>241 | 164=>263 | 80=>137 | n=>n,fun | n=>n⟩
theorem Tryz.Pf:Go.Proofs.Lays.n105 Tryz.prog Tryz.yD:={
 mixed:=by kernel_rfl
 f99:=Tryz.func239.trans (congrArg some (by kernel_rfl))
 f105:=Tryz.func216.trans (congrArg some (by kernel_rfl))
 f165:=Tryz.func240.trans (congrArg some (by kernel_rfl))
 f166:=Tryz.func167.trans (congrArg some (by kernel_rfl))
 f169:=Tryz.func170.trans (congrArg some (by kernel_rfl))
 f170:=Tryz.func166.trans (congrArg some (by kernel_rfl))
 f206:=Tryz.func258.trans (congrArg some (by kernel_rfl))
 f212:=Tryz.func238.trans (congrArg some (by kernel_rfl))
 f240:=Tryz.func213.trans (congrArg some (by kernel_rfl))
 f241:=Tryz.func259.trans (congrArg some (by kernel_rfl))
 f263:=Tryz.func256.trans (congrArg some (by kernel_rfl))
 f264:=Tryz.func257.trans (congrArg some (by kernel_rfl))
 f276:=Tryz.func235.trans (congrArg some (by kernel_rfl))
 f277:=Tryz.func266.trans (congrArg some (by kernel_rfl))
 t0:=Tryz.underlying0
 a0:=Tryz.isAgg0
 z0:=Tryz.sizeOf0
 v0:=Tryz.zeroValue0
 t3:=Tryz.underlying3
 a3:=Tryz.isAgg3
 z3:=Tryz.sizeOf3
 v3:=Tryz.zeroValue3
 t4:=Tryz.underlying4
 a4:=Tryz.isAgg4
 z4:=Tryz.sizeOf4
 v4:=Tryz.zeroValue4
 t5:=Tryz.underlying5
 a5:=Tryz.isAgg5
 z5:=Tryz.sizeOf5
 v5:=Tryz.zeroValue5
 t9:=Tryz.underlying9
 a9:=Tryz.isAgg9
 z9:=Tryz.sizeOf9
 v9:=Tryz.zeroValue9
 t20:=Tryz.underlying20
 a20:=Tryz.isAgg20
 z20:=Tryz.sizeOf20
 v20:=Tryz.zeroValue20
 t37:=Tryz.underlying207
 a37:=Tryz.isAgg207
 z37:=Tryz.sizeOf207
 v37:=Tryz.zeroValue207
 t46:=Tryz.underlying251
 a46:=Tryz.isAgg251
 z46:=Tryz.sizeOf251
 v46:=Tryz.zeroValue251
 t51:=Tryz.underlying237
 a51:=Tryz.isAgg237
 z51:=Tryz.sizeOf237
 v51:=Tryz.zeroValue237
 t53:=Tryz.underlying236
 a53:=Tryz.isAgg236
 z53:=Tryz.sizeOf236
 v53:=Tryz.zeroValue236
 t70:=Tryz.underlying206
 a70:=Tryz.isAgg206
 z70:=Tryz.sizeOf206
 v70:=Tryz.zeroValue206
 t72:=Tryz.underlying209
 a72:=Tryz.isAgg209
 z72:=Tryz.sizeOf209
 v72:=Tryz.zeroValue209
 t75:=Tryz.underlying211
 a75:=Tryz.isAgg211
 z75:=Tryz.sizeOf211
 v75:=Tryz.zeroValue211
 t76:=Tryz.underlying212
 a76:=Tryz.isAgg212
 z76:=Tryz.sizeOf212
 v76:=Tryz.zeroValue212
 t109:=Tryz.underlying267
 a109:=Tryz.isAgg267
 z109:=Tryz.sizeOf267
 v109:=Tryz.zeroValue267
 t127:=Tryz.underlying241
 a127:=Tryz.isAgg241
 z127:=Tryz.sizeOf241
 v127:=Tryz.zeroValue241
 t146:=Tryz.underlying285
 a146:=Tryz.isAgg285
 z146:=Tryz.sizeOf285
 v146:=Tryz.zeroValue285
 t148:=Tryz.underlying287
 a148:=Tryz.isAgg287
 z148:=Tryz.sizeOf287
 v148:=Tryz.zeroValue287
 t164:=Tryz.underlying263
 a164:=Tryz.isAgg263
 z164:=Tryz.sizeOf263
 v164:=Tryz.zeroValue263 }
theorem Tryz.oU:Builder.Extra Tryz.prog Tryz.yD:={
 sizeBuilder:=by kernel_rfl
 liesBuilder:=by kernel_rfl
 t5:=Tryz.underlying5
 a5:=Tryz.isAgg5
 z5:=Tryz.sizeOf5
 v5:=Tryz.zeroValue5
 infoByte:=by kernel_rfl
 cellsByte:=by kernel_rfl
 sizeByte:=by kernel_rfl
 neB5:=by decide }
open Go.RowKit Go.Lib in
theorem Tryz.strings_Repeat(s:ByteArray)(c:Nat)(w:World)(hc:c<=9223372036854775807)(hlen:s.size*c<=140737488355328) :
  Calls Tryz.prog 216 #[.string s,.int .i64 c] w fun e w'=>e=.returned (.string ⟨(Lib.repeatL s.data.toList c).toArray⟩)/\Below w.heap.size w w':=Any.strings_Repeat Tryz.Pf Tryz.oU s c w hc hlen
end Go.Proofs
namespace Go.Sy
open Go Go.Proofs Go.RowKit Go.Shelf Tryz Ord
attribute [local go_sem] Oper.semAt_some
abbrev D9:={d:Nat // d<1000000000}
instance:Inhabited D9:=⟨⟨0,by omega⟩⟩
abbrev al7(d:D9):Value:=.int .u32 (d.1:Int)
def tx(L:Nat)(pre:List (Nat×D9)):List UInt8:=pre.foldl (fun t x=>t++if x.1+1<L then gm 9 x.2.1 else dec x.2.1) []
theorem zg(L:Nat)(pre:List (Nat×D9))(x:Nat×D9):tx L (pre++[x])=tx L pre++if x.1+1<L then gm 9 x.2.1 else dec x.2.1:=by simp[tx]
theorem Sx(L:Nat)(x:Nat×D9):(if x.1+1<L then gm 9 x.2.1 else dec x.2.1).length<=9:=by
 split
 ·rw[rL];omega
 ·exact fy (by omega) (by rw[show(10:Nat)^9=1000000000 by decide];exact x.2.2)
theorem aH9(L:Nat)(pre:List (Nat×D9)):(tx L pre).length<=9*pre.length:=by
 have h:∀(l:List (Nat×D9))(t:List UInt8),(l.foldl (fun t x=>t++if x.1+1<L then gm 9 x.2.1 else dec x.2.1) t).length<=t.length+9*l.length:=by
  intro l
  induction l with
  | nil=>intro t;simp
  | cons x l ih=>
    intro t;have h1:=ih (t++if x.1+1<L then gm 9 x.2.1 else dec x.2.1);have h2:=Sx L x;rw[cJ]at h1;rw[List.foldl_cons,an];omega
 have:=h pre []
 simpa[tx]using this
theorem aH6(vs:List D9)(h0:∀d,vs.getLast? = some d->d.1≠0):∀k,0<k->k<=vs.length->0<lv ((vs.map Subtype.val).drop (vs.length-k))/\tx vs.length (bk vs k)=dec (lv ((vs.map Subtype.val).drop (vs.length-k)))
 | 0,h,_=>by omega
 | k+1,_,hk=>by
   have hlt:vs.length-(k+1)<vs.length:=by omega
   have hlt':vs.length-(k+1)<(vs.map Subtype.val).length:=by rw[aI];exact hlt
   have hget:vs[vs.length-1-k]?=some vs[vs.length-(k+1)]:=by rw[show vs.length-1-k=vs.length-(k+1) by omega];exact bQ hlt
   have e1:(vs.map Subtype.val).drop (vs.length-(k+1))=vs[vs.length-(k+1)].1::(vs.map Subtype.val).drop (vs.length-k):=by
    rw[jE hlt',List.getElem_map,show vs.length-(k+1)+1=vs.length-k by omega]
   rw[PW,zg,hget,gO,e1];show 0<val 1000000000 (_::_)/\_=dec (val 1000000000 (_::_));rw[val];rcases ia k with rfl | hk0
   ·have hd:vs[vs.length-(0+1)].1≠0:=h0 _ (by rw[ac6];exact hget);have e2:(vs.map Subtype.val).drop (vs.length-0)=[]:=by rw[List.drop_eq_nil_iff,aI];omega
    rw[e2];dsimp only;rw[aG (by omega)];simp only[val,eu,bq];exact⟨by omega,by simp[bk,tx]⟩
   ·obtain⟨h1,h2⟩:=aH6 vs h0 k hk0 (by omega);dsimp only;rw[aK (by omega),h2];have h3:(vs[vs.length-(k+1)]).1<10^9:=by rw[show(10:Nat)^9=1000000000 by decide];exact vs[vs.length-(k+1)].2
    have h4:=aF0 (m:=lv ((vs.map Subtype.val).drop (vs.length-k))) h1 h3;rw[show(10:Nat)^9=1000000000 by decide]at h4;have h5:0<lv ((vs.map Subtype.val).drop (vs.length-k)):=h1;exact⟨by show 0<_+1000000000*lv _;omega,h4.symm⟩
theorem xu{ds:List Nat}(h:Dg ds):∃vs:List D9,vs.map Subtype.val=ds:=by
 induction ds with
 | nil=>exact⟨[],rfl⟩
 | cons d ds ih=>
   obtain⟨vs,hv⟩:=ih fun x hx=>h x (dc _ hx);exact⟨⟨d,h d dV⟩::vs,by rw[en,hv]⟩
theorem Jn(w:World)(k:Nat)(os:Array Obj):Below w.heap.size w (Sort.grow (w.drewN k) os):=by
 refine⟨rfl,rfl,rfl,?_,fun j hj=>?_⟩
 ·show w.heap.size<=(w.heap++os).size;rw[Array.size_append];omega
 ·show(w.heap++os)[j]?=_;exact Nr hj
theorem Ai(n:Nat)(w:World)(M:Nat->Prop)(hM:Good M w)(hn:n<=9223372036854775807:=by omega) :
  Calls prog 169 #[.int .i64 (n:Int)] w fun e w'=>e=.returned (.string ⟨(dec n).toArray⟩)/\Below w.heap.size w w':=by
 obtain⟨_,T,fz,h⟩:=hM (0,DI) (by simp[aP8.tab])
 have htab:Lib.TabIs prog w "internal/strconv.uint64pow10" .u64 Lib.pow10Tab:=by
  unfold Lib.TabIs World.var?;rw[show prog.globalNamed "internal/strconv.uint64pow10" = some 0 by kernel_rfl];have h:w.heap[0]?=some (.cells DI T fz):=h;simp only[Option.bind_some,h];rfl
 refine(Tryz.strconv_Itoa (n:Int) (by omega) (by omega) w htab).mono ?_;rintro e w' ⟨rfl,k,os,rfl⟩;refine⟨?_,Jn w k os⟩;rw[Lib.itoa_nonneg]
theorem al8(c:Nat)(hc:c<=9)(w:World):Calls prog 216 #[.string ⟨#[48]⟩,.int .i64 (c:Int)] w fun e w'=>e=.returned (.string ⟨(List.replicate c (48:UInt8)).toArray⟩)/\Below w.heap.size w w':=by
 refine(Tryz.strings_Repeat ⟨#[48]⟩ c w (by omega) (by show 1*c<=_;omega)).mono ?_;rintro e w' ⟨rfl,h⟩;exact⟨by rw[<-cl5],h⟩
theorem uk(B b:Nat)(bs:List Value)(s:ByteArray)(w:World)(h:Lib.IsBuilderF 209 5 B b bs w)(hlen:bs.length+s.size<=140737488355328)(hBw:B<=w.heap.size) :
  Calls prog 167 #[.pointer (some ⟨b,0,none⟩),.string s] w fun e w'=>e=.returned (.tuple #[.int .i64 s.size,.nilIface])/\(Lib.IsBuilderF 209 5 B b (bs++Lib.strCells s) w'/\Below B w w'/\Lib.OthersKept 5 (some b) w w'):=
 (Any.Builder_WriteString_k { Tryz.Pf with } Tryz.oU B b bs s w h hlen hBw).mono fun e w' ⟨h1,h2,h3,h4⟩=>⟨h1,.inr h2,h3,h4⟩
theorem lY{T e B b:Nat}{bs:List Value}{A A':World}(h:Lib.IsBuilderF T e B b bs A)(k:∀(j:Nat)(o:Obj),A.heap[j]?=some o->o.isCells=true->A'.heap[j]?=some o):Lib.IsBuilderF T e B b bs A':=by
 have one:∀p,Lib.BuilderAtF T e B b p bs A->Lib.BuilderAtF T e B b p bs A':=by
  rintro p ⟨h1,v,h2,⟨h3,h4⟩,h5⟩;refine⟨h1,v,k _ _ h2 rfl,⟨h3,?_⟩,h5⟩;rcases h4 with h4 | ⟨g,cap,cur,fz,h6,h7,h8,h9⟩
  ·exact .inl h4
  ·exact .inr ⟨g,cap,cur,fz,h6,h7,k _ _ h8 rfl,h9⟩
 exact h.elim (fun x=>.inl (one _ x)) (fun x=>.inr (one _ x))
theorem eD{A B:World}{row:Option Nat}(hg:A.grownBy B row)(hr:∀r,row=some r->∃o:Obj,A.heap[r]?=some o/\o.isCells=false){b:Nat}{o:Obj}(ho:A.heap[b]?=some o)(hc:o.isCells=true):B.heap[b]?=some o:=by
 refine(hg.block b (cZ.1 ho).1 fun e=>?_).trans ho;obtain⟨o',ho',hc'⟩:=hr b e.symm;rw[ho]at ho';cases ho';rw[hc]at hc';cases hc'
theorem bD{W:World}{b T:Nat}{cs:Array Value}{fz:Nat×Nat}(h:W.heap[b]?=some (.cells cs T fz)){j:Nat}{v:Value}(hj:cs[j]?=some v):W.cell? ⟨b,j,none⟩=some v:=by
 simp only[World.cell?,h]
 simpa using hj
theorem fv{A A':World}(h:Below A.heap.size A A')(j:Nat)(o:Obj)(ho:A.heap[j]?=some o):A'.heap[j]?=some o:=(h.block j (cZ.1 ho).1).trans ho
theorem Zf(n:Nat)(a:Option Addr)(len cap:Nat)(w:World) :
  CallsIn Fence.wide n prog 172 #[.agg #[.slice a len cap]] w fun e w'=>e=.returned (.bool (decide ((len:Int)=0)))/\w'=w.alloc (.cells #[.slice a len cap] 42):=by
 refine iH func172 rfl trivial ?_ rfl;simp only[ntmps172,cw,an,bo,Nat.reduceAdd,Nat.reduceSub,dx,dk,du,di,List.nil_append,List.cons_append]
 gi_wp2
 go_ret
 exact⟨rfl,rfl⟩
theorem nine{d:Nat}(hd:d<1000000000):∃c:Nat,c<=9/\wrap64 (9-((dec d).length:Int))=(c:Int)/\gm 9 d=List.replicate c 48++dec d:=by
 have hd':d<10^9:=by rw[show(10:Nat)^9=1000000000 by decide];exact hd
 have h1:(dec d).length<=9:=fy (by omega) hd';refine⟨9-(dec d).length,by omega,?_,BE (by omega) hd'⟩;rw[show(9:Int)-((dec d).length:Int)=((9-(dec d).length:Nat):Int) by omega];have hk:9-(dec d).length<=9:=Nat.sub_le _ _;generalize 9-(dec d).length=k at hk|-;unfold wrap64;omega
theorem lens(t d:List UInt8)(c:Nat)(hd:d.length<=9)(hc:c<=9)(ht:t.length<=10000000000000:=by omega) :
  (Lib.byteCells t).length+(⟨Array.replicate c 48⟩:ByteArray).size<=140737488355328/\(Lib.byteCells t++Lib.strCells ⟨Array.replicate c 48⟩).length+(⟨d.toArray⟩:ByteArray).size<=140737488355328/\(Lib.byteCells t).length+(⟨d.toArray⟩:ByteArray).size<=140737488355328:=by
 have h1:(⟨Array.replicate c 48⟩:ByteArray).size=c:=Array.size_replicate;have h2:(⟨d.toArray⟩:ByteArray).size=d.length:=cw;rw[cJ,Lib.strCells_length,ue,h1,h2];omega
theorem xU{n0 L cap:Nat}{a:Option Addr}{W0 W W':World}{bs bs':List Value}(h2:Below (n0+2) W0 W)(h3:n0+4<=W.heap.size)(h4:W.heap[n0+3]?=some (.cells #[.slice a L cap] 40 (0,0)))
  (hb:Below (n0+2) W W') (ho:∀k o,W.heap[k]?=some o->some k≠some (n0+2)->(∀c fz,o≠.cells c 5 fz)->W'.heap[k]?=some o)
  (h1:Lib.IsBuilderF 209 5 (n0+2) (n0+2) bs W) (h1':Lib.IsBuilderF 209 5 (n0+2) (n0+2) bs' W') :
  KeepsOthers W W'/\KpB n0 (n0+3) W W'/\Lib.IsBuilderF 209 5 (n0+2) (n0+2) bs' W'/\Below (n0+2) W0 W'/\n0+4<=W'.heap.size/\W'.heap[n0+3]?=some (.cells #[.slice a L cap] 40 (0,0)):=by
 have h5:=ho _ _ h4 (by simp) (by intro c fz h;cases h)
 obtain⟨cs,T,fz,hbc⟩:∃cs T fz,W.heap[n0+2]?=some (.cells cs T fz):=by
  rcases h1 with⟨_,v,h,_⟩ | ⟨_,v,h,_⟩
  ·exact⟨_,_,_,h⟩
  ·exact⟨_,_,_,h⟩
 refine⟨⟨hb.size,fun k o hk hc=>ho k o hk ?_ (by rintro c fz rfl;cases hc)⟩,⟨hb.mono (by omega),fun v hv=>?_⟩,h1',h2.trans hb,aq h3 hb.size,h5⟩
 ·rintro e;cases e;rw[hbc]at hk;cases hk;cases hc
 ·simp only[World.cell?,h4,h5]at hv|-;exact hv
theorem ac9(n:Nat)(a:Option Addr)(len cap:Nat)(h:len≠0)(w:World) :
  CallsIn Fence.wide n prog 172 #[.agg #[.slice a len cap]] w fun e w'=>e=.returned (.bool false)/\w'=w.alloc (.cells #[.slice a len cap] 42):=by
 have:=Zf n a len cap w;rw[cE (by omega)]at this;exact this
theorem XP(a:Option Addr)(cap:Nat)(w:World) :
  CallsIn Fence.wide 1001 prog 171 #[.agg #[.slice a 0 cap]] w fun e W'=>e=.returned (.string ⟨#[48]⟩)/\Below w.heap.size w W':=by
 refine iH func171 rfl trivial ?_ rfl;simp only[ntmps171,cw,an,bo,Nat.reduceAdd,Nat.reduceSub,dx,dk,du,di,List.nil_append,List.cons_append]
 gi_wp2_with (refine⟨trivial,?_⟩;gi_at_call 172;refine(Zf _ _ 0 _ _).mono ?_;rintro e w' ⟨rfl,rfl⟩)
 go_ret
 exact⟨rfl,((cu _ w).alloc (aa _) _).alloc (by simp) _⟩
theorem aD9(a:Option Addr)(cap:Nat)(vs:List D9)(h0:vs.length≠0)(w:World)(M:Nat->Prop)(hM:Good M w)(hI:Sl1 al7 w.heap.size w (.slice a vs.length cap) vs)(hlen:vs.length<=1099511627776:=by omega) :
  CallsIn Fence.wide 1001 prog 171 #[.agg #[.slice a vs.length cap]] w fun e W'=>e=.returned (.string ⟨(tx vs.length (bk vs vs.length)).toArray⟩)/\Below w.heap.size w W':=by
 refine qE func171 rfl trivial ?_ rfl;simp only[ntmps171,cw,an,bo,Nat.reduceAdd,Nat.reduceSub,dx,dk,du,di,List.nil_append,List.cons_append];generalize hL:vs.length=L at hI hlen h0|-
 gi_wp2_with (refine⟨trivial,?_⟩;gi_at_call 172;refine(ac9 _ _ _ _ h0 _).mono ?_;rintro e w' ⟨rfl,rfl⟩)
 gi_wp2_with (refine⟨trivial,?_⟩;gi_at_call 215;refine(AE _ _ _ _ _).mono ?_;rintro e w' ⟨rfl,rfl⟩)
 obtain⟨n0,hn0⟩:∃n0,w.heap.size=n0:=⟨_,rfl⟩
 rw[hn0]at hI|-;obtain⟨W0,hW0⟩:∃W0,((((w.alloc (.cells #[.slice a L cap] 42)).alloc (.cells #[.slice a L cap] 42)).alloc (.cells #[.pointer none,.slice none 0 0] 209)).alloc (.cells #[.slice a L cap] 40))=W0:=⟨_,rfl⟩
 have hs0:W0.heap.size=n0+4:=by rw[<-hW0];simp[hn0]
 have hA0:W0.heap[n0]?=some (.cells #[.slice a L cap] 42 (0,0)):=by rw[<-hW0,dE _ _ _ (by simp;omega),dE _ _ _ (by simp;omega),dE _ _ _ (by simp;omega),<-hn0];exact dX w _
 have hT0:W0.heap[n0+2]?=some (.cells #[.pointer none,.slice none 0 0] 209 (0,0)):=by
  rw[<-hW0,dE _ _ _ (by simp;omega)];have:=dX ((w.alloc (.cells #[.slice a L cap] 42)).alloc (.cells #[.slice a L cap] 42)) (.cells #[.pointer none,.slice none 0 0] 209);rw[cy,cy,hn0]at this;exact this
 have hP0:W0.heap[n0+3]?=some (.cells #[.slice a L cap] 40 (0,0)):=by
  rw[<-hW0];have:=dX (((w.alloc (.cells #[.slice a L cap] 42)).alloc (.cells #[.slice a L cap] 42)).alloc (.cells #[.pointer none,.slice none 0 0] 209)) (.cells #[.slice a L cap] 40);rw[cy,cy,cy,hn0]at this;exact this
 have hB0:Below n0 w W0:=by
  rw[<-hW0];exact((((cu _ w).alloc (by omega) _).alloc (by simp;omega) _).alloc (by simp;omega) _).alloc (by simp;omega) _
 rw[hW0];have hG0:Good M W0:=hM.below hn0.symm hB0
 refine Pg (w0:=W0) rfl (by omega) (gf:=237) (lb:=#[.pointer (some ⟨n0+1+1+1,0,none⟩)]) rfl trivial (vy func237 (by kernel_rfl) rfl)
  (ru (enc:=al7) (n0+3) n0 (.slice a L cap) vs (by omega) W0 (by omega) (by omega) (bD hP0 rfl) (hI.below hB0)) Uj (UI (by omega) (by omega)) (cu _ _) (fun _=>rfl)
  (fun pre W=>Lib.IsBuilderF 209 5 (n0+2) (n0+2) (Lib.byteCells (tx L pre)) W/\Below (n0+2) W0 W/\n0+4<=W.heap.size/\W.heap[n0+3]?=some (.cells #[.slice a L cap] 40 (0,0)))
  (fun _ _ _=>False) ?own (fun _=>by intro s A B row hs;exact hs.elim) ?start
  (fun x=>{ tmps:=#[.agg #[.slice a L cap],.pointer (some ⟨n0,0,none⟩),.string ⟨#[]⟩,.pointer (some ⟨n0+1+1,0,none⟩),.int .i64 (x.1:Int),.int .u32 (x.2.1:Int),undef,.agg #[.slice a L cap],.bool false,.pointer (some ⟨n0,0,none⟩),.slice a L cap,.func (.func 237) #[] #[.pointer (some ⟨n0+1+1+1,0,none⟩)],.int .i64 (x.1:Int),.int .u32 (x.2.1:Int),undef,undef,undef,undef,undef,undef,undef,undef,undef,undef,undef,undef,undef,undef,undef,undef,undef],defers:=[] }) ?assign ?body ?done ?stop
 case own=>
  rintro s A A' row ⟨h1,h2,h3,h4⟩ hg hr;exact⟨lY h1 fun j o ho hc=>eD hg (fun r e=>(hr r e).2) ho hc,h2.grown hg (by omega) (fun k e=>by have:=(hr k e).1;omega),aq h3 hg.size,eD hg (fun r e=>(hr r e).2) h4 rfl⟩
 case start=>
  exact⟨Rg (.inl ⟨aa _,_,hT0,⟨rfl,.inl ⟨rfl,rfl⟩⟩,by simp[Value.ownBlock]⟩),cu _ _,by omega,hP0⟩
 case assign=>
  intro l x W K hK
  gi_wp2
  exact hK
 case body=>
  rintro l pre x W ⟨h1,h2,h3,h4⟩ hlt;have hG:Good M W:=hM.below hn0.symm (hB0.trans (h2.mono (by omega)));have hA:W.heap[n0]?=some (.cells #[.slice a L cap] 42 (0,0)):=(h2.block n0 (by omega)).trans hA0;have cA:W.cell? ⟨n0,0,none⟩=some (.slice a L cap):=bD hA rfl;have hx:x.2.1<1000000000:=x.2.2;obtain⟨c,hc9,hci,hz⟩:=nine hx;have hpl:=aH9 L pre;have htx1:(x.1:Int)<(L:Int)-1->tx L (pre++[x])=tx L pre++List.replicate c 48++dec x.2.1:=fun h=>by rw[zg,aK (by omega),hz,dq]
  have htx2:¬(x.1:Int)<(L:Int)-1->tx L (pre++[x])=tx L pre++dec x.2.1:=fun h=>by rw[zg,aG (by omega)]
  have h32:n0+2<=W.heap.size:=by omega
  rw[hL]at hlt
  obtain⟨lA,lB,lC⟩:=lens (tx L pre) (dec x.2.1) c (by have:(dec x.2.1).length<=9:=fy (by omega) (by rw[show(10:Nat)^9=1000000000 by decide];exact hx)
                                                      exact this) hc9
  have hcell:Lib.byteCells (tx L pre)++Lib.strCells ⟨Array.replicate c 48⟩++Lib.strCells ⟨(dec x.2.1).toArray⟩=Lib.byteCells (tx L pre++List.replicate c 48++dec x.2.1):=by
   rw[vd,vd,ve,ve];simp
  have hcell2:Lib.byteCells (tx L pre)++Lib.strCells ⟨(dec x.2.1).toArray⟩=Lib.byteCells (tx L pre++dec x.2.1):=by
   rw[vd,ve]
  by_cases hc:(x.1:Int)<(L:Int)-1
  all_goals gi_wp2_with (refine⟨trivial,?_⟩;gi_at_call 169;refine(mU l (au.2 (Ai x.2.1 _ M hG))).mono ?_;rintro e w1 ⟨rfl,hb1⟩;have cA1:w1.cell? ⟨n0,0,none⟩=some (.slice a L cap):=(hb1.cell (p:=⟨n0,0,none⟩) (show n0<W.heap.size by omega)).trans cA)
  ·rw[hci]
   gi_wp2_with (refine⟨trivial,?_⟩;gi_at_call 216;refine(mU l (au.2 (al8 c hc9 _))).mono ?_;rintro e w2 ⟨rfl,hb2⟩)
   have b2:Lib.IsBuilderF 209 5 (n0+2) (n0+2) (Lib.byteCells (tx L pre)) w2:=lY (lY h1 fun j o ho _=>fv hb1 j o ho) fun j o ho _=>fv hb2 j o ho;have s2:n0+2<=w2.heap.size:=aq (aq h32 hb1.size) hb2.size;have q:CallsIn (Fence.wide.inRound l) 998 prog 167 #[.pointer (some ⟨n0+1+1,0,none⟩),.string ⟨Array.replicate c 48⟩] w2 fun e w'=>e=.returned (.tuple #[.int .i64 (⟨Array.replicate c 48⟩:ByteArray).size,.nilIface])/\(Lib.IsBuilderF 209 5 (n0+2) (n0+2) (Lib.byteCells (tx L pre)++Lib.strCells ⟨Array.replicate c 48⟩) w'/\Below (n0+2) w2 w'/\Lib.OthersKept 5 (some (n0+2)) w2 w'):=mU l (au.2 (uk (n0+2) (n0+2) _ ⟨Array.replicate c 48⟩ w2 b2 lA s2))
   gi_wp2_with (refine⟨trivial,?_⟩;gi_at_call 167;refine q.mono ?_;clear q;rintro e w3 ⟨rfl,b3,hl3,ho3⟩)
   have s3:n0+2<=w3.heap.size:=aq s2 hl3.size;have q:CallsIn (Fence.wide.inRound l) 998 prog 167 #[.pointer (some ⟨n0+1+1,0,none⟩),.string ⟨(dec x.2.1).toArray⟩] w3 fun e w'=>e=.returned (.tuple #[.int .i64 (⟨(dec x.2.1).toArray⟩:ByteArray).size,.nilIface])/\(Lib.IsBuilderF 209 5 (n0+2) (n0+2) ((Lib.byteCells (tx L pre)++Lib.strCells ⟨Array.replicate c 48⟩)++Lib.strCells ⟨(dec x.2.1).toArray⟩) w'/\Below (n0+2) w3 w'/\Lib.OthersKept 5 (some (n0+2)) w3 w'):=mU l (au.2 (uk (n0+2) (n0+2) _ ⟨(dec x.2.1).toArray⟩ w3 b3 lB s3))
   gi_wp2_with (refine⟨trivial,?_⟩;gi_at_call 167;refine q.mono ?_;clear q;rintro e w4 ⟨rfl,b4,hl4,ho4⟩)
   rw[hcell,<-htx1 hc]at b4;exact xU h2 h3 h4 ((((hb1.mono h32).trans (hb2.mono (aq h32 hb1.size))).trans hl3).trans hl4) (fun k o ho hk hu=>ho4 k o (ho3 k o (fv hb2 k o (fv hb1 k o ho)) hk hu) hk hu) h1 b4
  ·have b1:Lib.IsBuilderF 209 5 (n0+2) (n0+2) (Lib.byteCells (tx L pre)) w1:=lY h1 fun j o ho _=>fv hb1 j o ho;have s1:n0+2<=w1.heap.size:=aq h32 hb1.size;have q:CallsIn (Fence.wide.inRound l) 998 prog 167 #[.pointer (some ⟨n0+1+1,0,none⟩),.string ⟨(dec x.2.1).toArray⟩] w1 fun e w'=>e=.returned (.tuple #[.int .i64 (⟨(dec x.2.1).toArray⟩:ByteArray).size,.nilIface])/\(Lib.IsBuilderF 209 5 (n0+2) (n0+2) (Lib.byteCells (tx L pre)++Lib.strCells ⟨(dec x.2.1).toArray⟩) w'/\Below (n0+2) w1 w'/\Lib.OthersKept 5 (some (n0+2)) w1 w'):=mU l (au.2 (uk (n0+2) (n0+2) _ ⟨(dec x.2.1).toArray⟩ w1 b1 lC s1))
   gi_wp2_with (refine⟨trivial,?_⟩;gi_at_call 167;refine q.mono ?_;clear q;rintro e w4 ⟨rfl,b4,hl4,ho4⟩)
   rw[hcell2,<-htx2 hc]at b4;exact xU h2 h3 h4 ((hb1.mono h32).trans hl4) (fun k o ho hk hu=>ho4 k o (fv hb1 k o ho) hk hu) h1 b4
 case done=>
  rintro D ys W hD rfl ⟨h1,h2,h3,h4⟩ hK;have s1:n0+2<=W.heap.size:=by omega
  have hbW:Below n0 w W:=hB0.trans (h2.mono (by omega))
  gi_wp2_with (refine⟨trivial,?_⟩;gi_at_call 170;refine(au.2 (Tryz.Builder_String_any_k (n0+2) (n0+2) _ W h1 s1)).mono ?_;rintro e w1 ⟨rfl,b1,hl1,ho1⟩)
  have hne:some D≠some (n0+2):=by intro e;cases e;omega
  have hK1:=ho1 D _ hK hne (by intro c fz h;cases h);refine⟨by simp,.inl ⟨_,_,rfl,qF hK1,?_⟩⟩;rw[hn0];refine⟨_,jP rfl _ _ _,rfl,(hbW.trans (hl1.mono (by omega))).trans ?_⟩;exact sx (w:=w) (by omega) w1 D _ _ (by omega) hK1 rfl rfl
 case stop=>
  rintro D c pre W hD _ h hK;exact h.elim
theorem PS(n:Nat)(hn:(dg n).length<=1099511627776:=by omega):aU prog 171 [mT n] (.ret [bS (dec n)]):=by
 by_cases h0:n=0
 ·subst h0;refine⟨bC (by kernel_rfl),fun M w vs hM hv=>?_⟩
  match vs,hv with
  | [v],hv=>
    obtain⟨⟨us,rfl,hus⟩,_⟩:=hv
    match us,hus with
    | [u],hus=>
      obtain⟨a,cap,rfl,hel⟩:=aa3 hus.1;have hl:((dg 0).map (fun d:Nat=>(d:Int))).length=0:=by rw[xI.2 rfl];rfl
      rw[hl];refine((au (n:=1001)).1 (XP a cap w)).mono ?_;rintro e w' ⟨rfl,hb⟩;exact⟨hb,[.string ⟨#[48]⟩],rfl,⟨by rw[UK],rfl⟩,trivial⟩
    | [],hus=>exact hus.elim
    | _::_::_,hus=>exact hus.2.elim
  | [],hv=>exact hv.elim
  | _::_::_,hv=>exact hv.2.elim
 ·refine⟨bC (by kernel_rfl),fun M w vs hM hv=>?_⟩
  match vs,hv with
  | [v],hv=>
    obtain⟨⟨us,rfl,hus⟩,_⟩:=hv
    match us,hus with
    | [u],hus=>
      obtain⟨ds,hds⟩:=xu (kW n);have hdl:(dg n).length=ds.length:=by rw[<-hds,aI]
      obtain⟨a,cap,rfl,hel⟩:=aa3 hus.1;have hl:((dg n).map (fun d:Nat=>(d:Int))).length=ds.length:=by rw[aI,hdl]
      rw[hl]
      have hI:Sl1 al7 w.heap.size w (.slice a ds.length cap) ds:=by
       refine⟨a,cap,rfl,?_⟩;rcases hel with h | ⟨b,off,rfl,hb,hc⟩
       ·left
        have:(dg n).length=0:=by rw[<-aI (f:=fun d:Nat=>(d:Int)),h];rfl
        exact eV (by omega)
       ·refine .inr ⟨b,off,rfl,hb,fun j v hj=>hc j _ ?_⟩;rw[<-hds,et,cn,hj];rfl
      have hne:ds.length≠0:=fun h=>h0 (xI.1 (eV (by omega)))
      have hlast:∀d,ds.getLast? = some d->d.1≠0:=fun d hd=>by
       refine QW (B:=1000000000) (by omega) n d.1 ?_;show(dg n).getLast? = _;rw[<-hds,List.getLast?_map,hd];rfl
      have ht:=(aH6 ds hlast ds.length (by omega) (aa _)).2;rw[fU,ga,hds,iX]at ht;have h1:=aD9 a cap ds hne w M hM.2 hI;rw[ht]at h1;refine((au (n:=1001)).1 h1).mono ?_;rintro e w' ⟨rfl,hb⟩;exact⟨hb,[.string ⟨(dec n).toArray⟩],rfl,⟨rfl,rfl⟩,trivial⟩
    | [],hus=>exact hus.elim
    | _::_::_,hus=>exact hus.2.elim
  | [],hv=>exact hv.elim
  | _::_::_,hv=>exact hv.2.elim
end Go.Sy
namespace Go.Sy
open Go Go.Proofs Tryz Ord
theorem Sf{n H:Nat}(h:n<2^H):(dg n).length<=H:=Ce (cj h (qO (by omega) H))
theorem be5(q:Rat)(H:Nat)(hf:Fit H q)(hH:H<=34359738360:=by omega):aU prog 74 [(qT q:aN)] (.ret [bS (lg q)]):=by
 refine dL func74 ZP ?_;have hd:=Sf hf.2;have hn:=Sf hf.1;have hp:=q.den_pos;have ln:=lZ hf.1;have ld:=lZ hf.2;rw[show lg q=((if q.num<0 then[45]else[])++dec q.num.natAbs)++if q.den=1 then[]else[47]++dec q.den from rfl];apply aA (PS q.num.natAbs);refine vs _ rfl ?_ ?_<;>intro h1
 ·apply vn (kE (a:=[45]) (by simp only[an,bo];omega)) rfl;apply aA (te (q.den-1));apply vn mn;dsimp only[aE,aF];refine vs _ rfl ?_ ?_<;>intro h5
  ·apply aA (fX q);apply aA (PS q.den);apply vn (kE (a:=[47]) (by simp only[an,bo];omega)) rfl;apply vn (kE (by simp only[cJ,an,bo];omega)) rfl;dsimp only[aE,aF];rw[aK h1,aG (by omega)];exact aL
  rw[aK h1,aK (by omega),bw];exact aL
 apply aA (te (q.den-1));apply vn mn;refine vs _ rfl ?_ ?_<;>intro h14
 ·apply aA (fX q);apply aA (PS q.den);dsimp only[aE,aF];apply vn (kE (a:=[47]) (by simp only[an,bo];omega)) rfl;apply vn (kE (by simp only[cJ,an,bo];omega)) rfl;dsimp only[aE,aF];rw[aG h1,aG (by omega)];exact aL
 rw[aG h1,aK (by omega),bw];exact aL
theorem aW9(a:Rat)(b:RQ)(B:Nat)(ha:Fit B a)(hb:Fit B b.q)(hB:B<=34359738360):aU prog 29 [qT a,qw b] (.ret [.one (.bool (decide (a=b.q)))]):=by
 refine dL func29 bb4 ?_;apply aA (be5 a B ha);apply aA (ba5 b B hb);apply vn ar4;rw[show decide (lg a=lg b.q)=decide (a=b.q) by rw[kF];exact aS6];exact aL
open Go Go.Proofs Go.RowKit Go.Shelf Tryz Ord
attribute [local go_sem] Oper.semAt_some
theorem ah5(a:Option Addr)(cap:Nat)(vs:List D9)(w:World)(M:Nat->Prop)(hM:Good M w)(hI:Sl1 al7 w.heap.size w (.slice a vs.length cap) vs)(hlen:vs.length<=1:=by omega)(h0:vs.length≠0:=by omega) :
  CallsIn Fence.wide 1001 prog 171 #[.agg #[.slice a vs.length cap]] w fun e W'=>e=.returned (.string ⟨(tx vs.length (bk vs vs.length)).toArray⟩)/\Below w.heap.size w W':=by
 refine qE func171 rfl trivial ?_ rfl;simp only[ntmps171,cw,an,bo,Nat.reduceAdd,Nat.reduceSub,dx,dk,du,di,List.nil_append,List.cons_append];generalize hL:vs.length=L at hI hlen h0|-
 gi_wp2_with (refine⟨trivial,?_⟩;gi_at_call 172;refine(ac9 _ _ _ _ h0 _).mono ?_;rintro e w' ⟨rfl,rfl⟩)
 gi_wp2_with (refine⟨trivial,?_⟩;gi_at_call 215;refine(AE _ _ _ _ _).mono ?_;rintro e w' ⟨rfl,rfl⟩)
 obtain⟨n0,hn0⟩:∃n0,w.heap.size=n0:=⟨_,rfl⟩
 rw[hn0]at hI|-;obtain⟨W0,hW0⟩:∃W0,((((w.alloc (.cells #[.slice a L cap] 42)).alloc (.cells #[.slice a L cap] 42)).alloc (.cells #[.pointer none,.slice none 0 0] 209)).alloc (.cells #[.slice a L cap] 40))=W0:=⟨_,rfl⟩
 have hs0:W0.heap.size=n0+4:=by rw[<-hW0];simp[hn0]
 have hA0:W0.heap[n0]?=some (.cells #[.slice a L cap] 42 (0,0)):=by rw[<-hW0,dE _ _ _ (by simp;omega),dE _ _ _ (by simp;omega),dE _ _ _ (by simp;omega),<-hn0];exact dX w _
 have hT0:W0.heap[n0+2]?=some (.cells #[.pointer none,.slice none 0 0] 209 (0,0)):=by
  rw[<-hW0,dE _ _ _ (by simp;omega)];have:=dX ((w.alloc (.cells #[.slice a L cap] 42)).alloc (.cells #[.slice a L cap] 42)) (.cells #[.pointer none,.slice none 0 0] 209);rw[cy,cy,hn0]at this;exact this
 have hP0:W0.heap[n0+3]?=some (.cells #[.slice a L cap] 40 (0,0)):=by
  rw[<-hW0];have:=dX (((w.alloc (.cells #[.slice a L cap] 42)).alloc (.cells #[.slice a L cap] 42)).alloc (.cells #[.pointer none,.slice none 0 0] 209)) (.cells #[.slice a L cap] 40);rw[cy,cy,cy,hn0]at this;exact this
 have hB0:Below n0 w W0:=by
  rw[<-hW0];exact((((cu _ w).alloc (by omega) _).alloc (by simp;omega) _).alloc (by simp;omega) _).alloc (by simp;omega) _
 rw[hW0];have hG0:Good M W0:=hM.below hn0.symm hB0
 refine Pg (w0:=W0) rfl (by omega) (gf:=237) (lb:=#[.pointer (some ⟨n0+1+1+1,0,none⟩)]) rfl trivial (vy func237 (by kernel_rfl) rfl)
  (ru (enc:=al7) (n0+3) n0 (.slice a L cap) vs (by omega) W0 (by omega) (by omega) (bD hP0 rfl) (hI.below hB0)) Uj (UI (by omega) (by omega)) (cu _ _) (fun _=>rfl)
  (fun pre W=>Lib.IsBuilderF 209 5 (n0+2) (n0+2) (Lib.byteCells (tx L pre)) W/\Below (n0+2) W0 W/\n0+4<=W.heap.size/\W.heap[n0+3]?=some (.cells #[.slice a L cap] 40 (0,0)))
  (fun _ _ _=>False) ?own (fun _=>by intro s A B row hs;exact hs.elim) ?start
  (fun x=>{ tmps:=#[.agg #[.slice a L cap],.pointer (some ⟨n0,0,none⟩),.string ⟨#[]⟩,.pointer (some ⟨n0+1+1,0,none⟩),.int .i64 (x.1:Int),.int .u32 (x.2.1:Int),undef,.agg #[.slice a L cap],.bool false,.pointer (some ⟨n0,0,none⟩),.slice a L cap,.func (.func 237) #[] #[.pointer (some ⟨n0+1+1+1,0,none⟩)],.int .i64 (x.1:Int),.int .u32 (x.2.1:Int),undef,undef,undef,undef,undef,undef,undef,undef,undef,undef,undef,undef,undef,undef,undef,undef,undef],defers:=[] }) ?assign ?body ?done ?stop
 case own=>
  rintro s A A' row ⟨h1,h2,h3,h4⟩ hg hr;exact⟨lY h1 fun j o ho hc=>eD hg (fun r e=>(hr r e).2) ho hc,h2.grown hg (by omega) (fun k e=>by have:=(hr k e).1;omega),aq h3 hg.size,eD hg (fun r e=>(hr r e).2) h4 rfl⟩
 case start=>
  exact⟨Rg (.inl ⟨aa _,_,hT0,⟨rfl,.inl ⟨rfl,rfl⟩⟩,by simp[Value.ownBlock]⟩),cu _ _,by omega,hP0⟩
 case assign=>
  intro l x W K hK
  gi_wp2
  exact hK
 case body=>
  rintro l pre x W ⟨h1,h2,h3,h4⟩ hlt;have hG:Good M W:=hM.below hn0.symm (hB0.trans (h2.mono (by omega)));have hA:W.heap[n0]?=some (.cells #[.slice a L cap] 42 (0,0)):=(h2.block n0 (by omega)).trans hA0;have cA:W.cell? ⟨n0,0,none⟩=some (.slice a L cap):=bD hA rfl;have hx:x.2.1<1000000000:=x.2.2;have hpl:=aH9 L pre;have htx2:tx L (pre++[x])=tx L pre++dec x.2.1:=by rw[zg,aG (by omega)]
  have h32:n0+2<=W.heap.size:=by omega
  rw[hL]at hlt
  have lC:(Lib.byteCells (tx L pre)).length+(⟨(dec x.2.1).toArray⟩:ByteArray).size<=140737488355328:=by
   have h2:(⟨(dec x.2.1).toArray⟩:ByteArray).size=(dec x.2.1).length:=cw;have h3:(dec x.2.1).length<=9:=fy (by omega) (by rw[show(10:Nat)^9=1000000000 by decide];exact hx);rw[ue,h2];omega
  have hcell2:Lib.byteCells (tx L pre)++Lib.strCells ⟨(dec x.2.1).toArray⟩=Lib.byteCells (tx L pre++dec x.2.1):=by
   rw[vd,ve]
  have hc:¬(x.1:Int)<(L:Int)-1:=by omega
  gi_wp2_with (refine⟨trivial,?_⟩;gi_at_call 169;refine(mU l (au.2 (Ai x.2.1 _ M hG))).mono ?_;rintro e w1 ⟨rfl,hb1⟩;have cA1:w1.cell? ⟨n0,0,none⟩=some (.slice a L cap):=(hb1.cell (p:=⟨n0,0,none⟩) (show n0<W.heap.size by omega)).trans cA)
  have b1:Lib.IsBuilderF 209 5 (n0+2) (n0+2) (Lib.byteCells (tx L pre)) w1:=lY h1 fun j o ho _=>fv hb1 j o ho;have s1:n0+2<=w1.heap.size:=aq h32 hb1.size;have q:CallsIn (Fence.wide.inRound l) 998 prog 167 #[.pointer (some ⟨n0+1+1,0,none⟩),.string ⟨(dec x.2.1).toArray⟩] w1 fun e w'=>e=.returned (.tuple #[.int .i64 (⟨(dec x.2.1).toArray⟩:ByteArray).size,.nilIface])/\(Lib.IsBuilderF 209 5 (n0+2) (n0+2) (Lib.byteCells (tx L pre)++Lib.strCells ⟨(dec x.2.1).toArray⟩) w'/\Below (n0+2) w1 w'/\Lib.OthersKept 5 (some (n0+2)) w1 w'):=mU l (au.2 (uk (n0+2) (n0+2) _ ⟨(dec x.2.1).toArray⟩ w1 b1 lC s1))
  gi_wp2_with (refine⟨trivial,?_⟩;gi_at_call 167;refine q.mono ?_;clear q;rintro e w4 ⟨rfl,b4,hl4,ho4⟩)
  rw[hcell2,<-htx2]at b4;exact xU h2 h3 h4 ((hb1.mono h32).trans hl4) (fun k o ho hk hu=>ho4 k o (fv hb1 k o ho) hk hu) h1 b4
 case done=>
  rintro D ys W hD rfl ⟨h1,h2,h3,h4⟩ hK;have s1:n0+2<=W.heap.size:=by omega
  have hbW:Below n0 w W:=hB0.trans (h2.mono (by omega))
  gi_wp2_with (refine⟨trivial,?_⟩;gi_at_call 170;refine(au.2 (Tryz.Builder_String_any_k (n0+2) (n0+2) _ W h1 s1)).mono ?_;rintro e w1 ⟨rfl,b1,hl1,ho1⟩)
  have hne:some D≠some (n0+2):=by intro e;cases e;omega
  have hK1:=ho1 D _ hK hne (by intro c fz h;cases h);refine⟨by simp,.inl ⟨_,_,rfl,qF hK1,?_⟩⟩;rw[hn0];refine⟨_,jP rfl _ _ _,rfl,(hbW.trans (hl1.mono (by omega))).trans ?_⟩;exact sx (w:=w) (by omega) w1 D _ _ (by omega) hK1 rfl rfl
 case stop=>
  rintro D c pre W hD _ h hK;exact h.elim
theorem Bt(n:Nat)(hn:n<1000000000)(h0:n≠0:=by omega):aU prog 171 [mT n] (.ret [bS (dec n)]):=by
 refine⟨bC (by kernel_rfl),fun M w vs hM hv=>?_⟩
 match vs,hv with
 | [v],hv=>
   obtain⟨⟨us,rfl,hus⟩,_⟩:=hv
   match us,hus with
   | [u],hus=>
     obtain⟨ds,hds⟩:=xu (kW n);have hdg:dg n=[n]:=by unfold dg;rw[ff,ew hn,fA hn,dJ]
     have hdl:ds.length=1:=by rw[<-aI (f:=Subtype.val),hds,hdg];rfl
     obtain⟨a,cap,rfl,hel⟩:=aa3 hus.1;have hl:((dg n).map (fun d:Nat=>(d:Int))).length=ds.length:=by rw[aI,hdg,hdl];rfl
     rw[hl]
     have hI:Sl1 al7 w.heap.size w (.slice a ds.length cap) ds:=by
      refine⟨a,cap,rfl,?_⟩;rcases hel with h | ⟨b,off,rfl,hb,hc⟩
      ·rw[hdg]at h;cases h
      ·refine .inr ⟨b,off,rfl,hb,fun j v hj=>hc j _ ?_⟩;rw[<-hds,et,cn,hj];rfl
     have h1:=ah5 a cap ds w M hM.2 hI
     have ht:tx ds.length (bk ds ds.length)=dec n:=by
      match ds,hdl,hds with
      | [d],_,hds=>
        rw[hdg]at hds;have e:d.1=n:=by simpa using hds
        rw[<-e];rfl
     rw[ht]at h1;refine((au (n:=1001)).1 h1).mono ?_;rintro e w' ⟨rfl,hb⟩;exact⟨hb,[.string ⟨(dec n).toArray⟩],rfl,⟨rfl,rfl⟩,trivial⟩
   | [],hus=>exact hus.elim
   | _::_::_,hus=>exact hus.2.elim
 | [],hv=>exact hv.elim
 | _::_::_,hv=>exact hv.2.elim
theorem BF(q:Rat)(hf:Fit 64 q)(h0:q.num.natAbs≠0)(hn1:q.num.natAbs<1000000000)(hd1:q.den<1000000000):aU prog 74 [(qT q:aN)] (.ret [bS (lg q)]):=by
 refine dL func74 ZP ?_;have hd:=Sf hf.2;have hn:=Sf hf.1;have hp:=q.den_pos;have ln:=lZ hf.1;have ld:=lZ hf.2;rw[show lg q=((if q.num<0 then[45]else[])++dec q.num.natAbs)++if q.den=1 then[]else[47]++dec q.den from rfl];apply aA (Bt q.num.natAbs hn1 h0);refine vs _ rfl ?_ ?_<;>intro h1
 ·apply vn (kE (a:=[45]) (by simp only[an,bo];omega)) rfl;apply aA (te (q.den-1));apply vn mn;dsimp only[aE,aF];refine vs _ rfl ?_ ?_<;>intro h5
  ·apply aA (fX q);apply aA (Bt q.den hd1);apply vn (kE (a:=[47]) (by simp only[an,bo];omega)) rfl;apply vn (kE (by simp only[cJ,an,bo];omega)) rfl;dsimp only[aE,aF];rw[aK h1,aG (by omega)];exact aL
  rw[aK h1,aK (by omega),bw];exact aL
 apply aA (te (q.den-1));apply vn mn;refine vs _ rfl ?_ ?_<;>intro h14
 ·apply aA (fX q);apply aA (Bt q.den hd1);dsimp only[aE,aF];apply vn (kE (a:=[47]) (by simp only[an,bo];omega)) rfl;apply vn (kE (by simp only[cJ,an,bo];omega)) rfl;dsimp only[aE,aF];rw[aG h1,aG (by omega)];exact aL
 rw[aG h1,aK (by omega),bw];exact aL
end Go.Sy
namespace Go.Sy
open Go Go.Proofs Go.RowKit Go.Shelf Tryz Ord
attribute [local go_sem] Oper.semAt_some
def ca8:Tr:=pE 76 0 0 1 0 2 2 6 7 (jN 88 3 3 1 3 2 1 8 9 (kZ 4 4 2))
theorem al5:aV prog f178 ck [.v (some 3),.v (some 3),.ref 3]=ca8:=by kernel_rfl
def tX(ps:List Rat)(c:Rat):Rat:=ps.foldr (fun a v=>v*c+a) 0
theorem ag6(v c x:Rat)(A B C:Nat)(hv:Fit A v)(hc:Fit B c)(hx:Fit C x)(hA:A+B+C<=4294967296):aU prog 178 [(qT v:aN),(qT c:aN),(.one (.aw (qC x)):aN)] (.ret [qT (v*x+c)]):=by
 refine dvr (ins:=[.v (qT v),.v (qT c),.ref (qC x)]) func178 al5 ?_;apply aA (jJ v x A C hv hx);apply aA (ph (v*x) c _ B (hv.mul hx) hc);exact aL
section
variable(M:Nat->Prop)(w:World)(B:Nat)
structure QV where
 q:Rat
 u0:Value
 u1:Value
 u2:Value
 fit:Fit B q
 rep:ai M w (qC q) [u0,u1,u2]
end
theorem aQ9(M:Nat->Prop)(w:World)(B:Nat)(hB:1<=B):Nonempty (QV M w B):=
 ⟨⟨0,.slice none 0 0,.bool false,.slice none 0 0,Fit.zero hB,ai.sub nA ⟨⟨rfl,rfl⟩,⟨rfl,rfl⟩,⟨rfl,rfl⟩,trivial⟩⟩⟩
def hv{M:Nat->Prop}{w:World}{B:Nat}(x:Rat)(pre:List (Nat×QV M w B)):Rat:=pre.foldl (fun v c=>v*x+c.2.q) 0
theorem XY{P:Program}{W:World}{b T j:Nat}{cs:Array Value}{u:Value}(h:W.heap[b]?=some (.cells cs T (0,0)))(hj:j<cs.size)(o:u.oneCell'=true) :
  (store ⟨b,j,none⟩ u).run P W=.ok () (W.setRow b (cs.setIfInBounds j u)):=by
 have hcell:W.cell? ⟨b,j,none⟩=some cs[j]:=by simp[World.cell?,h,hj]
 have hfro:W.frozen? ⟨b,j,none⟩=false:=by simp[World.frozen?,h]
 rw[run_store P W _ u _ o,hcell];simp[hfro,setCell_eq_setRow W b j cs T (0,0) u h]
theorem BP{P:Program}{W:World}{b T:Nat}{c0 c1 c2 u0 u1 u2:Value}(h:W.heap[b]?=some (.cells #[c0,c1,c2] T (0,0)))(o0:u0.oneCell'=true)(o1:u1.oneCell'=true)(o2:u2.oneCell'=true) :
  (((store ⟨b,0,none⟩ u0).run P W).andThen fun _ w'=>((store ⟨b,1,none⟩ u1).run P w').andThen fun _ w'=>(store ⟨b,2,none⟩ u2).run P w')=.ok () (W.setRow b #[u0,u1,u2]):=by
 rw[XY h (by simp) o0,jG,XY (iz W b _ _ T (0,0) h) (by simp) o1,jG,setRow_setRow,XY (iz W b _ _ T (0,0) h) (by simp) o2,setRow_setRow];rfl
theorem below_setRow{n:Nat}{A W:World}{g:Nat}(h:Below n A W)(hg:n<=g)(cs:Array Value):Below n A (W.setRow g cs):=
 ⟨h.os,h.tape,h.output,by simpa[World.setRow]using h.size,fun k hk=>by
  rw[gH W g k cs (by omega)];exact h.block k hk⟩
theorem aQ3{M:Nat->Prop}{w:World}{B:Nat}(x:Rat)(pre:List (Nat×QV M w B))(y:Nat×QV M w B):hv x (pre++[y])=hv x pre*x+y.2.q:=by simp[hv]
theorem aG3{M:Nat->Prop}{w:World}{B C:Nat}{x:Rat}(hx:Fit C x):∀(pre:List (Nat×QV M w B))(v:Rat)(A:Nat),Fit A v->Fit (pre.length*(B+C+1)+A) (pre.foldl (fun v c=>v*x+c.2.q) v)
 | [],v,A,h=>by simpa using h
 | y::ys,v,A,h=>by
   have:=aG3 hx ys (v*x+y.2.q) _ ((h.mul hx).add y.2.fit);refine this.mono ?_;rw[an,bX];omega
theorem cp5{M:Nat->Prop}{w:World}{q:Rat}{vs:List Value}(h:ba M w [qT q] vs):∃v0 v1 v2,pack vs=.agg #[v0,v1,v2]/\ai M w (qC q) [v0,v1,v2]:=by
 match vs,h with
 | [v],h=>
   obtain⟨⟨us,rfl,hus⟩,_⟩:=h
   match us,hus with
   | [a,b,c],hus=>exact⟨a,b,c,rfl,hus⟩
   | [],hus=>exact hus.elim
   | [_],hus=>exact hus.2.elim
   | [_,_],hus=>exact hus.2.2.elim
   | _::_::_::_::_,hus=>exact hus.2.2.2.elim
 | [],h=>exact h.elim
 | _::_::_,h=>exact h.2.elim
theorem aj5(M:Nat->Prop)(w:World)(B C:Nat)(x:Rat)(hx:Fit C x)(hM:cC M w)(hB:1<=B)[Inhabited (QV M w B)](a:Option Addr)(cap:Nat)(ts:List (QV M w B))(hlen:ts.length<4611686018427387904)(hbig:ts.length*(B+C+1)+B+C+1<=4294967296)
  (hI:Sl3 QV.u0 QV.u1 QV.u2 w.heap.size w (.slice a ts.length cap) ts) (z0 z1 z2:Value) (hz:ai M w (qC 0) [z0,z1,z2]) (xp:Value) (hxp:(aC.aw (qC x)).rep M w xp) :
  CallsIn Fence.wide 1001 prog 177 #[.slice a ts.length cap,.agg #[z0,z1,z2],.func (.func 178) #[] #[xp]] w fun e W'=>Below w.heap.size w W'/\∃u0 u1 u2,e=.returned (.agg #[u0,u1,u2])/\ai M W' (qC (hv x (bk ts ts.length))) [u0,u1,u2]:=by
 refine qE func177 rfl trivial ?_ rfl;simp only[ntmps177,cw,an,bo,Nat.reduceAdd,Nat.reduceSub,dx,dk,du,di,List.nil_append,List.cons_append];generalize hL:ts.length=L at hI hlen hbig|-
 gi_wp2_with (refine⟨trivial,?_⟩;gi_at_call 224;refine(VS _ _ _ _ _).mono ?_;rintro e w' ⟨rfl,rfl⟩)
 obtain⟨n0,hn0⟩:∃n0,w.heap.size=n0:=⟨_,rfl⟩
 obtain⟨hM,hMg⟩:=hM;rw[hn0]at hI hM|-;obtain⟨W0,hW0⟩:∃W0,((((w.alloc (.cells #[z0,z1,z2] 46)).alloc (.cells #[.func (.func 178) #[] #[xp]] 164)).alloc (.cells #[.slice none 0 0,.bool false,.slice none 0 0] 46)).alloc (.cells #[.slice a L cap] 98))=W0:=⟨_,rfl⟩
 have hs0:W0.heap.size=n0+4:=by rw[<-hW0];simp[hn0]
 have hX0:W0.heap[n0]?=some (.cells #[z0,z1,z2] 46 (0,0)):=by rw[<-hW0,dE _ _ _ (by simp;omega),dE _ _ _ (by simp;omega),dE _ _ _ (by simp;omega),<-hn0];exact dX w _
 have hS0:W0.heap[n0+1]?=some (.cells #[.func (.func 178) #[] #[xp]] 164 (0,0)):=by
  rw[<-hW0,dE _ _ _ (by simp;omega),dE _ _ _ (by simp;omega)];have:=dX (w.alloc (.cells #[z0,z1,z2] 46)) (.cells #[.func (.func 178) #[] #[xp]] 164);rw[cy,hn0]at this;exact this
 have hR0:W0.heap[n0+2]?=some (.cells #[.slice none 0 0,.bool false,.slice none 0 0] 46 (0,0)):=by
  rw[<-hW0,dE _ _ _ (by simp;omega)];have:=dX ((w.alloc (.cells #[z0,z1,z2] 46)).alloc (.cells #[.func (.func 178) #[] #[xp]] 164)) (.cells #[.slice none 0 0,.bool false,.slice none 0 0] 46);rw[cy,cy,hn0]at this;exact this
 have hP0:W0.heap[n0+3]?=some (.cells #[.slice a L cap] 98 (0,0)):=by
  rw[<-hW0];have:=dX (((w.alloc (.cells #[z0,z1,z2] 46)).alloc (.cells #[.func (.func 178) #[] #[xp]] 164)).alloc (.cells #[.slice none 0 0,.bool false,.slice none 0 0] 46)) (.cells #[.slice a L cap] 98);rw[cy,cy,cy,hn0]at this;exact this
 have hB0:Below n0 w W0:=by
  rw[<-hW0];exact((((cu _ w).alloc (by omega) _).alloc (by simp;omega) _).alloc (by simp;omega) _).alloc (by simp;omega) _
 rw[hW0]
 refine wpIn_rangeFunc_ownH (w0:=W0) rfl (by omega) (gf:=246) (lb:=#[.pointer (some ⟨n0+1+1+1,0,none⟩)]) rfl trivial (vy func246 (by kernel_rfl) rfl)
  (yQ (e0:=QV.u0) (e1:=QV.u1) (e2:=QV.u2) (n0+3) n0 (.slice a L cap) ts (by omega) W0 (by omega) (by omega) (bD hP0 rfl) (hI.below hB0)) Uj (UI (by omega) (by omega)) (cu _ _) (fun _=>rfl)
  (fun pre W=>Below n0 w W/\n0+4<=W.heap.size/\W.heap[n0+1]?=some (.cells #[.func (.func 178) #[] #[xp]] 164 (0,0))/\W.heap[n0+2]?=some (.cells #[.slice none 0 0,.bool false,.slice none 0 0] 46 (0,0)) /\
   ∃u0 u1 u2,W.heap[n0]?=some (.cells #[u0,u1,u2] 46 (0,0))/\ai (fun b=>M b\/b=n0\/b=n0+2) W (qC (hv x pre)) [u0,u1,u2])
  (fun _ _ _=>False) ?own (fun _=>by intro s A B row hs;exact hs.elim) ?start
  (fun y a' W=>∃b,n0+4<=b/\a'={ tmps:=#[.slice a L cap,.agg #[z0,z1,z2],.func (.func 178) #[] #[xp],undef,.pointer (some ⟨n0,0,none⟩),.pointer (some ⟨n0+1,0,none⟩),.pointer (some ⟨n0+1+1,0,none⟩),undef,.pointer (some ⟨b,0,none⟩),.slice a L cap,.func (.func 246) #[] #[.pointer (some ⟨n0+1+1+1,0,none⟩)],.int .i64 (y.1:Int),.agg #[y.2.u0,y.2.u1,y.2.u2],undef,undef,undef,undef,undef],defers:=[] } /\ W.heap[b]?=some (.cells #[y.2.u0,y.2.u1,y.2.u2] 46 (0,0)))
  ?ax ?assign ?body ?done ?stop
 case own=>
  rintro s A A' row ⟨h1,h2,h3,h4,u0,u1,u2,h5,h6⟩ hg hr;have hr':∀r,row=some r->∃o:Obj,A.heap[r]?=some o/\o.isCells=false:=fun r e=>(hr r e).2;refine⟨h1.grown hg (by omega) (fun k e=>by have:=(hr k e).1;omega),aq h2 hg.size,eD hg hr' h3 rfl,eD hg hr' h4 rfl,u0,u1,u2,eD hg hr' h5 rfl,h6.mono fun b o hb ho hc=>⟨hb,eD hg hr' ho hc⟩⟩
 case start=>
  refine⟨hB0,by omega,hS0,hR0,z0,z1,z2,hX0,hz.mono fun b o hb ho hc=>?_⟩;have hlt:=(cZ.1 ho).1;exact⟨fun h=>h.elim hb (by omega),(hB0.block b (by omega)).trans ho⟩
 case ax=>
  rintro y a' _ A A' row ⟨b,h1,h2,h3⟩ hg hr;exact⟨b,h1,h2,eD hg (fun r e=>(hr r e).2) h3 rfl⟩
 case assign=>
  rintro l pre y W K ⟨h1,h2,h3,h4,u0,u1,u2,h5,h6⟩ hK
  gi_wp2
  obtain⟨o0,o1,o2⟩:y.2.u0.oneCell'=true/\y.2.u1.oneCell'=true/\y.2.u2.oneCell'=true:=by
   have:=y.2.rep.one;exact⟨this _ (by simp),this _ (by simp),this _ (by simp)⟩
  have hnew:=dX W (.cells #[.slice none 0 0,.bool false,.slice none 0 0] 46);rw[BP hnew o0 o1 o2];obtain⟨W',hW'⟩:∃W',(W.alloc (.cells #[.slice none 0 0,.bool false,.slice none 0 0] 46)).setRow W.heap.size #[y.2.u0,y.2.u1,y.2.u2]=W':=⟨_,rfl⟩
  have hold:∀k,k<W.heap.size->W'.heap[k]?=W.heap[k]?:=fun k hk=>by rw[<-hW',gH _ _ _ _ (by omega),dE _ _ _ hk]
  have hself:W'.heap[W.heap.size]?=some (.cells #[y.2.u0,y.2.u1,y.2.u2] 46 (0,0)):=by rw[<-hW'];exact iz _ _ _ _ _ _ hnew
  have hbel:Below W.heap.size W W':=by rw[<-hW'];exact below_setRow ((cu _ W).alloc (aa _) _) (aa _) _
  have hlt:∀{k:Nat}{o:Obj},W.heap[k]?=some o->k<W.heap.size:=fun h=>(cZ.1 h).1;rw[hW']
  gi_wp2
  refine hK _ _ ⟨hbel.size,fun k o _ ho _=>(hold k (hlt ho)).trans ho⟩ ⟨hbel.mono (by omega),fun v hv=>?_⟩
   ⟨h1.trans (hbel.mono (by omega)),aq h2 hbel.size,(hold _ (hlt h3)).trans h3,(hold _ (hlt h4)).trans h4,u0,u1,u2,(hold _ (hlt h5)).trans h5,h6.mono fun b o hb ho _=>⟨hb,(hold b (hlt ho)).trans ho⟩⟩
   ⟨W.heap.size,by omega,rfl,hself⟩
  simp only[World.cell?,hold (n0+3) (by omega)]at hv|-;exact hv
 case body=>
  rintro l pre y a' W hl _ ⟨h1,h2,h3,h4,u0,u1,u2,h5,h6⟩ ⟨b,hb,rfl,hbc⟩ hlt;have hltW:∀{k:Nat}{o:Obj},W.heap[k]?=some o->k<W.heap.size:=fun h=>(cZ.1 h).1;have c0:W.cell? ⟨n0,0,none⟩=some u0:=bD h5 rfl;have c1:W.cell? ⟨n0,1,none⟩=some u1:=bD h5 rfl;have c2:W.cell? ⟨n0,2,none⟩=some u2:=bD h5 rfl;have cs:W.cell? ⟨n0+1,0,none⟩=some (.func (.func 178) #[] #[xp]):=bD h3 rfl;have cb0:W.cell? ⟨b,0,none⟩=some y.2.u0:=bD hbc rfl;have cb1:W.cell? ⟨b,1,none⟩=some y.2.u1:=bD hbc rfl;have cb2:W.cell? ⟨b,2,none⟩=some y.2.u2:=bD hbc rfl;have hM1:∀k,(M k\/k=n0\/k=n0+2)->k<W.heap.size:=fun k h=>h.elim (fun h=>by have:=hM k h;omega) (fun h=>by omega)
  have hkeep:bF M w (fun b=>M b\/b=n0\/b=n0+2) W:=fun k o hk ho _=>by
   have hlt:=(cZ.1 ho).1;exact⟨fun h=>h.elim hk (by omega),(h1.block k (by omega)).trans ho⟩
  have hfit:Fit (pre.length*(B+C+1)+1) (hv x pre):=aG3 hx pre 0 1 (Fit.zero (aa 1))
  have hbound:pre.length*(B+C+1)+1+B+C<=4294967296:=by
   rw[hL]at hlt;have:=cN (B+C+1) (mE hlt);omega
  have hcall:Calls prog 178 #[.agg #[u0,u1,u2],.agg #[y.2.u0,y.2.u1,y.2.u2],xp] W fun e w'=>Below W.heap.size W w'/\∃v0 v1 v2,e=.returned (.agg #[v0,v1,v2])/\ai (fun b=>M b\/b=n0\/b=n0+2) w' (qC (hv x (pre++[y]))) [v0,v1,v2]:=by
   refine((ag6 (hv x pre) y.2.q x _ _ _ hfit y.2.fit hx hbound).2 (fun b=>M b\/b=n0\/b=n0+2) W [.agg #[u0,u1,u2],.agg #[y.2.u0,y.2.u1,y.2.u2],xp] ⟨hM1,hMg.eJ hkeep⟩ ⟨⟨[u0,u1,u2],rfl,h6⟩,⟨[_,_,_],rfl,y.2.rep.mono hkeep⟩,aC.mono _ hkeep hxp,trivial⟩).mono ?_;rintro e w' ⟨hb',vs,rfl,hvs⟩;rw[aQ3];obtain⟨v0,v1,v2,e1,hr⟩:=cp5 hvs;exact⟨hb',v0,v1,v2,by rw[e1],hr⟩
  gi_wp2_with (refine⟨trivial,?_⟩;gi_at_call 178;refine(mU l (au.2 hcall)).mono ?_;rintro e w' ⟨hbw,v0,v1,v2,rfl,hvr⟩)
  have hone:=hvr.one;have hbox:w'.heap[n0]?=some (.cells #[u0,u1,u2] 46 (0,0)):=(hbw.block n0 (hltW h5)).trans h5;rw[BP hbox (hone _ (by simp)) (hone _ (by simp)) (hone _ (by simp))];obtain⟨W3,hW3⟩:∃W3,w'.setRow n0 #[v0,v1,v2]=W3:=⟨_,rfl⟩
  have hself:W3.heap[n0]?=some (.cells #[v0,v1,v2] 46 (0,0)):=by rw[<-hW3];exact iz _ _ _ _ _ _ hbox
  have hoth:∀k,k≠n0->W3.heap[k]?=w'.heap[k]?:=fun k hk=>by rw[<-hW3,gH _ _ _ _ hk]
  have hold:∀{k:Nat}{o:Obj},k≠n0->W.heap[k]?=some o->W3.heap[k]?=some o:=fun hk ho=>(hoth _ hk).trans ((hbw.block _ (hltW ho)).trans ho);have hbel:Below n0 W W3:=by rw[<-hW3];exact below_setRow (hbw.mono (by omega)) (aa _) _
  rw[hW3]
  gi_wp2
  refine⟨⟨hbel.size,fun k o hk ho _=>hold (by omega) ho⟩,⟨hbel,fun v hv=>?_⟩,h1.trans hbel,aq h2 hbel.size,hold (by omega) h3,hold (by omega) h4,v0,v1,v2,hself,hvr.mono fun k o hk ho _=>⟨hk,(hoth k fun e=>hk (.inr (.inl e))).trans ho⟩⟩;simp only[World.cell?,hoth (n0+3) (by omega),hbw.block (n0+3) (by omega)]at hv|-;exact hv
 case done=>
  rintro D ys W hD rfl ⟨h1,h2,h3,h4,u0,u1,u2,h5,h6⟩ hK;have c0:W.cell? ⟨n0,0,none⟩=some u0:=bD h5 rfl;have c1:W.cell? ⟨n0,1,none⟩=some u1:=bD h5 rfl;have c2:W.cell? ⟨n0,2,none⟩=some u2:=bD h5 rfl;have hone:=h6.one
  gi_wp2
  rw[BP h4 (hone _ (by simp)) (hone _ (by simp)) (hone _ (by simp))]
  gi_wp2
  obtain⟨W3,hW3⟩:∃W3,W.setRow (n0+2) #[u0,u1,u2]=W3:=⟨_,rfl⟩
  have hself:W3.heap[n0+2]?=some (.cells #[u0,u1,u2] 46 (0,0)):=by rw[<-hW3];exact iz _ _ _ _ _ _ h4
  have hoth:∀k,k≠n0+2->W3.heap[k]?=W.heap[k]?:=fun k hk=>by rw[<-hW3,gH _ _ _ _ hk]
  have hK3:W3.heap[D]?=some (.deferred (some [])):=(hoth D (by omega)).trans hK;have hbel:Below n0 W W3:=by rw[<-hW3];exact below_setRow (cu _ W) (by omega) _
  rw[hW3];obtain⟨W4,hW4⟩:∃W4,W3.putObj D (.deferred none)=W4:=⟨_,rfl⟩
  have hoth4:∀k,k≠D->W4.heap[k]?=W3.heap[k]?:=fun k hk=>by rw[<-hW4];exact kz (by omega)
  have hself4:W4.heap[n0+2]?=some (.cells #[u0,u1,u2] 46 (0,0)):=(hoth4 _ (by omega)).trans hself;have d0:W4.cell? ⟨n0+2,0,none⟩=some u0:=bD hself4 rfl;have d1:W4.cell? ⟨n0+2,1,none⟩=some u1:=bD hself4 rfl;have d2:W4.cell? ⟨n0+2,2,none⟩=some u2:=bD hself4 rfl;refine⟨by simp,.inl ⟨_,_,rfl,qF hK3,?_⟩⟩;rw[hW4];refine⟨.agg #[u0,u1,u2],?_,?_,u0,u1,u2,rfl,by rw[<-hL];exact h6.mono fun k o hk ho hc=>⟨fun h=>hk (.inl h),(hoth4 k (by rintro rfl;rw[hK]at ho;cases ho;cases hc)).trans ((hoth k (by rintro rfl;exact hk (.inr (.inr rfl)))).trans ho)⟩⟩
  ·refine gW _ _ [_] ?_;simp[show f177.results=#[.cell 6 46]from rfl,gM,go_sem,d0,d1,d2]
  ·rw[<-hn0]at h1 hbel;exact(h1.trans hbel).trans (by rw[<-hW4];exact sx (w:=w) (aa _) W3 D _ _ (by omega) hK3 rfl rfl)
 case stop=>
  rintro D c pre W hD _ h hK;exact h.elim
theorem nh{α:Type}(P:Nat->α->Prop):∀n,(∀i,i<n->∃x,P i x)->∃ts:List α,ts.length=n/\∀(i:Nat)x,ts[i]?=some x->P i x
 | 0,_=>⟨[],rfl,fun i x h=>by simp at h⟩
 | n+1,h=>by
   obtain⟨ts,h1,h2⟩:=nh P n fun i hi=>h i (by omega);obtain⟨x,hx⟩:=h n (by omega);refine⟨ts++[x],by simp[h1],fun i y hy=>?_⟩;rcases fY i n with hi | hi
   ·rw[eU (by omega)]at hy;exact h2 i y hy
   ·rw[iB (by omega)]at hy
    have hin:i-ts.length=0:=by
     have:=(dM.1 hy).1;simp at this;omega
    rw[hin]at hy;simp only[lp,aW]at hy;subst hy;obtain rfl:i=n:=by omega
    exact hx
theorem bA7{M:Nat->Prop}{w:World}{B:Nat}{v:Value}{ps:List Rat}(h:(sQ ps).rep M w v)(hp:∀q∈ps,Fit B q) :
  ∃(ts:List (QV M w B))(a:Option Addr)(cap:Nat),v=.slice a ts.length cap/\ts.map QV.q=ps/\Sl3 QV.u0 QV.u1 QV.u2 w.heap.size w v ts:=by
 obtain⟨a,cap,rfl,hc,hm,hel⟩:=h;have hlen:(rQ ps).length=ps.length:=aI _;rcases hel with h | ⟨b,off,cs,T,fz,rfl,hb,hh,hr⟩
 ·have:ps=[]:=by cases ps<;>simp_all[rQ]
  subst this;exact⟨[],a,cap,rfl,rfl,a,cap,rfl,.inl rfl⟩
 ·obtain⟨ts,h1,h2⟩:=nh (fun i (x:QV M w B)=>ps[i]?=some x.q/\w.cell? ⟨b,off+i*3,none⟩=some x.u0/\w.cell? ⟨b,off+i*3+1,none⟩=some x.u1/\w.cell? ⟨b,off+i*3+2,none⟩=some x.u2) ps.length fun i hi=>by
   obtain⟨q,hq⟩:∃q,ps[i]?=some q:=⟨_,bQ hi⟩
   obtain⟨_,hrep⟩:=hr i (qC q) (by rw[rQ,cn,hq];rfl)
   have hat:∀j,j<3->((cs.toList.drop (off+i*3)).take 3)[j]?=cs[off+i*3+j]?:=fun j hj=>by
    rw[dm,aK hj,eo];simp
   have hl:=hrep.length;generalize hus:(cs.toList.drop (off+i*3)).take 3=us at hrep hl hat
   match us,hrep with
   | [x0,x1,x2],hrep=>
     refine⟨⟨q,x0,x1,x2,hp q (ei hq),hrep⟩,hq,?_,?_,?_⟩
     ·have h0:=hat 0 (by omega);rw[bq]at h0;exact bD hh (by rw[<-h0];rfl)
     ·exact bD hh (by rw[<-hat 1 (by omega)];rfl)
     ·exact bD hh (by rw[<-hat 2 (by omega)];rfl)
   | [],hrep=>exact hrep.elim
   | [_],hrep=>exact hrep.2.elim
   | [_,_],hrep=>exact hrep.2.2.elim
   | _::_::_::_::_,hrep=>exact hrep.2.2.2.elim
  refine⟨ts,_,cap,by rw[hlen,h1],?_,_,cap,by rw[hlen,h1],.inr ⟨b,off,rfl,(cZ.1 hh).1,fun j v hj=>(h2 j v hj).2⟩⟩;refine fJ fun i=>?_;rw[cn];cases hi:ts[i]? with
  | none=>
    have:=eZ.1 hi;rw[eZ.2 (by omega)];rfl
  | some x=>rw[(h2 i x hi).1];rfl
theorem ar8{α:Type}[Inhabited α](vs:List α):(bk vs vs.length).map Prod.snd=vs.reverse:=by
 refine fJ fun i=>?_;rw[bk,et,cn];rcases fY i vs.length with h | h
 ·rw[kv h,zi h];have h':vs.length-1-i<vs.length:=by omega
  simp[bQ h']
 ·rw[eZ.2 (by simpa using h),eZ.2 (by simpa using h)];rfl
theorem bZ8{M:Nat->Prop}{w:World}{B:Nat}[Inhabited (QV M w B)](x:Rat)(ts:List (QV M w B)):hv x (bk ts ts.length)=tX (ts.map QV.q) x:=by
 have h:hv x (bk ts ts.length)=((bk ts ts.length).map Prod.snd).foldl (fun v c=>v*x+c.q) 0:=by rw[hv,List.foldl_map]
 rw[h,ar8,List.foldl_reverse,tX,List.foldr_map]
theorem WE(ps:List Rat)(x:Rat)(B C:Nat)(hB:1<=B)(hp:∀q∈ps,Fit B q)(hx:Fit C x)(hl:ps.length*(B+C+1)+B+C+1<=4294967296:=by omega) :
  aU prog 177 [.one (sQ ps),qT 0,.one (.gp 178 [.aw (qC x)])] (.ret [qT (tX ps x)]):=by
 refine⟨bC (by kernel_rfl),fun M w vs hM hv=>?_⟩
 match vs,hv with
 | [v0,v1,v2],⟨k0,⟨us,k1,hus⟩,⟨fs,k2,hfs⟩,_⟩=>
   obtain⟨ts,a,cap,rfl,hq,hsl⟩:=bA7 k0 hp;obtain⟨iq⟩:=aQ9 M w B hB
   haveI:Inhabited (QV M w B):=⟨iq⟩
   subst k1 k2
   match us,hus,fs,hfs with
   | [z0,z1,z2],hus,[xp],hfs=>
     have hlen:ps.length=ts.length:=by rw[<-hq,aI]
     rw[hlen]at hl;have h1:=aj5 M w B C x hx hM hB a cap ts (by have:=kd ts.length (show 0<B+C+1 by omega);omega) hl hsl z0 z1 z2 hus xp hfs.1;rw[bZ8,hq]at h1;refine((au (n:=1001)).1 h1).mono ?_;rintro e w' ⟨hb,u0,u1,u2,rfl,hr⟩;exact⟨hb,[.agg #[u0,u1,u2]],rfl,⟨[u0,u1,u2],rfl,hr⟩,trivial⟩
   | [],hus,_,_=>exact hus.elim
   | [_],hus,_,_=>exact hus.2.elim
   | [_,_],hus,_,_=>exact hus.2.2.elim
   | _::_::_::_::_,hus,_,_=>exact hus.2.2.2.elim
   | [_,_,_],_,[],hfs=>exact hfs.elim
   | [_,_,_],_,_::_::_,hfs=>exact hfs.2.elim
 | [],hv=>exact hv.elim
 | [_],hv=>exact hv.2.elim
 | [_,_],hv=>exact hv.2.2.elim
 | _::_::_::_::_,hv=>exact hv.2.2.2.elim
def cg2:Tr:=fO 177 [(W 0 0),(.agg [tN,(tE (.bool false)),tN]),(.one (.gp 178 [(.ref 0 [(.u 1 0),(.u 1 1),(.u 1 2)])]))] [(some 3)] [5,6,7] [98,46,164] 46 true (kZ 2 2 2)
theorem aV5:aV prog f79 ck [.v none,.v (some 3)]=cg2:=by kernel_rfl
theorem aa0(ps:List Rat)(c:Rat)(B:Nat)(hp:∀q∈ps,Fit B q)(hc:Fit B c)(hB:1<=B:=by omega)(hl:ps.length*(2*B+2)+2*B+2<=4294967296:=by omega):aU prog 79 [(.one (sQ ps):aN),(qT c:aN)] (.ret [qT (tX ps c)]):=by
 refine dL func79 aV5 ?_;have hl2:ps.length*(B+B+1)<=ps.length*(2*B+2):=dr _ (by omega);refine Mv (show aZ [.one (sQ ps),.agg [.exact (.slice none 0 0),.bool false,.exact (.slice none 0 0)],.one (.gp 178 [.aw (qC c)])] [.one (sQ ps),qT 0,.one (.gp 178 [.aw (qC c)])]from⟨aN.Sub.same,nA,aN.Sub.same,trivial⟩) (WE ps c B B hB hp hc) rfl ?_;exact aL
end Go.Sy
