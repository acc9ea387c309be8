/- Part. -/
import Derived.Test.YtdmcadckdnnglaaGreatDoorRa
import Derived.Laws.Cover3
import Derived.Shelf.Strings.BuilderK
import Derived.Shelf.Strconv.Itoa3
import Derived.Shelf.Strings.Repeat
import Derived.RangeFuncNested
set_option linter.all false
set_option maxHeartbeats 2000000
set_option maxRecDepth 100000
namespace Go.Sy
def qq:=@Go.CallsIn.inRound
def Lq:=@Go.Lib.byteCells_append
def KJ:=@Go.Lib.strCells_eq
open Go Go.Proofs Tryz Ord
def bN7:Tr:=.need (.prim [(W 0 0),(.one (.c (.k (.slice none 0 0))))] none) (.binOp .eql 72 (tT 3) (.const (.slice none 0 0)) 72) 4 false (aH 1 0 (hx306Q ) (.need (.lit 3 []) (.buildSlice 72 0 #[]) 72 false (af2 3 56 2 0 5 6 72 (uw 3 3))))
def MW:aM prog f113 bZ [.v none]=bN7:=by kernel_rfl
def Xb:Tr:=.back 0 [lV 9 0]
def XH:Tr:=fP 2 1 17 Xb
def ad8:Tr:=bI 10
def bw2:Tr:=gb 0 0 4 0 72 9 11 (dB 5 3 39 12 (uP 35 6 0 1 2 13 39 3 (eH 7 0 0 3 14 (aH 8 0 XH (CT 2 72 19 20 (qt 113 9 21 72 72 ad8))))))
def bG6:Tr:=au 0 0 4 72 (Fc 1 (fL 2 0 0 3 6 (aH 3 0 (fP 2 1 10 bw2) (CT 2 72 19 20 (qt 113 4 21 72 72 (bI 5))))))
def ao8:aM prog f34 bZ [.v none]=bG6:=by kernel_rfl
def aO8:Tr:=fP 2 1 5 (bI 3)
def bB8:Tr:=xX 34 0 3 72 72 (au 1 0 4 72 aO8)
def Vi:aM prog f95 bZ [.v none]=bB8:=by kernel_rfl
def bE9:Tr:=dB 5 4 49 12 (dV 46 [(G4 6)] [none] [13] [49] 3 false (eH 7 0 0 3 14 (aH 8 0 XH (CT 2 167 19 20 (RX 4 64 9 21 167 (uw 4 10))))))
def bz2:Tr:=au 0 0 4 167 (Fc 1 (fL 2 0 0 3 6 (aH 3 0 (fP 2 1 10 (gb 0 0 4 0 167 9 11 bE9)) (CT 2 167 19 20 (RX 4 64 4 21 167 (uw 4 5))))))
def ay9:aM prog f144 bZ [.v none]=bz2:=by kernel_rfl
def bI0:Tr:=xX 144 0 3 167 167 (au 1 0 4 167 aO8)
def VM:aM prog f96 bZ [.v none]=bI0:=by kernel_rfl
def aE.aw4:aE where
 rep:=fun _ _ v=>∃cap,v=.slice none 0 cap/\cap<=maxLen
 mono:=fun _ h=>h
 one:=by rintro M w v ⟨cap,rfl,_⟩;rfl
def aE.nnS(sz:Nat)(ts:List (List aE)):aE where
 rep:=fun M w v=>(aE.slice sz ts).rep M w v/\∃a l c,v=.slice (some a) l c
 mono:=fun hk h=>⟨aE.mono _ hk h.1,h.2⟩
 one:=fun h=>aE.one _ h.1
def aE.Sub.nn{sz:Nat}{ts:List (List aE)}:(aE.nnS sz ts).Sub (.slice sz ts):=
 .inr ⟨fun M w v h=>by obtain⟨_,a,l,c,rfl⟩:=h;exact⟨some a,l,c,rfl⟩,fun M w v h=>h.1⟩
def ON{sz:Nat}{ts:List (List aE)}{M:Nat->Prop}{w:World}{v:Value}(h:(aE.slice sz ts).rep M w v):(ts=[]/\aE.aw4.rep M w v)\/(aE.nnS sz ts).rep M w v:=by
 have h0:=h;obtain⟨a,cap,rfl,hc,hm,hel⟩:=h;cases a with
 | some a=>exact .inr ⟨h0,a,_,_,rfl⟩
 | none=>
   rcases hel with rfl | ⟨b,off,cs,T,fz,e,_⟩
   ·exact .inl ⟨rfl,cap,rfl,hm⟩
   ·cases e
def QM{P:Program}{f:FuncId}{sz:Nat}{ts:List (List aE)}{out:Out}(h1:ts=[]->aL P f [.one .aw4] out)(h2:aL P f [.one (.nnS sz ts)] out):aL P f [.one (.slice sz ts)] out:=by
 refine⟨h2.1,fun M w vs hM hv=>?_⟩
 match vs,hv with
 | [v],hv=>
   rcases ON hv.1 with⟨e,h⟩ | h
   ·exact(h1 e).2 M w [v] hM ⟨h,trivial⟩
   ·exact h2.2 M w [v] hM ⟨h,trivial⟩
 | [],hv=>exact hv.elim
 | _::_::_,hv=>exact hv.2.elim
section
variable{P:Program}{T U ty:TypeId}{x y:Operand}
def bp2{E sz b:Nat}(h:dI P T=some (E,sz,b)):af P (.binOp .eql T x y U) ty [.one .aw4,.one (.exact (.slice none 0 0))] (.one (.bool true)):=by
 obtain⟨ie,hu,_⟩:=cg h;intro M w ρ o ho ht hr;obtain⟨hx,hy⟩:=rN (x:=x) (y:=y) hr;obtain⟨cap,hx,_⟩:=hx;have hy:ρ y=.slice none 0 0/\_:=hy;refine⟨.bool true,?_,⟨rfl,rfl⟩⟩;simp[execOp,ho,hx,hy.1,eqGuard,binOp,run_equal_slice_nil w T E none 0 cap hu]
def bi7{E sz b sz':Nat}{ts:List (List aE)}(h:dI P T=some (E,sz,b)):af P (.binOp .eql T x y U) ty [.one (.nnS sz' ts),.one (.exact (.slice none 0 0))] (.one (.bool false)):=by
 obtain⟨ie,hu,_⟩:=cg h;intro M w ρ o ho ht hr;obtain⟨hx,hy⟩:=rN (x:=x) (y:=y) hr;obtain⟨_,a,l,c,hx⟩:=hx;have hy:ρ y=.slice none 0 0/\_:=hy;refine⟨.bool false,?_,⟨rfl,rfl⟩⟩;simp[execOp,ho,hx,hy.1,eqGuard,binOp,run_equal_slice_nil w T E (some a) l c hu]
end
def Wc  :aL prog 113 [(.one .aw4:aG)] (.ret [.one (.slice 3 [])]):=by
 refine bw func113 MW ?_;apply vn (bp2 jq);refine lR true rfl (fun _=>?_) (fun h=>by cases h);exact dJ ⟨aE.Sub.nil,trivial⟩
def UH(ts:List (List aE))(hs:ts.length<1099511627776):aL prog 113 [(.one (.nnS 3 ts):aG)] (.ret [.one (.slice 3 ts)]):=by
 refine bw func113 MW ?_;apply vn (bi7 jq);refine lR false rfl (fun h=>by cases h) (fun _=>?_);apply bF (us:=[]);refine pK (ts:=[]) (us:=ts) (vs:=ts) rfl (.inr aE.Sub.nn) rfl O (by simp only[maxLen];omega) ?_;exact aK
def Ph(ts:List (List aE))(hs:ts.length<1099511627776):aL prog 113 [.one (.slice 3 ts)] (.ret [.one (.slice 3 ts)]):=
 QM (fun e=>by subst e;exact Wc) (UH ts hs)
def cz{α:Type}(z:α->Bool):List α->Nat
 | []=>0
 | x::xs=>if cz z xs=0/\z x=true then 0 else cz z xs+1
theorem iI{α:Type}{z:α->Bool}:∀l:List α,cz z l<=l.length
 | []=>aY _
 | x::xs=>by
   have:=iI (z:=z) xs;simp only[cz,List.length_cons];split<;>omega
theorem td{α:Type}{z:α->Bool}:∀{l:List α}{n:Nat},n<=l.length->(∀i x,n<=i->l[i]?=some x->z x=true)->(n=0\/∃x,l[n-1]?=some x/\z x=false)->cz z l=n
 | [],n,h,_,_=>by simp at h;subst h;rfl
 | x::xs,n,h,h1,h2=>by
   cases n with
   | zero=>
     have h3:=td (z:=z) (l:=xs) (n:=0) (bO _) (fun i y _ hy=>h1 (i+1) y (bO _) (by simpa using hy)) (.inl rfl);have h4:=h1 0 x (bO _) rfl;simp[cz,h3,h4]
   | succ n=>
     have h3:=td (z:=z) (l:=xs) (n:=n) (by simpa using h) (fun i y hi hy=>h1 (i+1) y O (by simpa using hy)) (by
      cases n with
      | zero=>exact .inl rfl
      | succ n=>
        rcases h2 with h2 | ⟨y,hy,hz⟩
        ·omega
        ·exact .inr ⟨y,by simpa using hy,hz⟩)
     simp only[cz,h3];rw[if_neg];rintro⟨h4,h5⟩;subst h4;rcases h2 with h2 | ⟨y,hy,hz⟩
     ·omega
     ·simp at hy;subst hy;rw[h5]at hz;cases hz
theorem Fo{α β:Type}{z:β->Bool}(f:α->β):∀l:List α,cz z (l.map f)=cz (fun a=>z (f a)) l
 | []=>rfl
 | x::xs=>by simp only[dY,cz,Fo f xs]
abbrev rQ(ps:List Rat):List (List aE):=ps.map qC
abbrev sQ(ps:List Rat):aE:=.slice 3 (rQ ps)
abbrev rR(ps:List RQ):List (List aE):=ps.map rC
abbrev sR(ps:List RQ):aE:=.slice 4 (rR ps)
def zr(q:Rat):Bool:=decide (q=0)
def Rb(a:RQ):Bool:=decide (a.q=0)
def trim(ps:List Rat):List Rat:=ps.take (cz zr ps)
def eS(ps:List RQ):List RQ:=ps.take (cz Rb ps)
def pq(ps:List RQ):(eS ps).map RQ.q=trim (ps.map RQ.q):=by
 rw[trim,Fo,eS,lx];rfl
def Bz{q:Rat}:zr q=decide (q.num.sign=0):=by rw[zr,lE];exact sign_zero.symm
def gz(ps:List Rat):(trim ps).length=cz zr ps:=by rw[trim,List.length_take];have:=iI (z:=zr) ps;omega
def vx(ps:List RQ):(eS ps).length=cz Rb ps:=by rw[eS,List.length_take];have:=iI (z:=Rb) ps;omega
def wz{E sz b T:Nat}{α:Type}{f:α->List aE}{ds:List α}{x:Operand}{ty:Nat}{y:Operand}{k:IntKind}{n:Int}{m:Nat}(h:dI prog T=some (E,sz,b))(h0:0<=n:=by omega)(hm:n.toNat=m:=by omega)(hn:m<=ds.length:=by omega):af prog (.slice T x none (some y) none) ty [.one (.slice sz (ds.map f)),.one (.int k n)] (.one (.slice sz ((ds.take m).map f))):=by
 have:=IE (P:=prog) (T:=T) (x:=x) (y:=y) (ty:=ty) (k:=k) (n:=n) (ts:=ds.map f) h h0 (by rw[aR,hm];exact hn);rw[hm,<-lx]at this;exact this
def xn(ps:List Rat)(hs:ps.length<1099511627776):aL prog 34 [(.one (sQ ps):aG)] (.ret [.one (sQ (trim ps))]):=by
 refine bw func34 ao8 ?_;apply vn (aU jq (aR _));refine ao {n:Nat // n<=ps.length/\∀i q,n<=i->ps[i]?=some q->zr q=true} (fun g=>[.one (.int .i64 g.1)]) (fun g=>g.1) ⟨ps.length,aY _,fun i q hi hq=>by have:=(dn.1 hq).1;omega⟩ aQ.rfl (fun _=>rfl) ?_;rintro⟨n,hn,hz⟩;dsimp only[aO,aP]at hn hz|-;apply vn dZ;refine vs _ rfl ?_ ?_<;>intro h3
 ·apply vn aJ;dsimp only[aO,aP];obtain⟨q,hq⟩:∃q,ps[n-1]?=some q:=⟨_,ay O⟩
  apply vn (aZ jq hq);apply vn (bB ov (by decide) (by simp) (.inl rfl));apply aA (oN q);apply vn bK;refine vs _ rfl ?_ ?_<;>intro h9
  ·apply vn aJ
   exact aW rfl ⟨⟨n-1,O,fun i r hi hr=>by
    rcases Nat.lt_or_ge i n with h | h
    ·rw[show i=n-1 by omega,hq]at hr;simp only[aI]at hr;subst hr;rw[Bz];simpa using h9
    ·exact hz i r h hr⟩,⟨aG.Sub.of_eq (congrArg (fun q=>aG.one (aE.int .i64 q)) (by show(n:Int)-1=((n-1:Nat):Int);omega)),trivial⟩,by show n-1<n;omega⟩
  apply vn (wz jq O O hn);dsimp only[aO,aP];have ht:=td hn hz (.inr ⟨q,hq,by rw[Bz];simpa using h9⟩);apply aA (Ph _ (by rw[aR,List.length_take];omega)) rfl;dsimp only[aO,aP];rw[trim,ht];exact aK
 apply vn (wz jq O O hn);dsimp only[aO,aP];have ht:=td hn hz (.inl O);apply aA (Ph _ (by rw[aR,List.length_take];omega)) rfl;dsimp only[aO,aP];rw[trim,ht];exact aK
def ye(ps:List Rat)(hs:ps.length<1099511627776):aL prog 95 [(.one (sQ ps):aG)] (.ret [.one (.int .i64 ((cz zr ps:Int)-1))]):=by
 refine bw func95 Vi ?_;have hle:=iI (z:=zr) ps;have htl:=gz ps;apply aA (xn ps hs);apply vn (aU jq (aR _));apply vn aJ;dsimp only[aO,aP];rw[<-htl];exact aK
def tl(ps:List RQ)(hs:ps.length<1099511627776):aL prog 144 [(.one (sR ps):aG)] (.ret [.one (sR (eS ps))]):=by
 refine bw func144 ay9 ?_;apply vn (aU fg (aR _));refine ao {n:Nat // n<=ps.length/\∀i q,n<=i->ps[i]?=some q->Rb q=true} (fun g=>[.one (.int .i64 g.1)]) (fun g=>g.1) ⟨ps.length,aY _,fun i q hi hq=>by have:=(dn.1 hq).1;omega⟩ aQ.rfl (fun _=>rfl) ?_;rintro⟨n,hn,hz⟩;dsimp only[aO,aP]at hn hz|-;apply vn dZ;refine vs _ rfl ?_ ?_<;>intro h3
 ·apply vn aJ;dsimp only[aO,aP];obtain⟨q,hq⟩:∃q,ps[n-1]?=some q:=⟨_,ay O⟩
  apply vn (aZ fg hq);apply vn (bB DV (by decide) (by simp) (.inl rfl));apply aA (at5 q);apply vn bK;refine vs _ rfl ?_ ?_<;>intro h9
  ·apply vn aJ
   exact aW rfl ⟨⟨n-1,O,fun i r hi hr=>by
    rcases Nat.lt_or_ge i n with h | h
    ·rw[show i=n-1 by omega,hq]at hr;simp only[aI]at hr;subst hr;show zr q.q=true;rw[Bz];simpa using h9
    ·exact hz i r h hr⟩,⟨aG.Sub.of_eq (congrArg (fun q=>aG.one (aE.int .i64 q)) (by show(n:Int)-1=((n-1:Nat):Int);omega)),trivial⟩,by show n-1<n;omega⟩
  apply vn (wz fg O O hn);dsimp only[aO,aP];have ht:=td (z:=Rb) hn hz (.inr ⟨q,hq,by show zr q.q=false;rw[Bz];simpa using h9⟩);refine pK (ts:=[]) (us:=rR (ps.take n)) (vs:=rR (ps.take n)) rfl (.inr aE.Sub.same) rfl (by rw[aR,List.length_take];omega) (by rw[aR,List.length_take];simp only[maxLen];omega) ?_;dsimp only[aO,aP];rw[eS,ht];exact aK
 apply vn (wz fg O O hn);dsimp only[aO,aP];have ht:=td (z:=Rb) hn hz (.inl O);refine pK (ts:=[]) (us:=rR (ps.take n)) (vs:=rR (ps.take n)) rfl (.inr aE.Sub.same) rfl (by rw[aR,List.length_take];omega) (by rw[aR,List.length_take];simp only[maxLen];omega) ?_;dsimp only[aO,aP];rw[eS,ht];exact aK
def IB(ps:List RQ)(hs:ps.length<1099511627776):aL prog 96 [(.one (sR ps):aG)] (.ret [.one (.int .i64 ((cz Rb ps:Int)-1))]):=by
 refine bw func96 VM ?_;have hle:=iI (z:=Rb) ps;have htl:=vx ps;apply aA (tl ps hs);apply vn (aU fg (aR _));apply vn aJ;dsimp only[aO,aP];rw[<-htl];exact aK
open Go Go.Proofs Go.RowKit Go.Shelf Tryz Ord
attribute [local go_sem] Oper.semAt_some
section
variable{α:Type}[Inhabited α]{e0 e1 e2:α->Value}
def VF(l Bs n₀ b off cap:Nat)(vs:List α)(hlen:vs.length<4611686018427387904)(hb:b<n₀)(J Jx:List (Nat×α)->World->Prop)
  (hY:∀pre x W,J pre W->pre.length<vs.length->YieldAt Fence.wide (1000-1) prog l #[.int .i64 (x.1:Int),(.agg #[e0 x.2,e1 x.2,e2 x.2])] W fun e W'=>
   (e=.returned (.bool true)/\J (pre++[x]) W'/\KpB n₀ Bs W W')\/(e=.returned (.bool false)/\Jx (pre++[x]) W'))
  (W:World) (hBs:W.cell? ⟨Bs,0,none⟩=some (.slice (some ⟨b,off,none⟩) vs.length cap)) (hc:∀j v,vs[j]?=some v->W.cell? ⟨b,off+j*3,none⟩=some (e0 v)/\W.cell? ⟨b,off+j*3+1,none⟩=some (e1 v)/\W.cell? ⟨b,off+j*3+2,none⟩=some (e2 v)) (h0:J [] W) :
  CallsIn Fence.wide 1000 prog 281 #[.func (.yield l) #[] #[],.pointer (some ⟨Bs,0,none⟩)] W fun e W'=>(∃v,e=.returned v) /\
   ((∃ys,ys=bk vs vs.length/\J ys W')\/(∃pre,(∃k,k<=vs.length/\pre=bk vs k)/\Jx pre W')):=by
 refine kV func281 rfl trivial ?_ rfl;simp only[ntmps281,dW,List.length_cons,bq,Nat.reduceAdd,Nat.reduceSub,dw,dv,du,dz,List.nil_append,List.cons_append];obtain⟨N,hN⟩:∃N,vs.length=N:=⟨_,rfl⟩
 rw[hN]at hBs hY hlen|-
 gi_wp2
 gi_loopw [3] (fun i wr=>∃k:Nat,k<=N/\i=.int .i64 ((N:Int)-1-k)/\J (bk vs k) wr/\Below n₀ W wr/\wr.cell? ⟨Bs,0,none⟩=some (.slice (some ⟨b,off,none⟩) N cap))
  (fun i _=>(intOf i+1).toNat)
 case atStart=>exact⟨0,bO _,by simp,h0,cF _ _,hBs⟩
 case round=>
  obtain⟨k,hk,rfl,hJs,hnx,hBx⟩:=hrel;have hmeas:(intOf (.int .i64 ((N:Int)-1-k))+1).toNat=N-k:=by simp[intOf];omega
  by_cases hlt:k<N
  ·have hv:vs[N-1-k]?=some (vs[N-1-k]?.getD default):=by rw[ay O];rfl
   obtain⟨hx0,hx1,hx2⟩:=hc _ _ hv;have hcx0:=(hnx.cell (p:=⟨b,off+(N-1-k)*3,none⟩) hb).trans hx0;have hcx1:=(hnx.cell (p:=⟨b,off+(N-1-k)*3+1,none⟩) hb).trans hx1;have hcx2:=(hnx.cell (p:=⟨b,off+(N-1-k)*3+2,none⟩) hb).trans hx2;clear hx0 hx1 hx2;obtain⟨fn,tmps,assign,body,hy,hR⟩:=hY _ (N-1-k,vs[N-1-k]?.getD default) wr hJs (by rw[Ih];exact hlt);generalize hx:vs[N-1-k]?.getD default=x at hy hR hcx0 hcx1 hcx2;have hsucc:bk vs (k+1)=bk vs k++[(N-1-k,x)]:=by rw[La,hN,hx]
   have e1:(N:Int)-1-k=((N-1-k:Nat):Int):=O
   have hn1:N-1-k<N:=O
   rw[e1]
   gi_wp2
   refine hR.mono ?_;rintro e W3 (⟨rfl,hJ3,hk3⟩ | ⟨rfl,hJx3⟩)
   ·gi_wp2
    go_roundw
    case rel=>exact⟨k+1,O,by congr 1;omega,by rw[hsucc];exact hJ3,hnx.trans hk3.1,hk3.2 _ hBx⟩
    case measure=>simp[intOf]
   ·gi_wp2
    refine bodyPost_ret (Bt rfl _ _ _) rfl ?_;exact⟨⟨_,rfl⟩,.inr ⟨_,⟨k+1,O,rfl⟩,by rw[hsucc];exact hJx3⟩⟩
  ·obtain rfl:k=N:=O
   gi_wp2
   go_end0
   exact⟨⟨_,rfl⟩,.inl ⟨_,rfl,hJs⟩⟩
def PI{α:Type}(l Bs:Nat)(a:Option Addr)(cap:Nat)(J:List (Nat×α)->World->Prop)(W:World)(hBs:W.cell? ⟨Bs,0,none⟩=some (.slice a 0 cap))(h0:J [] W) :
  CallsIn Fence.wide 1000 prog 281 #[.func (.yield l) #[] #[],.pointer (some ⟨Bs,0,none⟩)] W fun e W'=>(∃v,e=.returned v)/\J [] W':=by
 refine kV func281 rfl trivial ?_ rfl;simp only[ntmps281,dW,List.length_cons,bq,Nat.reduceAdd,Nat.reduceSub,dw,dv,du,dz,List.nil_append,List.cons_append]
 gi_wp2
 gi_loopw [3] (fun i wr=>i=.int .i64 (-1)/\J [] wr) (fun _ _=>0)
 case atStart=>exact⟨rfl,h0⟩
 case round=>
  obtain⟨rfl,hJs⟩:=hrel
  gi_wp2
  go_end0
  exact⟨⟨_,rfl⟩,hJs⟩
def Po(n:Nat)(a:Option Addr)(len cap:Nat)(w:World) :
  CallsIn Fence.wide n prog 248 #[.slice a len cap] w fun e w'=>e=.returned (.func (.func 281) #[] #[.pointer (some ⟨w.heap.size,0,none⟩)])/\w'=w.alloc (.cells #[.slice a len cap] 72):=by
 refine kV func248 rfl trivial ?_ rfl;simp only[ntmps248,dW,List.length_cons,bq,Nat.reduceAdd,Nat.reduceSub,dw,dv,du,dz,List.nil_append,List.cons_append]
 gi_wp2
 go_ret
 exact⟨rfl,rfl⟩
def Sl3(e0 e1 e2:α->Value)(n₀:Nat)(W:World)(sv:Value)(vs:List α):Prop:=
 ∃a cap,sv=.slice a vs.length cap/\(vs=[]\/∃b off,a=some ⟨b,off,none⟩/\b<n₀/\∀j v,vs[j]?=some v->W.cell? ⟨b,off+j*3,none⟩=some (e0 v)/\W.cell? ⟨b,off+j*3+1,none⟩=some (e1 v)/\W.cell? ⟨b,off+j*3+2,none⟩=some (e2 v))
def Sl3.below{α:Type}{e0 e1 e2:α->Value}{n₀:Nat}{A B:World}(h:Below n₀ A B){sv:Value}{vs:List α}:Sl3 e0 e1 e2 n₀ A sv vs->Sl3 e0 e1 e2 n₀ B sv vs:=by
 rintro⟨a,cap,e,rfl | ⟨b,off,rfl,hb,hc⟩⟩
 ·exact⟨a,cap,e,.inl rfl⟩
 ·exact⟨_,cap,e,.inr ⟨b,off,rfl,hb,fun j v hj=>⟨(h.cell (p:=⟨b,off+j*3,none⟩) hb).trans (hc j v hj).1,(h.cell (p:=⟨b,off+j*3+1,none⟩) hb).trans (hc j v hj).2.1,(h.cell (p:=⟨b,off+j*3+2,none⟩) hb).trans (hc j v hj).2.2⟩⟩⟩
def zZ(Bs n₀:Nat)(sv:Value)(vs:List α)(hlen:vs.length<4611686018427387904)(w:World)(hBs:Bs<w.heap.size)(hn₀:n₀<=w.heap.size)
  (hc:w.cell? ⟨Bs,0,none⟩=some sv) (hI:Sl3 e0 e1 e2 n₀ w sv vs) :
  SeqStopsK Fence.wide 1000 prog 281 #[.pointer (some ⟨Bs,0,none⟩)] (fun x:Nat×α=>#[Value.int .i64 (x.1:Int),(Value.agg #[e0 x.2,e1 x.2,e2 x.2])]) (KpB n₀ Bs) (fun ys=>ys=bk vs vs.length) (fun pre=>∃k,k<=vs.length/\pre=bk vs k) vs.length w:=fun l J Jx W hW _ _ hY h0=>by
 have hc':=(hW.cell (p:=⟨Bs,0,none⟩) hBs).trans hc;obtain⟨a,cap,rfl,rfl | ⟨b,off,rfl,hb,hcs⟩⟩:=hI.below (hW.mono hn₀)
 ·exact(PI (α:=α) l Bs a cap J W hc' h0).mono fun e W' ⟨he,hj⟩=>⟨he,.inl ⟨_,rfl,hj⟩⟩
 ·exact(VF (e0:=e0) (e1:=e1) (e2:=e2) l Bs n₀ b off cap vs hlen hb J Jx hY W hc' hcs h0)
end
end Go.Sy
namespace Go.Sy
open Go Go.Proofs Tryz Ord
def bO1:Tr:=zd 0 2 4 31 (cU 5 13 0 5 29 32 4 (aH 14 0 (uQ 36 6 7 0 8 0 2 2 1 2 2 36 37 (jv 104 9 10 0 11 0 12 0 4 39 40 (KM 5 34 (.back 0 [lV 17 0,lV 15 0,lV 15 1,lV 15 2,lV 16 0,lV 16 1,lV 16 2,lV 16 3])))) (.ret [(.agg [(U 6 0),(U 7 0),(U 8 0)]),(.agg [(U 9 0),(U 10 0),(U 11 0),(U 12 0)])])))
def aN5:Tr:=.loop 0 [(.w (.one (.c (.k (.int .u8 0))))),lV 2 0,lV 2 1,lV 2 2,lV 4 0,lV 4 1,lV 4 2,lV 4 3] bO1
def bF4:Tr:=eH 0 1 0 2 11 (aH 1 0 (dV 120 [(W 0 0),(WK 1)] [(some 3),none] [16,18] [2,2] 90 false (dV 79 [(W 0 0),(WK 1)] [(some 4)] [23,25] [2,2] 49 true aN5)) (No 120 0 0 1 3 16 18 2 2 90 (Il 79 0 0 1 4 23 25 2 2 49 aN5)))
def aJ7:aM prog f40 bZ [.v (some 3)]=bF4:=by kernel_rfl
def bI6:Tr:=Td 7 0 1 2 19 (KC 8 40 24 (gU 3 56 2 10 23 25 40 (pg 9 50 28 (gU 4 64 3 12 27 29 50 (bD 1 1 3 13 (LK 14 11 13))))))
def bK4:Tr:=.loop 0 [lK 0,.nilrow,.nilrow] (au 0 0 10 27 (cU 1 4 0 3 9 11 4 (aH 5 0 (gb 0 0 1 0 27 16 17 (dB 6 3 26 18 bI6)) (Rk 3 2 4 3))))
def ap0:aM prog f71 bZ [.v none]=bK4:=by kernel_rfl
def QI:Tr:=bI 6
def om:Tr:=hx163Q 
def bK1:Tr:=jb 0 0 999 2 9 (aH 3 0 (qA .geq 2 14 (-999) 0 0 4 (aH 4 0 (jb 0 1 999 2 19 (aH 5 0 (qA .geq 2 24 (-999) 0 1 4 QI) om)) om)) om)
def bH8:Tr:=zd 0 2 4 4 (gI 1 0 5 (aH 2 0 bK1 om))
def ak9:aM prog f39 bZ [.v (some 3)]=bH8:=by kernel_rfl
def br2:Tr:=aH 22 0 om (fL 18 1 99 2 54 (aH 23 0 om (iJ 18 1 (-99) 2 59 (aH 24 0 om (bD 10 1 3 28 (jj 1 9 25))))))
def bf4:Tr:=dB 17 3 26 36 (zd 18 2 4 39 (.need (.prim [(W 19 0),(.one (.c (.k (.int .u8 0))))] none) (.binOp .neq 5 (tT 40) (.const (.int .u8 0)) 5) 4 false (aH 20 0 om (fL 18 0 99 2 44 (aH 21 0 om (iJ 18 0 (-99) 2 49 br2))))))
def aQ1:Tr:=bm 11 27 24 (au 12 0 25 27 (cU 10 13 0 3 20 26 4 (aH 14 0 (gb 0 0 2 0 22 31 32 (bm 15 27 33 (gb 16 0 10 0 27 34 35 bf4))) (bD 2 1 3 11 (jj 0 9 15)))))
def bx9:Tr:=gb 0 0 2 0 22 14 15 (bm 5 27 16 (au 6 0 17 27 (fL 7 0 4 3 18 (aH 8 0 om (.loop 1 [lV 1 0,lK 0] (gb 0 0 2 0 22 22 23 aQ1))))))
def bK6:Tr:=Qj (au 0 0 8 22 (cU 2 3 0 3 6 9 4 (aH 4 0 bx9 (au 0 0 63 22 (jb 5 0 6 3 64 QI)))))
def JQ:aM prog f55 bZ [.v (some 2)]=bK6:=by kernel_rfl
structure bH where
 n:Int
 d:Int
 pow:Nat
abbrev nC(x:bH):List aE:=[.int .i64 x.n,.int .i64 x.d,.int .u8 x.pow]
abbrev nT(x:bH):aG:=.agg (nC x)
abbrev sN(l:List bH):aE:=.slice 3 (l.map nC)
structure bH.In(x:bH):Prop where
 n1:-9223372036854775808<=x.n
 n2:x.n<9223372036854775808
 d1:-9223372036854775808<=x.d
 d2:x.d<9223372036854775808
 p:x.pow<256
def bH.b(x:bH):Rat:=(x.n:Rat)/((if x.d=0 then 1 else x.d:Int):Rat)
def bH.v(x:bH):Rat:=x.b^(x.pow%4+1)
theorem _root_.Ord.Fit.pow{B:Nat}{q:Rat}(h:Fit B q)(hB:1<=B):∀n,Fit (B*n+1) (q^n)
 | 0=>by rw[ej];exact(Fit.int (n:=1) (B:=1) O (by decide)).mono O
 | n+1=>by
   rw[gM];exact((Ord.Fit.pow h hB n).mul h).mono (by rw[Nat.mul_add];omega)
def bH.In.fit{x:bH}(h:x.In):Fit 128 x.b:=by
 unfold bH.b;split
 ·exact(eW h.n1 h.n2).div (eW (n:=1))
 ·exact(eW h.n1 h.n2).div (eW h.d1 h.d2)
def bH.In.ay0{x:bH}(h:x.In):Fit 513 x.v:=(h.fit.pow O _).mono O
def Cj(x:bH)(h:x.In):aL prog 40 [(nT x:aG)] (.ret [qT x.v,lT (.of x.v)]):=by
 refine bw func40 aJ7 ?_;have h1:=h.n1;have h2:=h.n2;have h3:=h.d1;have h4:=h.d2;have h5:=h.p;have hf:=h.fit;have hp:=fun i=>hf.pow O i
 have hm1:∀i,i<4->aL prog 36 [qT (x.b^(i+1)),qT x.b] (.ret [qT (x.b^(i+1+1))]):=fun i hi=>by
  have:=bg (x.b^(i+1)) x.b _ _ (hp (i+1)) hf;rw[<-gM]at this;exact this
 have hm2:∀i,i<4->aL prog 104 [lT (.of (x.b^(i+1))),lT (.of x.b)] (.ret [lT (.of (x.b^(i+1+1)))]):=fun i hi=>by
  have:=sX (.of (x.b^(i+1))) (.of x.b) _ _ (hp (i+1)) hf;rw[RQ.ZD,RQ.ZD,<-gM]at this;exact this
 apply vn bK;refine vs _ rfl ?_ ?_<;>intro h1
 ·have hb:x.b=(x.n:Rat)/((1:Int):Rat):=by rw[bH.b,if_pos h1]
  have ho:=aA5 x.n 1 h.n1 h2;rw[if_neg O,if_neg O,<-hb]at ho;apply aA ho;dsimp only[aO,aP];have ho:=YY x.n 1 h.n1 h2;rw[<-hb]at ho;apply aA ho
  refine ao {i:Nat // i<=x.pow%4} (fun g=>[.one (.int .u8 g.1),.one (dT (x.b^(g.1+1)).num.natAbs),.one (.bool (decide ((x.b^(g.1+1)).num<0))),.one (dT ((x.b^(g.1+1)).den-1)),.one (.int .i64 (x.b^(g.1+1)).num.sign),.one (bT (x.b^(g.1+1)).num.natAbs),.one (.int .i64 1),.one (bT (x.b^(g.1+1)).den)]) (fun g=>x.pow%4-g.1) ⟨0,bO _⟩ (by
   have e:x.b^(0+1)=x.b:=by rw[gM,ej,iB]
   simp only[e];exact aQ.rfl) (fun _=>rfl) ?_
  rintro⟨i,hi⟩;dsimp only[aO,aP]at hi|-;apply vn dd;apply vn ak;refine vs _ rfl ?_ ?_<;>intro h7
  ·apply aA (hm1 i O);apply aA (hm2 i O);apply vn Nx;dsimp only[aO,aP];exact aW rfl ⟨⟨i+1,O⟩,aQ.rfl,by show x.pow%4-(i+1)<x.pow%4-i;omega⟩
  have hie:i=x.pow%4:=O
  subst hie;exact aK
 have hb:x.b=(x.n:Rat)/(x.d:Rat):=by rw[bH.b,if_neg h1]
 have ho:=aA5 x.n x.d h.n1 h2 h3 h4;rw[if_neg h1,if_neg h1,<-hb]at ho;apply aA ho;dsimp only[aO,aP];have ho:=YY x.n x.d h.n1 h2 h1 h3 h4;rw[<-hb]at ho;apply aA ho
 refine ao {i:Nat // i<=x.pow%4} (fun g=>[.one (.int .u8 g.1),.one (dT (x.b^(g.1+1)).num.natAbs),.one (.bool (decide ((x.b^(g.1+1)).num<0))),.one (dT ((x.b^(g.1+1)).den-1)),.one (.int .i64 (x.b^(g.1+1)).num.sign),.one (bT (x.b^(g.1+1)).num.natAbs),.one (.int .i64 1),.one (bT (x.b^(g.1+1)).den)]) (fun g=>x.pow%4-g.1) ⟨0,bO _⟩ (by
  have e:x.b^(0+1)=x.b:=by rw[gM,ej,iB]
  simp only[e];exact aQ.rfl) (fun _=>rfl) ?_
 rintro⟨i,hi⟩;dsimp only[aO,aP]at hi|-;apply vn dd;apply vn ak;refine vs _ rfl ?_ ?_<;>intro h18
 ·apply aA (hm1 i O);apply aA (hm2 i O);apply vn Nx;dsimp only[aO,aP];exact aW rfl ⟨⟨i+1,O⟩,aQ.rfl,by show x.pow%4-(i+1)<x.pow%4-i;omega⟩
 have hie:i=x.pow%4:=O
 subst hie;exact aK
def cT(l:List bH):List Rat:=l.map bH.v
def pj(l:List bH):List RQ:=l.map fun x=>RQ.of x.v
def mC{α β:Type}{f:α->β}{l:List α}{i:Nat}{x:α}(h:l[i]?=some x):(l.take i).map f++[f x]=(l.take (i+1)).map f:=by
 rw[List.take_add_one,h,eG];rfl
def TI(l:List bH)(h:∀x∈l,x.In)(hs:l.length<1099511627776:=by omega):aL prog 71 [(.one (sN l):aG)] (.ret [.one (sQ (cT l)),.one (sR (pj l))]):=by
 refine bw func71 ap0 ?_;refine ao {i:Nat // i<=l.length} (fun g=>[.one (.int .i64 g.1),.rows (rQ ((l.take g.1).map bH.v)),.rows (rR ((l.take g.1).map fun x=>RQ.of x.v))]) (fun g=>l.length-g.1) ⟨0,bO _⟩ aQ.rfl (fun _=>rfl) ?_;rintro⟨i,hi⟩;dsimp only[aO,aP]at hi|-;apply vn (aU OY (aR _));apply vn ak;refine vs _ rfl ?_ ?_<;>intro h3
 ·obtain⟨x,hx⟩:∃x,l[i]?=some x:=⟨_,ay O⟩
  have hl1:((l.take i).map bH.v).length<=i:=by simp;omega
  have hl2:((l.take i).map fun x=>RQ.of x.v).length<=i:=by simp;omega
  apply vn (aZ OY hx);apply vn (bB bd0 (by decide) (by simp) (.inl rfl));apply aA (Cj x (h x (bc hx)));apply bF (us:=[qC x.v]);refine oH (xs:=(l.take i).map bH.v) (x:=x.v) (f:=qC) rfl rfl O (by simp only[maxLen];omega) ?_;rw[mC hx];apply bF (us:=[rC (RQ.of x.v)]);dsimp only[aO,aP];refine oH (xs:=(l.take i).map fun x:bH=>RQ.of x.v) (x:=RQ.of x.v) (f:=rC) rfl rfl O (by simp only[maxLen];omega) ?_;rw[mC (f:=fun x:bH=>RQ.of x.v) hx];apply vn aC;dsimp only[aO,aP];exact aW rfl ⟨⟨i+1,O⟩,aQ.rfl,by show l.length-(i+1)<l.length-i;omega⟩
 rw[show i=l.length by omega,List.take_length];exact aK
def bH.short(x:bH):Bool:=decide (x.pow%4=0/\x.n<=999/\-999<=x.n/\x.d<=999/\-999<=x.d)
def bH.AP(x:bH):Bool:=decide (x.pow%4=0/\x.n<=99/\-99<=x.n/\x.d<=99/\-99<=x.d)
def vy(x:bH)(h:x.In):aL prog 39 [(nT x:aG)] (.ret [.one (.bool x.short)]):=by
 refine bw func39 ak9 ?_;apply vn dd;apply vn bK;refine vs _ rfl ?_ ?_<;>intro h2
 ·apply vn iO;refine vs _ rfl ?_ ?_<;>intro h4
  ·apply vn fO;refine vs _ rfl ?_ ?_<;>intro h6
   ·apply vn iO;refine vs _ rfl ?_ ?_<;>intro h8
    ·apply vn fO;dsimp only[aO,aP];refine aK ?_;have:decide (-999<=x.d)=x.short:=by unfold bH.short;rw[lE];constructor<;>intro hh<;>omega
     rw[<-this];rfl
    refine aK ?_;have:x.short=false:=by unfold bH.short;rw[fj];omega
    rw[this];rfl
   refine aK ?_;have:x.short=false:=by unfold bH.short;rw[fj];omega
   rw[this];rfl
  refine aK ?_;have:x.short=false:=by unfold bH.short;rw[fj];omega
  rw[this];rfl
 refine aK ?_;have:x.short=false:=by unfold bH.short;rw[fj];omega
 rw[this];rfl
open Go
abbrev chr(d:Nat):UInt8:=UInt8.ofNat (48+d)
def gH:Nat->Nat->List UInt8
 | 0,_=>[]
 | k+1,n=>gH k (n/10)++[chr (n%10)]
abbrev dec(n:Nat):List UInt8:=Lib.decDigits n
def pw{n:Nat}(h:n<10):dec n=[chr n]:=by rw[dec,Lib.decDigits,dif_pos h]
def rm{n:Nat}(h:¬n<10):dec n=dec (n/10)++[chr (n%10)]:=by rw[dec,Lib.decDigits,dif_neg h]
theorem rW:∀k n,(gH k n).length=k
 | 0,_=>rfl
 | k+1,n=>by rw[gH,eZ,rW k];rfl
theorem CJ:∀j k n,gH (j+k) n=gH j (n/10^k)++gH k n
 | j,0,n=>by simp[gH]
 | j,k+1,n=>by
   show gH (j+k) (n/10)++[chr (n%10)]=_;rw[CJ j k (n/10),gH,eE,Nat.div_div_eq_div_mul,Nat.pow_succ,Nat.mul_comm 10]
theorem Dt:∀k n,gH k (n%10^k)=gH k n
 | 0,_=>rfl
 | k+1,n=>by
   have h1:n%10^(k+1)/10=n/10%10^k:=by
    rw[Nat.pow_succ,Nat.mul_comm,Nat.mod_mul_right_div_self]
   have h2:n%10^(k+1)%10=n%10:=Nat.mod_mod_of_dvd n ⟨10^k,by rw[Nat.pow_succ,Nat.mul_comm]⟩;rw[gH,gH,h1,h2,Dt k]
theorem Jn:∀k,gH k 0=List.replicate k 48
 | 0=>rfl
 | k+1=>by rw[gH,Nat.zero_div,Jn k,Nat.zero_mod,List.replicate_succ'];rfl
theorem Ij:∀k n,0<n/10^k->dec n=dec (n/10^k)++gH k n
 | 0,n,_=>by simp[gH]
 | k+1,n,h=>by
   rw[Nat.pow_succ,Nat.mul_comm,<-Nat.div_div_eq_div_mul]at h|-;have h10:¬n<10:=fun hn=>by rw[Nat.div_eq_of_lt hn,Nat.zero_div]at h;omega
   rw[rm h10,Ij k (n/10) h,gH,eE]
def aa1{k m d:Nat}(hm:0<m)(hd:d<10^k):dec (d+10^k*m)=dec m++gH k d:=by
 have hp:0<10^k:=Nat.pow_pos O;have e:(d+10^k*m)/10^k=m:=by rw[Nat.add_mul_div_left _ _ hp,Nat.div_eq_of_lt hd,Nat.zero_add]
 rw[Ij k _ (by rw[e];exact hm),e,<-Dt k (d+_),Nat.add_mul_mod_self_left,Nat.mod_eq_of_lt hd]
def TK(n:Nat):0<(dec n).length:=by
 by_cases h:n<10
 ·rw[pw h];simp
 ·rw[rm h,eZ];simp
theorem kI:∀{k n:Nat},0<k->n<10^k->(dec n).length<=k
 | k+1,n,_,h=>by
   by_cases h10:n<10
   ·rw[pw h10];simp
   ·rw[rm h10,eZ];have h1:n/10<10^k:=by rw[Nat.pow_succ]at h;omega
    have hk:0<k:=by rcases Nat.eq_zero_or_pos k with rfl | h2;· simp at h;omega
                    ·exact h2
    have:=kI hk h1;simp;omega
theorem Dq:∀{k n:Nat},0<k->n<10^k->gH k n=List.replicate (k-(dec n).length) 48++dec n
 | k+1,n,_,h=>by
   by_cases h10:n<10
   ·rw[pw h10,gH,Nat.div_eq_of_lt h10,Jn,Nat.mod_eq_of_lt h10];rfl
   ·have h1:n/10<10^k:=by rw[Nat.pow_succ]at h;omega
    have hk:0<k:=by rcases Nat.eq_zero_or_pos k with rfl | h2;· simp at h;omega
                    ·exact h2
    rw[rm h10,gH,Dq hk h1,eE,eZ]
    congr 2;simp
def bQ6(c:Nat):Lib.repeatL [48] c=List.replicate c 48:=by
 induction c with
 | zero=>rfl
 | succ c ih=>rw[Lib.repeatL,ih,List.replicate_succ];rfl
def Vo{d:Nat}(hd:d<10):(chr d).toNat=48+d:=by
 simp only[chr,UInt8.toNat_ofNat'];omega
def Yy:∀(n:Nat),n≠0->∀c,(dec n).head? = some c->c≠48:=by
 intro n
 induction n using Nat.strongRecOn with
 | ind n ih=>
   intro h0 c hc;by_cases h:n<10
   ·rw[pw h]at hc;simp only[List.head?_cons,aI]at hc;subst hc;intro e;have:=congrArg UInt8.toNat e;rw[Vo h]at this;simp at this;omega
   ·rw[rm h]at hc;have h2:=TK (n/10);rw[List.head?_append]at hc;cases hd:(dec (n/10)).head? with
    | none=>rw[List.head?_eq_none_iff]at hd;rw[hd]at h2;simp at h2
    | some d=>
      rw[hd]at hc;simp only[Option.some_or,aI]at hc;subst hc;exact ih (n/10) O O d hd
def Og:dec 0=[48]:=by rw[pw O];rfl
def xj(z:Int):List UInt8:=(if z<0 then[45]else[])++dec z.natAbs
def Zx(q:Rat):List UInt8:=xj q.num++if q.den=1 then[]else 47::dec q.den
abbrev sT(l:List UInt8):aE:=.str ⟨l.toArray⟩
abbrev bS(l:List UInt8):aG:=.one (sT l)
section
variable{P:Program}{T U ty:TypeId}{x y z:Operand}
def uv{a b:List UInt8}(h:a.length+b.length<=9223372036854775807):af P (.binOp .add T x y U) ty [bS a,bS b] (bS (a++b)):=by
 have e:(⟨(a++b).toArray⟩:ByteArray)=⟨a.toArray⟩++⟨b.toArray⟩:=by
  apply ByteArray.ext;rw[ByteArray.data_append];simp
 show af P _ ty _ (.one (.str ⟨(a++b).toArray⟩));rw[e];exact Ws (by show((a.toArray.size+b.toArray.size:Nat):Int)<=_;simp only[dW];omega)
def aU5{s:List UInt8}{k:IntKind}{n:Int}{c:UInt8}(hu:P.underlying T=some .string)(hc:s[n.toNat]?=some c)(h0:0<=n:=by omega):af P (.index T x y) ty [bS s,.one (.int k n)] (.one (.int .u8 c.toNat)):=by
 refine UC hu h0 ?_;obtain⟨hlt,he⟩:=dn.1 hc;have h1:n.toNat<(ByteArray.mk s.toArray).size:=by show _<s.toArray.size;simpa using hlt
 rw[getElem?_pos (ByteArray.mk s.toArray) n.toNat h1,<-he];rfl
def xG(s:List UInt8)(i j:Nat):(ByteArray.mk s.toArray).extract i j=⟨((s.take j).drop i).toArray⟩:=by
 apply ByteArray.ext;rw[ByteArray.data_extract];simp[Uh,qb]
def ar2{s:List UInt8}{k:IntKind}{n:Int}(hu:P.underlying T=some .string)(hn:n.toNat<=s.length)(h0:0<=n:=by omega):af P (.slice T x (some y) none none) ty [bS s,.one (.int k n)] (bS (s.drop n.toNat)):=by
 have hs:(ByteArray.mk s.toArray).size=s.length:=by show s.toArray.size=_;simp
 have:=an9 (P:=P) (x:=x) (y:=y) (ty:=ty) (s:=⟨s.toArray⟩) (k:=k) hu h0 (by rw[hs];omega);rw[xG,hs,List.take_length]at this;exact this
def aE8{s:List UInt8}{k k':IntKind}{n m:Int}(hu:P.underlying T=some .string)(hm:m.toNat<=s.length)(h0:0<=n:=by omega)(hn:n<=m:=by omega):af P (.slice T x (some y) (some z) none) ty [bS s,.one (.int k n),.one (.int k' m)] (bS ((s.take m.toNat).drop n.toNat)):=by
 have hs:(ByteArray.mk s.toArray).size=s.length:=by show s.toArray.size=_;simp
 have:=Xr (P:=P) (x:=x) (y:=y) (z:=z) (ty:=ty) (s:=⟨s.toArray⟩) (k:=k) (k':=k') hu h0 hn (by rw[hs];omega);rw[xG]at this;exact this
def PF{a b:List UInt8}:af P (.binOp .eql T x y U) ty [bS a,bS b] (.one (.bool (decide (a=b)))):=by
 have:decide (a=b)=decide ((ByteArray.mk a.toArray).data=(ByteArray.mk b.toArray).data):=by
  rw[lE];exact⟨fun h=>by rw[h],fun h=>by simpa using congrArg Array.toList h⟩
 rw[this];exact bn0
end
def Nl{d:Nat}(h:d<10):(([48,49,50,51,52,53,54,55,56,57]:List UInt8).take (d+1)).drop d=[chr d]:=by
 match d,h with
 | 0,_=>rfl
 | 1,_=>rfl
 | 2,_=>rfl
 | 3,_=>rfl
 | 4,_=>rfl
 | 5,_=>rfl
 | 6,_=>rfl
 | 7,_=>rfl
 | 8,_=>rfl
 | 9,_=>rfl
 | d+10,h=>omega
def ZL{k H n:Nat}(h:n<2^H)(h0:n/10^k≠0):k<H:=by
 have h1:10^k<=n:=by
  rcases Nat.lt_or_ge n (10^k)with h2 | h2
  ·rw[Nat.div_eq_of_lt h2]at h0;omega
  ·exact h2
 have h2:2^k<=10^k:=eP O k;exact(Nat.pow_lt_pow_iff_right (a:=2) O).1 O
def UI(k n:Nat):gH 4 (n/10^(4*k)%10000)++gH (4*k) n=gH (4*(k+1)) n:=by
 have:=Dt 4 (n/10^(4*k));rw[show(10:Nat)^4=10000 by decide]at this;rw[this,<-CJ,show 4+4*k=4*(k+1) by omega]
def MH(k n:Nat):n/10^(4*k)/10000=n/10^(4*(k+1)):=by
 rw[Nat.div_div_eq_div_mul,show 4*(k+1)=4*k+4 by omega,Nat.pow_add]
def Rh(i r:Nat):[chr (r/10^i%10)]++gH i r=gH (i+1) r:=by
 rw[show i+1=1+i by omega,CJ];rfl
def Rr(r i:Nat):r/10^i/10=r/10^(i+1):=by rw[Nat.div_div_eq_div_mul,Nat.pow_succ]
def bm9:Tr:=qA .rem 3 31 10 11 0 3 (bD 15 1 3 32 (.need (.prim [(.one (.c (.k (.string ⟨#[48,49,50,51,52,53,54,55,56,57]⟩)))),(W 14 0),(W 16 0)] none) (.slice 9 (.const (.string ⟨#[48,49,50,51,52,53,54,55,56,57]⟩)) (some (tT 30)) (some (tT 33)) none) 9 false (fG 17 0 10 0 9 34 35 (qA .quo 3 37 10 11 0 3 (bD 12 1 3 27 (sW 1 18 19 20))))))
def bM6:Tr:=kZ 10000 45 (dV 213 [(W 3 0),(.one (.c (.sr 1 6)))] [none,none] [18,19] [45,45] 269 false (qt 257 8 23 45 3 (.loop 1 [lV 2 0,lV 9 0,lK 0] (iJ 12 0 4 3 25 (aH 13 0 (qA .rem 3 29 10 11 0 3 bm9) (jj 0 10 7))))))
def bi6:Tr:=Fc 2 (.need (.prim [(W 6 0),(WK 0)] none) (.index 9 (tT 40) (.const (I3 0))) 5 false (gI 7 48 41 (aH 8 0 (Qc 6 9 43 Xb) (iJ 0 0 0 3 46 (aH 9 0 (Yv 6 48 ad8) QI)))))
def bw3:Tr:=eH 0 0 0 3 10 (aH 1 0 (.ret [(.one (.c (.k (.string ⟨#[48]⟩))))]) (.loop 0 [(.w (.one (.c (.k (.string ⟨#[]⟩))))),lV 0 1] (au 3 0 14 45 (fL 4 0 0 3 15 (aH 5 0 bM6 bi6)))))
def WM:aM prog f206 bZ [.v (some 2)]=bw3:=by kernel_rfl
def bL0:Tr:=jX 3 0 15 (aH 4 0 (jw 117 0 1 18 35 (DJ 178 5 19 9 (Yr 6 (fG 2 0 7 0 9 17 21 (bI 8))))) (bI 2))
def aV1:Tr:=jX 2 0 15 (aH 3 0 (jw 117 0 1 18 35 (DJ 178 4 19 9 (Yr 5 (fG 1 0 6 0 9 17 21 (bI 7))))) (bI 1))
def bM9:Tr:=DM 178 0 0 6 9 (aH 0 1 (Yv 1 11 (DM 179 0 2 14 4 bL0)) (DM 179 0 2 14 4 aV1))
def aw6:aM prog f90 bZ [.v (some 3)]=bM9:=by kernel_rfl
def Oo(z:Int)(H:Nat)(hz:z.natAbs<2^H)(hH:H<=34359738360:=by omega):aL prog 206 [(zT z:aG)] (.ret [bS (xj z)]):=by
 refine bw func206 WM ?_;have hb:=gD hz;have hb1:(bd 10000).length=1:=by rw[MV];rfl
 obtain⟨n,hn⟩:∃n,z.natAbs=n:=⟨_,rfl⟩
 rw[hn]at hz hb;rw[show zT z=.agg [.int .i64 z.sign,bT n] by rw[<-hn]];apply vn bK;refine vs _ rfl ?_ ?_<;>intro h1
 ·have hz0:z=0:=Ck.1 h1;subst hz0;rw[show xj 0=[48] by rw[xj,if_neg O];exact Og];exact aK
 have hn0:n≠0:=fun e=>h1 (by rw[Ck];omega);refine ao {k:Nat // n/10^(4*(k-1))≠0} (fun g=>[bS (gH (4*g.1) n),.one (bT (n/10^(4*g.1)))]) (fun g=>n/10^(4*g.1)) ⟨0,by simpa using hn0⟩ (show aQ _ _ by rw[Nat.mul_zero,Nat.pow_zero,oc];exact aQ.rfl) (fun _=>rfl) ?_;rintro⟨k,hk⟩;dsimp only[aO,aP]at hk|-;have hk4:4*(k-1)<H:=ZL hz hk;generalize hm:n/10^(4*k)=m;have hmn:m<=n:=by rw[<-hm];exact Nat.div_le_self _ _
 have hbm:=fB hmn;apply vn (aU ef (aR _));apply vn dZ;refine vs _ rfl ?_ ?_<;>intro h6
 ·have hm0:m≠0:=fun e=>by subst e;rw[Cl]at h6;simp at h6
  apply bF (us:=[[.int .i64 10000]]);dsimp only[aO,aP];have hover:=jn m 10000;rw[show bT 10000=.slice 1 [[.int .i64 10000]] by rw[bT,MV];rfl]at hover;apply aA hover
  apply aA (Dp (m%10000) (by
   have:=jL (n:=m%10000) (k:=1) O;omega)) rfl
  dsimp only[aO,aP];have hr:m%10000<10000:=Nat.mod_lt _ O;generalize hr':m%10000=r at hr|-;refine ao {i:Nat // i<=4} (fun g=>[bS (gH g.1 r++gH (4*k) n),.one (.int .i64 ((r/10^g.1:Nat):Int)),.one (.int .i64 g.1)]) (fun g=>4-g.1) ⟨0,O⟩ (show aQ _ _ by rw[Nat.pow_zero,oc];exact aQ.rfl) (fun _=>rfl) ?_;rintro⟨i,hi⟩;dsimp only[aO,aP]at hi|-;apply vn ak;refine vs _ rfl ?_ ?_<;>intro h12
  ·have hri:r/10^i<=r:=Nat.div_le_self _ _;generalize ht:r/10^i=t at hri|-;have ht10:t%10<10:=Nat.mod_lt _ O;apply vn dd;apply vn dd;apply vn aC;dsimp only[aO,aP];apply vn (aE8 un9 (by show _<=10;omega)) rfl;dsimp only[aO,aP];rw[show((t:Int)%10+1).toNat=t%10+1 by omega,show((t:Int)%10).toNat=t%10 by omega,Nl ht10];apply vn (uv (by simp only[eZ,rW,List.length_cons,bq];omega)) rfl;apply vn iD;apply vn aC;dsimp only[aO,aP]
   exact aW rfl ⟨⟨i+1,O⟩,aQ.of_eq (show[bS ([chr (t%10)]++(gH i r++gH (4*k) n)),(.one (.int .i64 ((t:Int)/10)):aG),.one (.int .i64 ((i:Int)+1))]=_ by
    dsimp only;rw[<-eE,<-ht,Rh,<-Rr];rfl),by show 4-(i+1)<4-i;omega⟩
  refine aW rfl ⟨⟨k+1,by rw[Nat.add_sub_cancel,hm];exact hm0⟩,?_,?_⟩
  ·dsimp only;rw[show i=4 by omega,<-hr',<-hm,UI,MH];exact aQ.rfl
  ·show n/10^(4*(k+1))<m;rw[<-MH,hm];exact Nat.div_lt_self O O
 have hm0:m=0:=by
  have:bd m=[]:=fu O;exact Ef.1 this
 have hlt:n<10^(4*k):=by
  rcases Nat.lt_or_ge n (10^(4*k))with h | h
  ·exact h
  ·have:=Nat.div_pos h (Nat.pow_pos O);omega
 have hk0:0<4*k:=by
  rcases Nat.eq_zero_or_pos (4*k)with h | h
  ·rw[h]at hlt;simp at hlt;omega
  ·exact h
 rw[Dq hk0 hlt];have hdl:=kI hk0 hlt;have hdp:=TK n;refine ao {c:Nat // c<=4*k} (fun g=>[bS (List.replicate g.1 48++dec n)]) (fun g=>g.1) ⟨4*k-(dec n).length,O⟩ aQ.rfl (fun _=>rfl) ?_;rintro⟨c,hc⟩;dsimp only[aO,aP]at hc|-;obtain⟨x,hx⟩:∃x,(List.replicate c (48:UInt8)++dec n)[(0:Int).toNat]?=some x:=⟨_,ay (by simp only[eZ];show 0<_;omega)⟩
 apply vn (aU5 un9 hx);apply vn bK;refine vs _ rfl ?_ ?_<;>intro h25
 ·obtain⟨c',rfl⟩:∃c',c=c'+1:=by
   cases c with
   | succ c=>exact⟨c,rfl⟩
   | zero=>
     rw[List.replicate_zero,List.nil_append]at hx;have h1:=Yy n hn0 x (by rw[List.head?_eq_getElem?];exact hx);exact(h1 (UInt8.toNat_inj.1 (by show x.toNat=48;omega))).elim
  apply vn (ar2 un9 (by simp only[eZ,my];omega)) rfl;dsimp only[aO,aP];exact aW rfl ⟨⟨c',O⟩,aQ.rfl,by show c'<c'+1;omega⟩
 obtain rfl:c=0:=by
  cases c with
  | zero=>rfl
  | succ c=>
    rw[List.replicate_succ]at hx;have:x=48:=by simpa using hx.symm
    subst this;exact(h25 rfl).elim
 rw[List.replicate_zero,List.nil_append];apply vn ak;refine vs _ rfl ?_ ?_<;>intro h29
 ·apply vn (uv (a:=[45]) (by simp only[List.length_cons,bq];omega)) rfl;dsimp only[aO,aP];have hneg:z<0:=by rcases bu z with⟨h,e⟩ | ⟨h,e⟩ | ⟨h,e⟩<;>omega
  rw[show xj z=[45]++dec n by rw[xj,if_pos hneg,hn]];exact aK
 have hneg:¬z<0:=by rcases bu z with⟨h,e⟩ | ⟨h,e⟩ | ⟨h,e⟩<;>omega
 rw[show xj z=dec n by rw[xj,if_neg hneg,hn];rfl];exact aK
def rj{n H:Nat}(h:n<2^H):(dec n).length<=H+1:=
 kI (Nat.succ_pos H) (Nat.lt_of_lt_of_le h (Nat.le_trans (eP O H) (Nat.pow_le_pow_right O (Nat.le_succ H))))
def Np{z:Int}{H:Nat}(h:z.natAbs<2^H):(xj z).length<=H+2:=by
 have:=rj h;unfold xj;rw[eZ];split<;>simp <;> omega
end Go.Sy
namespace Go.Proofs
open Go.Shelf
def Tryz.zB:Go.Shelf.Ren:=⟨fun | 169=>244 | n=>n,fun | 70=>284 | 9=>9 | 0=>0 | 72=>287 | 37=>285 | 127=>325 | 3=>3 | 5=>5 | n=>n,fun | n=>n⟩
def Tryz.ar5:Go.Proofs.Lays.n169 Tryz.prog Tryz.zB:={
 mixed:=by kernel_rfl
 f169:=Tryz.func244.trans (congrArg some (by kernel_rfl))
 t0:=Tryz.underlying0
 a0:=Tryz.isAgg0
 z0:=Tryz.sizeOf0
 v0:=Tryz.zeroValue0
 t3:=Tryz.underlying3
 a3:=Tryz.isAgg3
 z3:=Tryz.sizeOf3
 v3:=Tryz.zeroValue3
 t9:=Tryz.underlying9
 a9:=Tryz.isAgg9
 z9:=Tryz.sizeOf9
 v9:=Tryz.zeroValue9
 t37:=Tryz.underlying285
 a37:=Tryz.isAgg285
 z37:=Tryz.sizeOf285
 v37:=Tryz.zeroValue285
 t70:=Tryz.underlying284
 a70:=Tryz.isAgg284
 z70:=Tryz.sizeOf284
 v70:=Tryz.zeroValue284
 t72:=Tryz.underlying287
 a72:=Tryz.isAgg287
 z72:=Tryz.sizeOf287
 v72:=Tryz.zeroValue287
 t127:=Tryz.underlying325
 a127:=Tryz.isAgg325
 z127:=Tryz.sizeOf325
 v127:=Tryz.zeroValue325 }
def Tryz.xB:Builder.Extra Tryz.prog Tryz.zB:={
 sizeBuilder:=by kernel_rfl
 liesBuilder:=by kernel_rfl
 t5:=Tryz.underlying5
 a5:=Tryz.isAgg5
 z5:=Tryz.sizeOf5
 v5:=Tryz.zeroValue5
 infoByte:=by kernel_rfl
 cellsByte:=by kernel_rfl
 sizeByte:=by kernel_rfl
 neB5:=by decide }
open Go.RowKit in
def Tryz.Builder_String_any_k(B b:Nat)(l:List UInt8)(w:World)(h:Lib.IsBuilderF 287 5 B b (Lib.byteCells l) w)(hBw:B<=w.heap.size) :
  Calls Tryz.prog 244 #[.pointer (some ⟨b,0,none⟩)] w fun e w'=>e=.returned (.string ⟨l.toArray⟩)/\(Lib.IsBuilderF 287 5 B b (Lib.byteCells l) w'/\Below B w w'/\Lib.OthersKept 5 (some b) w w'):=Any.Builder_String_any_k Tryz.ar5 Tryz.xB B b l w h hBw
def Tryz.Li:Go.Shelf.Ren:=⟨fun | 171=>241 | 243=>275 | 246=>288 | 283=>295 | 284=>296 | 285=>297 | 286=>298 | 129=>301 | 317=>300 | 318=>302 | 319=>303 | 320=>304 | 337=>305 | 338=>306 | n=>n,fun | 3=>3 | 9=>9 | 2=>2 | 4=>4 | 171=>336 | 0=>0 | 53=>254 | 37=>285 | 5=>5 | 173=>339 | 212=>343 | 51=>255 | 20=>20 | 213=>344 | 46=>320 | 232=>347 | 233=>348 | n=>n,fun | 17=>0 | 18=>2 | 19=>3 | n=>n⟩
def Tryz.WG:Go.Proofs.LaysM.n171 Tryz.prog Tryz.Li:={
 mixed:=by kernel_rfl
 f129:=Tryz.func301.trans (congrArg some (by kernel_rfl))
 f171:=Tryz.func241.trans (congrArg some (by kernel_rfl))
 f243:=Tryz.func275.trans (congrArg some (by kernel_rfl))
 f246:=Tryz.func288.trans (congrArg some (by kernel_rfl))
 f283:=Tryz.func295.trans (congrArg some (by kernel_rfl))
 f284:=Tryz.func296.trans (congrArg some (by kernel_rfl))
 f285:=Tryz.func297.trans (congrArg some (by kernel_rfl))
 f286:=Tryz.func298.trans (congrArg some (by kernel_rfl))
 f317:=Tryz.func300.trans (congrArg some (by kernel_rfl))
 f318:=Tryz.func302.trans (congrArg some (by kernel_rfl))
 f319:=Tryz.func303.trans (congrArg some (by kernel_rfl))
 f320:=Tryz.func304.trans (congrArg some (by kernel_rfl))
 f337:=Tryz.func305.trans (congrArg some (by kernel_rfl))
 f338:=Tryz.func306.trans (congrArg some (by kernel_rfl))
 t0:=Tryz.underlying0
 a0:=Tryz.isAgg0
 z0:=Tryz.sizeOf0
 v0:=Tryz.zeroValue0
 t2:=Tryz.underlying2
 a2:=Tryz.isAgg2
 z2:=Tryz.sizeOf2
 v2:=Tryz.zeroValue2
 t3:=Tryz.underlying3
 a3:=Tryz.isAgg3
 z3:=Tryz.sizeOf3
 v3:=Tryz.zeroValue3
 t4:=Tryz.underlying4
 a4:=Tryz.isAgg4
 z4:=Tryz.sizeOf4
 v4:=Tryz.zeroValue4
 t5:=Tryz.underlying5
 a5:=Tryz.isAgg5
 z5:=Tryz.sizeOf5
 v5:=Tryz.zeroValue5
 t9:=Tryz.underlying9
 a9:=Tryz.isAgg9
 z9:=Tryz.sizeOf9
 v9:=Tryz.zeroValue9
 t20:=Tryz.underlying20
 a20:=Tryz.isAgg20
 z20:=Tryz.sizeOf20
 v20:=Tryz.zeroValue20
 t37:=Tryz.underlying285
 a37:=Tryz.isAgg285
 z37:=Tryz.sizeOf285
 v37:=Tryz.zeroValue285
 t46:=Tryz.underlying320
 a46:=Tryz.isAgg320
 z46:=Tryz.sizeOf320
 v46:=Tryz.zeroValue320
 t51:=Tryz.underlying255
 a51:=Tryz.isAgg255
 z51:=Tryz.sizeOf255
 v51:=Tryz.zeroValue255
 t53:=Tryz.underlying254
 a53:=Tryz.isAgg254
 z53:=Tryz.sizeOf254
 v53:=Tryz.zeroValue254
 t171:=Tryz.underlying336
 a171:=Tryz.isAgg336
 z171:=Tryz.sizeOf336
 v171:=Tryz.zeroValue336
 t173:=Tryz.underlying339
 a173:=Tryz.isAgg339
 z173:=Tryz.sizeOf339
 v173:=Tryz.zeroValue339
 t212:=Tryz.underlying343
 a212:=Tryz.isAgg343
 z212:=Tryz.sizeOf343
 v212:=Tryz.zeroValue343
 t213:=Tryz.underlying344
 a213:=Tryz.isAgg344
 z213:=Tryz.sizeOf344
 t232:=Tryz.underlying347
 a232:=Tryz.isAgg347
 z232:=Tryz.sizeOf347
 v232:=Tryz.zeroValue347
 t233:=Tryz.underlying348
 a233:=Tryz.isAgg348
 z233:=Tryz.sizeOf348
 v233:=Tryz.zeroValue348
 g17:=by kernel_rfl
 g18:=by kernel_rfl
 g19:=by kernel_rfl
 i0:=by kernel_rfl
 i2:=by kernel_rfl
 i3:=by kernel_rfl
 i4:=by kernel_rfl
 i5:=by kernel_rfl
 i9:=by kernel_rfl
 i20:=by kernel_rfl
 i37:=by kernel_rfl
 i46:=by kernel_rfl
 i51:=by kernel_rfl
 i53:=by kernel_rfl
 i171:=by kernel_rfl
 i173:=by kernel_rfl
 i212:=by kernel_rfl
 i232:=by kernel_rfl
 i233:=by kernel_rfl
 m17:=by kernel_rfl
 m18:=by kernel_rfl
 m19:=by kernel_rfl }
open Go.RowKit Go.Sort Go.Lib in
def Tryz.strconv_Itoa(n:Int)(h0:-9223372036854775808<=n)(h1:n<=9223372036854775807)(w:World)(htab:Lib.TabIs Tryz.prog w "internal/strconv.uint64pow10" .u64 Lib.pow10Tab) :
  Calls Tryz.prog 241 #[.int .i64 n] w fun e w'=>e=.returned (.string ⟨(Lib.itoa n).toArray⟩)/\∃k os,w'=grow (w.drewN k) os:=Any.strconv_Itoa Tryz.WG n h0 h1 w htab
def Tryz.zK:Go.Shelf.Ren:=⟨fun | 105=>243 | 212=>277 | 99=>278 | 165=>279 | 166=>242 | 170=>280 | 169=>244 | 263=>290 | 264=>291 | 206=>292 | 240=>276 | 241=>293 | 276=>289 | 277=>299 | n=>n,fun | 9=>9 | 3=>3 | 4=>4 | 20=>20 | 0=>0 | 46=>320 | 109=>321 | 5=>5 | 72=>287 | 76=>294 | 51=>255 | 146=>331 | 53=>254 | 148=>333 | 70=>284 | 37=>285 | 75=>293 | 127=>325 | 164=>329 | 80=>144 | n=>n,fun | n=>n⟩
def Tryz.Tx:Go.Proofs.Lays.n105 Tryz.prog Tryz.zK:={
 mixed:=by kernel_rfl
 f99:=Tryz.func278.trans (congrArg some (by kernel_rfl))
 f105:=Tryz.func243.trans (congrArg some (by kernel_rfl))
 f165:=Tryz.func279.trans (congrArg some (by kernel_rfl))
 f166:=Tryz.func242.trans (congrArg some (by kernel_rfl))
 f169:=Tryz.func244.trans (congrArg some (by kernel_rfl))
 f170:=Tryz.func280.trans (congrArg some (by kernel_rfl))
 f206:=Tryz.func292.trans (congrArg some (by kernel_rfl))
 f212:=Tryz.func277.trans (congrArg some (by kernel_rfl))
 f240:=Tryz.func276.trans (congrArg some (by kernel_rfl))
 f241:=Tryz.func293.trans (congrArg some (by kernel_rfl))
 f263:=Tryz.func290.trans (congrArg some (by kernel_rfl))
 f264:=Tryz.func291.trans (congrArg some (by kernel_rfl))
 f276:=Tryz.func289.trans (congrArg some (by kernel_rfl))
 f277:=Tryz.func299.trans (congrArg some (by kernel_rfl))
 t0:=Tryz.underlying0
 a0:=Tryz.isAgg0
 z0:=Tryz.sizeOf0
 v0:=Tryz.zeroValue0
 t3:=Tryz.underlying3
 a3:=Tryz.isAgg3
 z3:=Tryz.sizeOf3
 v3:=Tryz.zeroValue3
 t4:=Tryz.underlying4
 a4:=Tryz.isAgg4
 z4:=Tryz.sizeOf4
 v4:=Tryz.zeroValue4
 t5:=Tryz.underlying5
 a5:=Tryz.isAgg5
 z5:=Tryz.sizeOf5
 v5:=Tryz.zeroValue5
 t9:=Tryz.underlying9
 a9:=Tryz.isAgg9
 z9:=Tryz.sizeOf9
 v9:=Tryz.zeroValue9
 t20:=Tryz.underlying20
 a20:=Tryz.isAgg20
 z20:=Tryz.sizeOf20
 v20:=Tryz.zeroValue20
 t37:=Tryz.underlying285
 a37:=Tryz.isAgg285
 z37:=Tryz.sizeOf285
 v37:=Tryz.zeroValue285
 t46:=Tryz.underlying320
 a46:=Tryz.isAgg320
 z46:=Tryz.sizeOf320
 v46:=Tryz.zeroValue320
 t51:=Tryz.underlying255
 a51:=Tryz.isAgg255
 z51:=Tryz.sizeOf255
 v51:=Tryz.zeroValue255
 t53:=Tryz.underlying254
 a53:=Tryz.isAgg254
 z53:=Tryz.sizeOf254
 v53:=Tryz.zeroValue254
 t70:=Tryz.underlying284
 a70:=Tryz.isAgg284
 z70:=Tryz.sizeOf284
 v70:=Tryz.zeroValue284
 t72:=Tryz.underlying287
 a72:=Tryz.isAgg287
 z72:=Tryz.sizeOf287
 v72:=Tryz.zeroValue287
 t75:=Tryz.underlying293
 a75:=Tryz.isAgg293
 z75:=Tryz.sizeOf293
 v75:=Tryz.zeroValue293
 t76:=Tryz.underlying294
 a76:=Tryz.isAgg294
 z76:=Tryz.sizeOf294
 v76:=Tryz.zeroValue294
 t109:=Tryz.underlying321
 a109:=Tryz.isAgg321
 z109:=Tryz.sizeOf321
 v109:=Tryz.zeroValue321
 t127:=Tryz.underlying325
 a127:=Tryz.isAgg325
 z127:=Tryz.sizeOf325
 v127:=Tryz.zeroValue325
 t146:=Tryz.underlying331
 a146:=Tryz.isAgg331
 z146:=Tryz.sizeOf331
 v146:=Tryz.zeroValue331
 t148:=Tryz.underlying333
 a148:=Tryz.isAgg333
 z148:=Tryz.sizeOf333
 v148:=Tryz.zeroValue333
 t164:=Tryz.underlying329
 a164:=Tryz.isAgg329
 z164:=Tryz.sizeOf329
 v164:=Tryz.zeroValue329 }
def Tryz.oj:Builder.Extra Tryz.prog Tryz.zK:={
 sizeBuilder:=by kernel_rfl
 liesBuilder:=by kernel_rfl
 t5:=Tryz.underlying5
 a5:=Tryz.isAgg5
 z5:=Tryz.sizeOf5
 v5:=Tryz.zeroValue5
 infoByte:=by kernel_rfl
 cellsByte:=by kernel_rfl
 sizeByte:=by kernel_rfl
 neB5:=by decide }
open Go.RowKit Go.Lib in
def Tryz.strings_Repeat(s:ByteArray)(c:Nat)(w:World)(hc:c<=9223372036854775807)(hlen:s.size*c<=140737488355328) :
  Calls Tryz.prog 243 #[.string s,.int .i64 c] w fun e w'=>e=.returned (.string ⟨(Lib.repeatL s.data.toList c).toArray⟩)/\Below w.heap.size w w':=Any.strings_Repeat Tryz.Tx Tryz.oj s c w hc hlen
end Go.Proofs
namespace Go.Sy
open Go Go.Proofs Go.RowKit Go.Shelf Tryz Ord
attribute [local go_sem] Oper.semAt_some
abbrev D9:={d:Nat // d<1000000000}
instance:Inhabited D9:=⟨⟨0,O⟩⟩
abbrev bh7(d:D9):Value:=.int .u32 (d.1:Int)
def tx(L:Nat)(pre:List (Nat×D9)):List UInt8:=pre.foldl (fun t x=>t++if x.1+1<L then gH 9 x.2.1 else dec x.2.1) []
def Ks(L:Nat)(pre:List (Nat×D9))(x:Nat×D9):tx L (pre++[x])=tx L pre++if x.1+1<L then gH 9 x.2.1 else dec x.2.1:=by simp[tx]
def Mx(L:Nat)(x:Nat×D9):(if x.1+1<L then gH 9 x.2.1 else dec x.2.1).length<=9:=by
 split
 ·rw[rW];omega
 ·exact kI O (by rw[show(10:Nat)^9=1000000000 by decide];exact x.2.2)
def bk7(L:Nat)(pre:List (Nat×D9)):(tx L pre).length<=9*pre.length:=by
 have h:∀(l:List (Nat×D9))(t:List UInt8),(l.foldl (fun t x=>t++if x.1+1<L then gH 9 x.2.1 else dec x.2.1) t).length<=t.length+9*l.length:=by
  intro l
  induction l with
  | nil=>intro t;simp
  | cons x l ih=>
    intro t;have h1:=ih (t++if x.1+1<L then gH 9 x.2.1 else dec x.2.1);have h2:=Mx L x;rw[eZ]at h1;rw[List.foldl_cons,List.length_cons];omega
 have:=h pre []
 simpa[tx]using this
theorem ac8(vs:List D9)(h0:∀d,vs.getLast? = some d->d.1≠0):∀k,0<k->k<=vs.length->0<lv ((vs.map Subtype.val).drop (vs.length-k))/\tx vs.length (bk vs k)=dec (lv ((vs.map Subtype.val).drop (vs.length-k)))
 | 0,h,_=>O
 | k+1,_,hk=>by
   have hlt:vs.length-(k+1)<vs.length:=O
   have hlt':vs.length-(k+1)<(vs.map Subtype.val).length:=by rw[aR];exact hlt
   have hget:vs[vs.length-1-k]?=some vs[vs.length-(k+1)]:=by rw[show vs.length-1-k=vs.length-(k+1) by omega];exact ay hlt
   have e1:(vs.map Subtype.val).drop (vs.length-(k+1))=vs[vs.length-(k+1)].1::(vs.map Subtype.val).drop (vs.length-k):=by
    rw[pC hlt',List.getElem_map,show vs.length-(k+1)+1=vs.length-k by omega]
   rw[La,Ks,hget,ei,e1];show 0<val 1000000000 (_::_)/\_=dec (val 1000000000 (_::_));rw[val];rcases Nat.eq_zero_or_pos k with rfl | hk0
   ·have hd:vs[vs.length-(0+1)].1≠0:=h0 _ (by rw[TL];exact hget);have e2:(vs.map Subtype.val).drop (vs.length-0)=[]:=by rw[List.drop_eq_nil_iff,aR];omega
    rw[e2];dsimp only;rw[if_neg O];simp only[val,Nat.mul_zero,Nat.add_zero];exact⟨O,by simp[bk,tx]⟩
   ·obtain⟨h1,h2⟩:=ac8 vs h0 k hk0 O;dsimp only;rw[if_pos O,h2];have h3:(vs[vs.length-(k+1)]).1<10^9:=by rw[show(10:Nat)^9=1000000000 by decide];exact vs[vs.length-(k+1)].2
    have h4:=aa1 (m:=lv ((vs.map Subtype.val).drop (vs.length-k))) h1 h3;rw[show(10:Nat)^9=1000000000 by decide]at h4;have h5:0<lv ((vs.map Subtype.val).drop (vs.length-k)):=h1;exact⟨by show 0<_+1000000000*lv _;omega,h4.symm⟩
def Mu{ds:List Nat}(h:Dg ds):∃vs:List D9,vs.map Subtype.val=ds:=by
 induction ds with
 | nil=>exact⟨[],rfl⟩
 | cons d ds ih=>
   obtain⟨vs,hv⟩:=ih fun x hx=>h x (List.mem_cons_of_mem _ hx);exact⟨⟨d,h d List.mem_cons_self⟩::vs,by rw[dY,hv]⟩
def Hm(w:World)(k:Nat)(os:Array Obj):Below w.heap.size w (Sort.grow (w.drewN k) os):=by
 refine⟨rfl,rfl,rfl,?_,fun j hj=>?_⟩
 ·show w.heap.size<=(w.heap++os).size;rw[Array.size_append];omega
 ·show(w.heap++os)[j]?=_;exact vz hj
def aC0(n:Nat)(w:World)(M:Nat->Prop)(hM:Good M w)(hn:n<=9223372036854775807:=by omega) :
  Calls prog 241 #[.int .i64 (n:Int)] w fun e w'=>e=.returned (.string ⟨(dec n).toArray⟩)/\Below w.heap.size w w':=by
 obtain⟨_,T,fz,h⟩:=hM (0,EH) (by simp[an3.tab])
 have htab:Lib.TabIs prog w "internal/strconv.uint64pow10" .u64 Lib.pow10Tab:=by
  unfold Lib.TabIs World.var?;rw[show prog.globalNamed "internal/strconv.uint64pow10" = some 0 by kernel_rfl];have h:w.heap[0]?=some (.cells EH T fz):=h;simp only[Option.bind_some,h];rfl
 refine(Tryz.strconv_Itoa (n:Int) O O w htab).mono ?_;rintro e w' ⟨rfl,k,os,rfl⟩;refine⟨?_,Hm w k os⟩;rw[Lib.itoa_nonneg]
def VL(c:Nat)(hc:c<=9)(w:World):Calls prog 243 #[.string ⟨#[48]⟩,.int .i64 (c:Int)] w fun e w'=>e=.returned (.string ⟨(List.replicate c (48:UInt8)).toArray⟩)/\Below w.heap.size w w':=by
 refine(Tryz.strings_Repeat ⟨#[48]⟩ c w O (by show 1*c<=_;omega)).mono ?_;rintro e w' ⟨rfl,h⟩;exact⟨by rw[<-bQ6],h⟩
def JN(B b:Nat)(bs:List Value)(s:ByteArray)(w:World)(h:Lib.IsBuilderF 287 5 B b bs w)(hlen:bs.length+s.size<=140737488355328)(hBw:B<=w.heap.size) :
  Calls prog 242 #[.pointer (some ⟨b,0,none⟩),.string s] w fun e w'=>e=.returned (.tuple #[.int .i64 s.size,.nilIface])/\(Lib.IsBuilderF 287 5 B b (bs++Lib.strCells s) w'/\Below B w w'/\Lib.OthersKept 5 (some b) w w'):=
 (Any.Builder_WriteString_k { Tryz.Tx with } Tryz.oj B b bs s w h hlen hBw).mono fun e w' ⟨h1,h2,h3,h4⟩=>⟨h1,.inr h2,h3,h4⟩
def wJ{T e B b:Nat}{bs:List Value}{A A':World}(h:Lib.IsBuilderF T e B b bs A)(k:∀(j:Nat)(o:Obj),A.heap[j]?=some o->o.isCells=true->A'.heap[j]?=some o):Lib.IsBuilderF T e B b bs A':=by
 have one:∀p,Lib.BuilderAtF T e B b p bs A->Lib.BuilderAtF T e B b p bs A':=by
  rintro p ⟨h1,v,h2,⟨h3,h4⟩,h5⟩;refine⟨h1,v,k _ _ h2 rfl,⟨h3,?_⟩,h5⟩;rcases h4 with h4 | ⟨g,cap,cur,fz,h6,h7,h8,h9⟩
  ·exact .inl h4
  ·exact .inr ⟨g,cap,cur,fz,h6,h7,k _ _ h8 rfl,h9⟩
 exact h.elim (fun x=>.inl (one _ x)) (fun x=>.inr (one _ x))
def eN{A B:World}{row:Option Nat}(hg:A.grownBy B row)(hr:∀r,row=some r->∃o:Obj,A.heap[r]?=some o/\o.isCells=false){b:Nat}{o:Obj}(ho:A.heap[b]?=some o)(hc:o.isCells=true):B.heap[b]?=some o:=by
 refine(hg.block b (cK.1 ho).1 fun e=>?_).trans ho;obtain⟨o',ho',hc'⟩:=hr b e.symm;rw[ho]at ho';cases ho';rw[hc]at hc';cases hc'
def aD{W:World}{b T:Nat}{cs:Array Value}{fz:Nat×Nat}(h:W.heap[b]?=some (.cells cs T fz)){j:Nat}{v:Value}(hj:cs[j]?=some v):W.cell? ⟨b,j,none⟩=some v:=by
 simp only[World.cell?,h]
 simpa using hj
def jM{A A':World}(h:Below A.heap.size A A')(j:Nat)(o:Obj)(ho:A.heap[j]?=some o):A'.heap[j]?=some o:=(h.block j (cK.1 ho).1).trans ho
def SE(n:Nat)(a:Option Addr)(len cap:Nat)(w:World) :
  CallsIn Fence.wide n prog 179 #[.agg #[.slice a len cap]] w fun e w'=>e=.returned (.bool (decide ((len:Int)=0)))/\w'=w.alloc (.cells #[.slice a len cap] 35):=by
 refine kV func179 rfl trivial ?_ rfl;simp only[ntmps179,dW,List.length_cons,bq,Nat.reduceAdd,Nat.reduceSub,dw,dv,du,dz,List.nil_append,List.cons_append]
 gi_wp2
 go_ret
 exact⟨rfl,rfl⟩
def nine{d:Nat}(hd:d<1000000000):∃c:Nat,c<=9/\wrap64 (9-((dec d).length:Int))=(c:Int)/\gH 9 d=List.replicate c 48++dec d:=by
 have hd':d<10^9:=by rw[show(10:Nat)^9=1000000000 by decide];exact hd
 have h1:(dec d).length<=9:=kI O hd';refine⟨9-(dec d).length,O,?_,Dq O hd'⟩;rw[show(9:Int)-((dec d).length:Int)=((9-(dec d).length:Nat):Int) by omega];have hk:9-(dec d).length<=9:=Nat.sub_le _ _;generalize 9-(dec d).length=k at hk|-;unfold wrap64;omega
def lens(t d:List UInt8)(c:Nat)(hd:d.length<=9)(hc:c<=9)(ht:t.length<=10000000000000:=by omega) :
  (Lib.byteCells t).length+(⟨Array.replicate c 48⟩:ByteArray).size<=140737488355328/\(Lib.byteCells t++Lib.strCells ⟨Array.replicate c 48⟩).length+(⟨d.toArray⟩:ByteArray).size<=140737488355328/\(Lib.byteCells t).length+(⟨d.toArray⟩:ByteArray).size<=140737488355328:=by
 have h1:(⟨Array.replicate c 48⟩:ByteArray).size=c:=Array.size_replicate;have h2:(⟨d.toArray⟩:ByteArray).size=d.length:=dW;rw[eZ,Lib.strCells_length,Lib.byteCells_length,h1,h2];omega
def IG{n0 L cap:Nat}{a:Option Addr}{W0 W W':World}{bs bs':List Value}(h2:Below (n0+2) W0 W)(h3:n0+4<=W.heap.size)(h4:W.heap[n0+3]?=some (.cells #[.slice a L cap] 33 (0,0)))
  (hb:Below (n0+2) W W') (ho:∀k o,W.heap[k]?=some o->some k≠some (n0+2)->(∀c fz,o≠.cells c 5 fz)->W'.heap[k]?=some o)
  (h1:Lib.IsBuilderF 287 5 (n0+2) (n0+2) bs W) (h1':Lib.IsBuilderF 287 5 (n0+2) (n0+2) bs' W') :
  KeepsOthers W W'/\KpB n0 (n0+3) W W'/\Lib.IsBuilderF 287 5 (n0+2) (n0+2) bs' W'/\Below (n0+2) W0 W'/\n0+4<=W'.heap.size/\W'.heap[n0+3]?=some (.cells #[.slice a L cap] 33 (0,0)):=by
 have h5:=ho _ _ h4 (by simp) (by intro c fz h;cases h)
 obtain⟨cs,T,fz,hbc⟩:∃cs T fz,W.heap[n0+2]?=some (.cells cs T fz):=by
  rcases h1 with⟨_,v,h,_⟩ | ⟨_,v,h,_⟩
  ·exact⟨_,_,_,h⟩
  ·exact⟨_,_,_,h⟩
 refine⟨⟨hb.size,fun k o hk hc=>ho k o hk ?_ (by rintro c fz rfl;cases hc)⟩,⟨hb.mono O,fun v hv=>?_⟩,h1',h2.trans hb,Nat.le_trans h3 hb.size,h5⟩
 ·rintro e;cases e;rw[hbc]at hk;cases hk;cases hc
 ·simp only[World.cell?,h4,h5]at hv|-;exact hv
def aE6(n:Nat)(a:Option Addr)(len cap:Nat)(h:len≠0)(w:World) :
  CallsIn Fence.wide n prog 179 #[.agg #[.slice a len cap]] w fun e w'=>e=.returned (.bool false)/\w'=w.alloc (.cells #[.slice a len cap] 35):=by
 have:=SE n a len cap w;rw[mO O]at this;exact this
def Rg(a:Option Addr)(cap:Nat)(w:World) :
  CallsIn Fence.wide 1001 prog 178 #[.agg #[.slice a 0 cap]] w fun e W'=>e=.returned (.string ⟨#[48]⟩)/\Below w.heap.size w W':=by
 refine kV func178 rfl trivial ?_ rfl;simp only[ntmps178,dW,List.length_cons,bq,Nat.reduceAdd,Nat.reduceSub,dw,dv,du,dz,List.nil_append,List.cons_append]
 gi_wp2_with (refine⟨trivial,?_⟩;gi_at_call 179;refine(SE _ _ 0 _ _).mono ?_;rintro e w' ⟨rfl,rfl⟩)
 go_ret
 exact⟨rfl,((cF _ w).alloc (aY _) _).alloc (by simp) _⟩
def ZO(a:Option Addr)(cap:Nat)(vs:List D9)(h0:vs.length≠0)(w:World)(M:Nat->Prop)(hM:Good M w)(hI:Sl1 bh7 w.heap.size w (.slice a vs.length cap) vs)(hlen:vs.length<=1099511627776:=by omega) :
  CallsIn Fence.wide 1001 prog 178 #[.agg #[.slice a vs.length cap]] w fun e W'=>e=.returned (.string ⟨(tx vs.length (bk vs vs.length)).toArray⟩)/\Below w.heap.size w W':=by
 refine xE func178 rfl trivial ?_ rfl;simp only[ntmps178,dW,List.length_cons,bq,Nat.reduceAdd,Nat.reduceSub,dw,dv,du,dz,List.nil_append,List.cons_append];generalize hL:vs.length=L at hI hlen h0|-
 gi_wp2_with (refine⟨trivial,?_⟩;gi_at_call 179;refine(aE6 _ _ _ _ h0 _).mono ?_;rintro e w' ⟨rfl,rfl⟩)
 gi_wp2_with (refine⟨trivial,?_⟩;gi_at_call 240;refine(Mi _ _ _ _ _).mono ?_;rintro e w' ⟨rfl,rfl⟩)
 obtain⟨n0,hn0⟩:∃n0,w.heap.size=n0:=⟨_,rfl⟩
 rw[hn0]at hI|-;obtain⟨W0,hW0⟩:∃W0,((((w.alloc (.cells #[.slice a L cap] 35)).alloc (.cells #[.slice a L cap] 35)).alloc (.cells #[.pointer none,.slice none 0 0] 287)).alloc (.cells #[.slice a L cap] 33))=W0:=⟨_,rfl⟩
 have hs0:W0.heap.size=n0+4:=by rw[<-hW0];simp[hn0]
 have hA0:W0.heap[n0]?=some (.cells #[.slice a L cap] 35 (0,0)):=by rw[<-hW0,bM _ _ _ (by simp;omega),bM _ _ _ (by simp;omega),bM _ _ _ (by simp;omega),<-hn0];exact bG w _
 have hT0:W0.heap[n0+2]?=some (.cells #[.pointer none,.slice none 0 0] 287 (0,0)):=by
  rw[<-hW0,bM _ _ _ (by simp;omega)];have:=bG ((w.alloc (.cells #[.slice a L cap] 35)).alloc (.cells #[.slice a L cap] 35)) (.cells #[.pointer none,.slice none 0 0] 287);rw[bL,bL,hn0]at this;exact this
 have hP0:W0.heap[n0+3]?=some (.cells #[.slice a L cap] 33 (0,0)):=by
  rw[<-hW0];have:=bG (((w.alloc (.cells #[.slice a L cap] 35)).alloc (.cells #[.slice a L cap] 35)).alloc (.cells #[.pointer none,.slice none 0 0] 287)) (.cells #[.slice a L cap] 33);rw[bL,bL,bL,hn0]at this;exact this
 have hB0:Below n0 w W0:=by
  rw[<-hW0];exact((((cF _ w).alloc O _).alloc (by simp;omega) _).alloc (by simp;omega) _).alloc (by simp;omega) _
 rw[hW0];have hG0:Good M W0:=hM.below hn0.symm hB0
 refine wpIn_rangeFunc_ownF (w0:=W0) rfl O (gf:=274) (lb:=#[.pointer (some ⟨n0+1+1+1,0,none⟩)]) rfl trivial (enters_of func274 (by kernel_rfl) rfl)
  (zR (enc:=bh7) (n0+3) n0 (.slice a L cap) vs O W0 O O (aD hP0 rfl) (hI.below hB0)) Tp (TN O O) (cF _ _) (fun _=>rfl)
  (fun pre W=>Lib.IsBuilderF 287 5 (n0+2) (n0+2) (Lib.byteCells (tx L pre)) W/\Below (n0+2) W0 W/\n0+4<=W.heap.size/\W.heap[n0+3]?=some (.cells #[.slice a L cap] 33 (0,0)))
  (fun _ _ _=>False) ?own (fun _=>by intro s A B row hs;exact hs.elim) ?start
  (fun x=>{ tmps:=#[.agg #[.slice a L cap],.pointer (some ⟨n0,0,none⟩),.string ⟨#[]⟩,.pointer (some ⟨n0+1+1,0,none⟩),.int .i64 (x.1:Int),.int .u32 (x.2.1:Int),undef,.agg #[.slice a L cap],.bool false,.pointer (some ⟨n0,0,none⟩),.slice a L cap,.func (.func 274) #[] #[.pointer (some ⟨n0+1+1+1,0,none⟩)],.int .i64 (x.1:Int),.int .u32 (x.2.1:Int),undef,undef,undef,undef,undef,undef,undef,undef,undef,undef,undef,undef,undef,undef,undef,undef,undef],defers:=[] }) ?assign ?body ?done ?stop
 case own=>
  rintro s A A' row ⟨h1,h2,h3,h4⟩ hg hr;exact⟨wJ h1 fun j o ho hc=>eN hg (fun r e=>(hr r e).2) ho hc,h2.grown hg O (fun k e=>by have:=(hr k e).1;omega),Nat.le_trans h3 hg.size,eN hg (fun r e=>(hr r e).2) h4 rfl⟩
 case start=>
  exact⟨Lib.IsBuilderF.of (.inl ⟨aY _,_,hT0,⟨rfl,.inl ⟨rfl,rfl⟩⟩,by simp[Value.ownBlock]⟩),cF _ _,O,hP0⟩
 case assign=>
  intro l x W K hK
  gi_wp2
  exact hK
 case body=>
  rintro l pre x W ⟨h1,h2,h3,h4⟩ hlt;have hG:Good M W:=hM.below hn0.symm (hB0.trans (h2.mono O));have hA:W.heap[n0]?=some (.cells #[.slice a L cap] 35 (0,0)):=(h2.block n0 O).trans hA0;have cA:W.cell? ⟨n0,0,none⟩=some (.slice a L cap):=aD hA rfl;have hx:x.2.1<1000000000:=x.2.2;obtain⟨c,hc9,hci,hz⟩:=nine hx;have hpl:=bk7 L pre;have htx1:(x.1:Int)<(L:Int)-1->tx L (pre++[x])=tx L pre++List.replicate c 48++dec x.2.1:=fun h=>by rw[Ks,if_pos O,hz,eE]
  have htx2:¬(x.1:Int)<(L:Int)-1->tx L (pre++[x])=tx L pre++dec x.2.1:=fun h=>by rw[Ks,if_neg O]
  have h32:n0+2<=W.heap.size:=O
  rw[hL]at hlt
  obtain⟨lA,lB,lC⟩:=lens (tx L pre) (dec x.2.1) c (by have:(dec x.2.1).length<=9:=kI O (by rw[show(10:Nat)^9=1000000000 by decide];exact hx)
                                                      exact this) hc9
  have hcell:Lib.byteCells (tx L pre)++Lib.strCells ⟨Array.replicate c 48⟩++Lib.strCells ⟨(dec x.2.1).toArray⟩=Lib.byteCells (tx L pre++List.replicate c 48++dec x.2.1):=by
   rw[KJ,KJ,Lq,Lq];simp
  have hcell2:Lib.byteCells (tx L pre)++Lib.strCells ⟨(dec x.2.1).toArray⟩=Lib.byteCells (tx L pre++dec x.2.1):=by
   rw[KJ,Lq]
  by_cases hc:(x.1:Int)<(L:Int)-1
  all_goals gi_wp2_with (refine⟨trivial,?_⟩;gi_at_call 241;refine(qq l (iR.2 (aC0 x.2.1 _ M hG))).mono ?_;rintro e w1 ⟨rfl,hb1⟩;have cA1:w1.cell? ⟨n0,0,none⟩=some (.slice a L cap):=(hb1.cell (p:=⟨n0,0,none⟩) (show n0<W.heap.size by omega)).trans cA)
  ·rw[hci]
   gi_wp2_with (refine⟨trivial,?_⟩;gi_at_call 243;refine(qq l (iR.2 (VL c hc9 _))).mono ?_;rintro e w2 ⟨rfl,hb2⟩)
   have b2:Lib.IsBuilderF 287 5 (n0+2) (n0+2) (Lib.byteCells (tx L pre)) w2:=wJ (wJ h1 fun j o ho _=>jM hb1 j o ho) fun j o ho _=>jM hb2 j o ho;have s2:n0+2<=w2.heap.size:=Nat.le_trans (Nat.le_trans h32 hb1.size) hb2.size;have q:CallsIn (Fence.wide.inRound l) 998 prog 242 #[.pointer (some ⟨n0+1+1,0,none⟩),.string ⟨Array.replicate c 48⟩] w2 fun e w'=>e=.returned (.tuple #[.int .i64 (⟨Array.replicate c 48⟩:ByteArray).size,.nilIface])/\(Lib.IsBuilderF 287 5 (n0+2) (n0+2) (Lib.byteCells (tx L pre)++Lib.strCells ⟨Array.replicate c 48⟩) w'/\Below (n0+2) w2 w'/\Lib.OthersKept 5 (some (n0+2)) w2 w'):=qq l (iR.2 (JN (n0+2) (n0+2) _ ⟨Array.replicate c 48⟩ w2 b2 lA s2))
   gi_wp2_with (refine⟨trivial,?_⟩;gi_at_call 242;refine q.mono ?_;clear q;rintro e w3 ⟨rfl,b3,hl3,ho3⟩)
   have s3:n0+2<=w3.heap.size:=Nat.le_trans s2 hl3.size;have q:CallsIn (Fence.wide.inRound l) 998 prog 242 #[.pointer (some ⟨n0+1+1,0,none⟩),.string ⟨(dec x.2.1).toArray⟩] w3 fun e w'=>e=.returned (.tuple #[.int .i64 (⟨(dec x.2.1).toArray⟩:ByteArray).size,.nilIface])/\(Lib.IsBuilderF 287 5 (n0+2) (n0+2) ((Lib.byteCells (tx L pre)++Lib.strCells ⟨Array.replicate c 48⟩)++Lib.strCells ⟨(dec x.2.1).toArray⟩) w'/\Below (n0+2) w3 w'/\Lib.OthersKept 5 (some (n0+2)) w3 w'):=qq l (iR.2 (JN (n0+2) (n0+2) _ ⟨(dec x.2.1).toArray⟩ w3 b3 lB s3))
   gi_wp2_with (refine⟨trivial,?_⟩;gi_at_call 242;refine q.mono ?_;clear q;rintro e w4 ⟨rfl,b4,hl4,ho4⟩)
   rw[hcell,<-htx1 hc]at b4;exact IG h2 h3 h4 ((((hb1.mono h32).trans (hb2.mono (Nat.le_trans h32 hb1.size))).trans hl3).trans hl4) (fun k o ho hk hu=>ho4 k o (ho3 k o (jM hb2 k o (jM hb1 k o ho)) hk hu) hk hu) h1 b4
  ·have b1:Lib.IsBuilderF 287 5 (n0+2) (n0+2) (Lib.byteCells (tx L pre)) w1:=wJ h1 fun j o ho _=>jM hb1 j o ho;have s1:n0+2<=w1.heap.size:=Nat.le_trans h32 hb1.size;have q:CallsIn (Fence.wide.inRound l) 998 prog 242 #[.pointer (some ⟨n0+1+1,0,none⟩),.string ⟨(dec x.2.1).toArray⟩] w1 fun e w'=>e=.returned (.tuple #[.int .i64 (⟨(dec x.2.1).toArray⟩:ByteArray).size,.nilIface])/\(Lib.IsBuilderF 287 5 (n0+2) (n0+2) (Lib.byteCells (tx L pre)++Lib.strCells ⟨(dec x.2.1).toArray⟩) w'/\Below (n0+2) w1 w'/\Lib.OthersKept 5 (some (n0+2)) w1 w'):=qq l (iR.2 (JN (n0+2) (n0+2) _ ⟨(dec x.2.1).toArray⟩ w1 b1 lC s1))
   gi_wp2_with (refine⟨trivial,?_⟩;gi_at_call 242;refine q.mono ?_;clear q;rintro e w4 ⟨rfl,b4,hl4,ho4⟩)
   rw[hcell2,<-htx2 hc]at b4;exact IG h2 h3 h4 ((hb1.mono h32).trans hl4) (fun k o ho hk hu=>ho4 k o (jM hb1 k o ho) hk hu) h1 b4
 case done=>
  rintro D ys W hD rfl ⟨h1,h2,h3,h4⟩ hK;have s1:n0+2<=W.heap.size:=O
  have hbW:Below n0 w W:=hB0.trans (h2.mono O)
  gi_wp2_with (refine⟨trivial,?_⟩;gi_at_call 244;refine(iR.2 (Tryz.Builder_String_any_k (n0+2) (n0+2) _ W h1 s1)).mono ?_;rintro e w1 ⟨rfl,b1,hl1,ho1⟩)
  have hne:some D≠some (n0+2):=by intro e;cases e;omega
  have hK1:=ho1 D _ hK hne (by intro c fz h;cases h);refine⟨by simp,.inl ⟨_,_,rfl,wP hK1,?_⟩⟩;rw[hn0];refine⟨_,Cb rfl _ _ _,rfl,(hbW.trans (hl1.mono O)).trans ?_⟩;exact tz (w:=w) O w1 D _ _ O hK1 rfl rfl
 case stop=>
  rintro D c pre W hD _ h hK;exact h.elim
def KZ(n:Nat)(hn:(dg n).length<=1099511627776:=by omega):aL prog 178 [mT n] (.ret [bS (dec n)]):=by
 by_cases h0:n=0
 ·subst h0;refine⟨bJ (by kernel_rfl),fun M w vs hM hv=>?_⟩
  match vs,hv with
  | [v],hv=>
    obtain⟨⟨us,rfl,hus⟩,_⟩:=hv
    match us,hus with
    | [u],hus=>
      obtain⟨a,cap,rfl,hel⟩:=ZQ hus.1;have hl:((dg 0).map (fun d:Nat=>(d:Int))).length=0:=by rw[yN.2 rfl];rfl
      rw[hl];refine((iR (n:=1001)).1 (Rg a cap w)).mono ?_;rintro e w' ⟨rfl,hb⟩;exact⟨hb,[.string ⟨#[48]⟩],rfl,⟨by rw[Og],rfl⟩,trivial⟩
    | [],hus=>exact hus.elim
    | _::_::_,hus=>exact hus.2.elim
  | [],hv=>exact hv.elim
  | _::_::_,hv=>exact hv.2.elim
 ·refine⟨bJ (by kernel_rfl),fun M w vs hM hv=>?_⟩
  match vs,hv with
  | [v],hv=>
    obtain⟨⟨us,rfl,hus⟩,_⟩:=hv
    match us,hus with
    | [u],hus=>
      obtain⟨ds,hds⟩:=Mu (ke n);have hdl:(dg n).length=ds.length:=by rw[<-hds,aR]
      obtain⟨a,cap,rfl,hel⟩:=ZQ hus.1;have hl:((dg n).map (fun d:Nat=>(d:Int))).length=ds.length:=by rw[aR,hdl]
      rw[hl]
      have hI:Sl1 bh7 w.heap.size w (.slice a ds.length cap) ds:=by
       refine⟨a,cap,rfl,?_⟩;rcases hel with h | ⟨b,off,rfl,hb,hc⟩
       ·left
        have:(dg n).length=0:=by rw[<-aR (f:=fun d:Nat=>(d:Int)),h];rfl
        exact fu O
       ·refine .inr ⟨b,off,rfl,hb,fun j v hj=>hc j _ ?_⟩;rw[<-hds,eU,cC,hj];rfl
      have hne:ds.length≠0:=fun h=>h0 (yN.1 (fu O))
      have hlast:∀d,ds.getLast? = some d->d.1≠0:=fun d hd=>by
       refine Lw (B:=1000000000) O n d.1 ?_;show(dg n).getLast? = _;rw[<-hds,List.getLast?_map,hd];rfl
      have ht:=(ac8 ds hlast ds.length O (aY _)).2;rw[iY,eF,hds,gw]at ht;have h1:=ZO a cap ds hne w M hM.2 hI;rw[ht]at h1;refine((iR (n:=1001)).1 h1).mono ?_;rintro e w' ⟨rfl,hb⟩;exact⟨hb,[.string ⟨(dec n).toArray⟩],rfl,⟨rfl,rfl⟩,trivial⟩
    | [],hus=>exact hus.elim
    | _::_::_,hus=>exact hus.2.elim
  | [],hv=>exact hv.elim
  | _::_::_,hv=>exact hv.2.elim
end Go.Sy
namespace Go.Sy
open Go Go.Proofs Go.RowKit Go.Shelf Tryz Ord
attribute [local go_sem] Oper.semAt_some
def bz0:Tr:=uQ 36 0 0 1 0 2 2 2 1 2 2 6 7 (iQ 64 3 0 3 1 3 2 1 0 1 1 1 2 8 9 (fW 4 4 1 4 2))
def VJ:aM prog f246 bZ [.v (some 3),.v (some 3),.ref 3]=bz0:=by kernel_rfl
def lM(ps:List Rat)(c:Rat):Rat:=ps.foldr (fun a v=>v*c+a) 0
def UK(v c x:Rat)(A B C:Nat)(hv:Fit A v)(hc:Fit B c)(hx:Fit C x)(hA:A+B+C<=4294967296):aL prog 246 [(qT v:aG),(qT c:aG),(.one (.aj (qC x)):aG)] (.ret [qT (v*x+c)]):=by
 refine dvr (ins:=[.v (qT v),.v (qT c),.ref (qC x)]) func246 VJ ?_;apply aA (bg v x A C hv hx);apply aA (iU (v*x) c _ B (hv.mul hx) hc);exact aK
section
variable(M:Nat->Prop)(w:World)(B:Nat)
structure QV where
 q:Rat
 u0:Value
 u1:Value
 u2:Value
 fit:Fit B q
 rep:ab M w (qC q) [u0,u1,u2]
end
theorem ao2(M:Nat->Prop)(w:World)(B:Nat)(hB:1<=B):Nonempty (QV M w B):=
 ⟨⟨0,.slice none 0 0,.bool false,.slice none 0 0,Fit.zero hB,ab.sub db ⟨⟨rfl,rfl⟩,⟨rfl,rfl⟩,⟨rfl,rfl⟩,trivial⟩⟩⟩
def hv{M:Nat->Prop}{w:World}{B:Nat}(x:Rat)(pre:List (Nat×QV M w B)):Rat:=pre.foldl (fun v c=>v*x+c.2.q) 0
def bd8{W:World}{b T:Nat}{cs:Array Value}(h:W.heap[b]?=some (.cells cs T (0,0)))(j:Nat):W.frozen? ⟨b,j,none⟩=false:=by
 simp[World.frozen?,h]
def gE{P:Program}{W:World}{b T j:Nat}{cs:Array Value}{u:Value}(h:W.heap[b]?=some (.cells cs T (0,0)))(hj:j<cs.size)(o:u.oneCell'=true) :
  (store ⟨b,j,none⟩ u).run P W=.ok () (W.setRow b (cs.setIfInBounds j u)):=by
 have hcell:W.cell? ⟨b,j,none⟩=some cs[j]:=by simp[World.cell?,h,hj]
 have hfro:W.frozen? ⟨b,j,none⟩=false:=by simp[World.frozen?,h]
 rw[run_store P W _ u _ o,hcell];simp[hfro,tn W b j cs T (0,0) u h]
def ur{P:Program}{W:World}{b T:Nat}{c0 c1 c2 u0 u1 u2:Value}(h:W.heap[b]?=some (.cells #[c0,c1,c2] T (0,0)))(o0:u0.oneCell'=true)(o1:u1.oneCell'=true)(o2:u2.oneCell'=true) :
  (((store ⟨b,0,none⟩ u0).run P W).andThen fun _ w'=>((store ⟨b,1,none⟩ u1).run P w').andThen fun _ w'=>(store ⟨b,2,none⟩ u2).run P w')=.ok () (W.setRow b #[u0,u1,u2]):=by
 rw[gE h (by simp) o0,dK,gE (cJ W b _ _ T (0,0) h) (by simp) o1,dK,jF,gE (cJ W b _ _ T (0,0) h) (by simp) o2,jF];rfl
def below_setRow{n:Nat}{A W:World}{g:Nat}(h:Below n A W)(cs:Array Value)(hg:n<=g:=by omega):Below n A (W.setRow g cs):=
 ⟨h.os,h.tape,h.output,by simpa[World.setRow]using h.size,fun k hk=>by
  rw[dC W g k cs O];exact h.block k hk⟩
def an7{M:Nat->Prop}{w:World}{B:Nat}(x:Rat)(pre:List (Nat×QV M w B))(y:Nat×QV M w B):hv x (pre++[y])=hv x pre*x+y.2.q:=by simp[hv]
theorem ab5{M:Nat->Prop}{w:World}{B C:Nat}{x:Rat}(hx:Fit C x):∀(pre:List (Nat×QV M w B))(v:Rat)(A:Nat),Fit A v->Fit (pre.length*(B+C+1)+A) (pre.foldl (fun v c=>v*x+c.2.q) v)
 | [],v,A,h=>by simpa using h
 | y::ys,v,A,h=>by
   have:=ab5 hx ys (v*x+y.2.q) _ ((h.mul hx).add y.2.fit);refine this.mono ?_;rw[List.length_cons,Nat.add_mul];omega
def bV8{M:Nat->Prop}{w:World}{q:Rat}{vs:List Value}(h:cG M w [qT q] vs):∃v0 v1 v2,pack vs=.agg #[v0,v1,v2]/\ab M w (qC q) [v0,v1,v2]:=by
 match vs,h with
 | [v],h=>
   obtain⟨⟨us,rfl,hus⟩,_⟩:=h
   match us,hus with
   | [a,b,c],hus=>exact⟨a,b,c,rfl,hus⟩
   | [],hus=>exact hus.elim
   | [_],hus=>exact hus.2.elim
   | [_,_],hus=>exact hus.2.2.elim
   | _::_::_::_::_,hus=>exact hus.2.2.2.elim
 | [],h=>exact h.elim
 | _::_::_,h=>exact h.2.elim
def Vq(M:Nat->Prop)(w:World)(B C:Nat)(x:Rat)(hx:Fit C x)(hM:cX M w)(hB:1<=B)[Inhabited (QV M w B)](a:Option Addr)(cap:Nat)(ts:List (QV M w B))(hlen:ts.length<4611686018427387904)(hbig:ts.length*(B+C+1)+B+C+1<=4294967296)
  (hI:Sl3 QV.u0 QV.u1 QV.u2 w.heap.size w (.slice a ts.length cap) ts) (z0 z1 z2:Value) (hz:ab M w (qC 0) [z0,z1,z2]) (xp:Value) (hxp:(aE.aj (qC x)).rep M w xp) :
  CallsIn Fence.wide 1001 prog 245 #[.slice a ts.length cap,.agg #[z0,z1,z2],.func (.func 246) #[] #[xp]] w fun e W'=>Below w.heap.size w W'/\∃u0 u1 u2,e=.returned (.agg #[u0,u1,u2])/\ab M W' (qC (hv x (bk ts ts.length))) [u0,u1,u2]:=by
 refine xE func245 rfl trivial ?_ rfl;simp only[ntmps245,dW,List.length_cons,bq,Nat.reduceAdd,Nat.reduceSub,dw,dv,du,dz,List.nil_append,List.cons_append];generalize hL:ts.length=L at hI hlen hbig|-
 gi_wp2_with (refine⟨trivial,?_⟩;gi_at_call 248;refine(Po _ _ _ _ _).mono ?_;rintro e w' ⟨rfl,rfl⟩)
 obtain⟨n0,hn0⟩:∃n0,w.heap.size=n0:=⟨_,rfl⟩
 obtain⟨hM,hMg⟩:=hM;rw[hn0]at hI hM|-;obtain⟨W0,hW0⟩:∃W0,((((w.alloc (.cells #[z0,z1,z2] 39)).alloc (.cells #[.func (.func 246) #[] #[xp]] 224)).alloc (.cells #[.slice none 0 0,.bool false,.slice none 0 0] 39)).alloc (.cells #[.slice a L cap] 72))=W0:=⟨_,rfl⟩
 have hs0:W0.heap.size=n0+4:=by rw[<-hW0];simp[hn0]
 have hX0:W0.heap[n0]?=some (.cells #[z0,z1,z2] 39 (0,0)):=by rw[<-hW0,bM _ _ _ (by simp;omega),bM _ _ _ (by simp;omega),bM _ _ _ (by simp;omega),<-hn0];exact bG w _
 have hS0:W0.heap[n0+1]?=some (.cells #[.func (.func 246) #[] #[xp]] 224 (0,0)):=by
  rw[<-hW0,bM _ _ _ (by simp;omega),bM _ _ _ (by simp;omega)];have:=bG (w.alloc (.cells #[z0,z1,z2] 39)) (.cells #[.func (.func 246) #[] #[xp]] 224);rw[bL,hn0]at this;exact this
 have hR0:W0.heap[n0+2]?=some (.cells #[.slice none 0 0,.bool false,.slice none 0 0] 39 (0,0)):=by
  rw[<-hW0,bM _ _ _ (by simp;omega)];have:=bG ((w.alloc (.cells #[z0,z1,z2] 39)).alloc (.cells #[.func (.func 246) #[] #[xp]] 224)) (.cells #[.slice none 0 0,.bool false,.slice none 0 0] 39);rw[bL,bL,hn0]at this;exact this
 have hP0:W0.heap[n0+3]?=some (.cells #[.slice a L cap] 72 (0,0)):=by
  rw[<-hW0];have:=bG (((w.alloc (.cells #[z0,z1,z2] 39)).alloc (.cells #[.func (.func 246) #[] #[xp]] 224)).alloc (.cells #[.slice none 0 0,.bool false,.slice none 0 0] 39)) (.cells #[.slice a L cap] 72);rw[bL,bL,bL,hn0]at this;exact this
 have hB0:Below n0 w W0:=by
  rw[<-hW0];exact((((cF _ w).alloc O _).alloc (by simp;omega) _).alloc (by simp;omega) _).alloc (by simp;omega) _
 rw[hW0]
 refine wpIn_rangeFunc_ownH (w0:=W0) rfl O (gf:=281) (lb:=#[.pointer (some ⟨n0+1+1+1,0,none⟩)]) rfl trivial (enters_of func281 (by kernel_rfl) rfl)
  (zZ (e0:=QV.u0) (e1:=QV.u1) (e2:=QV.u2) (n0+3) n0 (.slice a L cap) ts O W0 O O (aD hP0 rfl) (hI.below hB0)) Tp (TN O O) (cF _ _) (fun _=>rfl)
  (fun pre W=>Below n0 w W/\n0+4<=W.heap.size/\W.heap[n0+1]?=some (.cells #[.func (.func 246) #[] #[xp]] 224 (0,0))/\W.heap[n0+2]?=some (.cells #[.slice none 0 0,.bool false,.slice none 0 0] 39 (0,0)) /\
   ∃u0 u1 u2,W.heap[n0]?=some (.cells #[u0,u1,u2] 39 (0,0))/\ab (fun b=>M b\/b=n0\/b=n0+2) W (qC (hv x pre)) [u0,u1,u2])
  (fun _ _ _=>False) ?own (fun _=>by intro s A B row hs;exact hs.elim) ?start
  (fun y a' W=>∃b,n0+4<=b/\a'={ tmps:=#[.slice a L cap,.agg #[z0,z1,z2],.func (.func 246) #[] #[xp],undef,.pointer (some ⟨n0,0,none⟩),.pointer (some ⟨n0+1,0,none⟩),.pointer (some ⟨n0+1+1,0,none⟩),undef,.pointer (some ⟨b,0,none⟩),.slice a L cap,.func (.func 281) #[] #[.pointer (some ⟨n0+1+1+1,0,none⟩)],.int .i64 (y.1:Int),.agg #[y.2.u0,y.2.u1,y.2.u2],undef,undef,undef,undef,undef],defers:=[] } /\ W.heap[b]?=some (.cells #[y.2.u0,y.2.u1,y.2.u2] 39 (0,0)))
  ?ax ?assign ?body ?done ?stop
 case own=>
  rintro s A A' row ⟨h1,h2,h3,h4,u0,u1,u2,h5,h6⟩ hg hr;have hr':∀r,row=some r->∃o:Obj,A.heap[r]?=some o/\o.isCells=false:=fun r e=>(hr r e).2;refine⟨h1.grown hg O (fun k e=>by have:=(hr k e).1;omega),Nat.le_trans h2 hg.size,eN hg hr' h3 rfl,eN hg hr' h4 rfl,u0,u1,u2,eN hg hr' h5 rfl,h6.mono fun b o hb ho hc=>⟨hb,eN hg hr' ho hc⟩⟩
 case start=>
  refine⟨hB0,O,hS0,hR0,z0,z1,z2,hX0,hz.mono fun b o hb ho hc=>?_⟩;have hlt:=(cK.1 ho).1;exact⟨fun h=>h.elim hb O,(hB0.block b O).trans ho⟩
 case ax=>
  rintro y a' _ A A' row ⟨b,h1,h2,h3⟩ hg hr;exact⟨b,h1,h2,eN hg (fun r e=>(hr r e).2) h3 rfl⟩
 case assign=>
  rintro l pre y W K ⟨h1,h2,h3,h4,u0,u1,u2,h5,h6⟩ hK
  gi_wp2
  obtain⟨o0,o1,o2⟩:y.2.u0.oneCell'=true/\y.2.u1.oneCell'=true/\y.2.u2.oneCell'=true:=by
   have:=y.2.rep.one;exact⟨this _ (by simp),this _ (by simp),this _ (by simp)⟩
  have hnew:=bG W (.cells #[.slice none 0 0,.bool false,.slice none 0 0] 39);rw[ur hnew o0 o1 o2];obtain⟨W',hW'⟩:∃W',(W.alloc (.cells #[.slice none 0 0,.bool false,.slice none 0 0] 39)).setRow W.heap.size #[y.2.u0,y.2.u1,y.2.u2]=W':=⟨_,rfl⟩
  have hold:∀k,k<W.heap.size->W'.heap[k]?=W.heap[k]?:=fun k hk=>by rw[<-hW',dC _ _ _ _ O,bM _ _ _ hk]
  have hself:W'.heap[W.heap.size]?=some (.cells #[y.2.u0,y.2.u1,y.2.u2] 39 (0,0)):=by rw[<-hW'];exact cJ _ _ _ _ _ _ hnew
  have hbel:Below W.heap.size W W':=by rw[<-hW'];exact below_setRow ((cF _ W).alloc (aY _) _) _ (aY _)
  have hlt:∀{k:Nat}{o:Obj},W.heap[k]?=some o->k<W.heap.size:=fun h=>(cK.1 h).1;rw[hW']
  gi_wp2
  refine hK _ _ ⟨hbel.size,fun k o _ ho _=>(hold k (hlt ho)).trans ho⟩ ⟨hbel.mono O,fun v hv=>?_⟩
   ⟨h1.trans (hbel.mono O),Nat.le_trans h2 hbel.size,(hold _ (hlt h3)).trans h3,(hold _ (hlt h4)).trans h4,u0,u1,u2,(hold _ (hlt h5)).trans h5,h6.mono fun b o hb ho _=>⟨hb,(hold b (hlt ho)).trans ho⟩⟩
   ⟨W.heap.size,O,rfl,hself⟩
  simp only[World.cell?,hold (n0+3) O]at hv|-;exact hv
 case body=>
  rintro l pre y a' W hl _ ⟨h1,h2,h3,h4,u0,u1,u2,h5,h6⟩ ⟨b,hb,rfl,hbc⟩ hlt;have hltW:∀{k:Nat}{o:Obj},W.heap[k]?=some o->k<W.heap.size:=fun h=>(cK.1 h).1;have c0:W.cell? ⟨n0,0,none⟩=some u0:=aD h5 rfl;have c1:W.cell? ⟨n0,1,none⟩=some u1:=aD h5 rfl;have c2:W.cell? ⟨n0,2,none⟩=some u2:=aD h5 rfl;have cs:W.cell? ⟨n0+1,0,none⟩=some (.func (.func 246) #[] #[xp]):=aD h3 rfl;have cb0:W.cell? ⟨b,0,none⟩=some y.2.u0:=aD hbc rfl;have cb1:W.cell? ⟨b,1,none⟩=some y.2.u1:=aD hbc rfl;have cb2:W.cell? ⟨b,2,none⟩=some y.2.u2:=aD hbc rfl;have hM1:∀k,(M k\/k=n0\/k=n0+2)->k<W.heap.size:=fun k h=>h.elim (fun h=>by have:=hM k h;omega) (fun h=>O)
  have hkeep:bP M w (fun b=>M b\/b=n0\/b=n0+2) W:=fun k o hk ho _=>by
   have hlt:=(cK.1 ho).1;exact⟨fun h=>h.elim hk O,(h1.block k O).trans ho⟩
  have hfit:Fit (pre.length*(B+C+1)+1) (hv x pre):=ab5 hx pre 0 1 (Fit.zero (aY 1))
  have hbound:pre.length*(B+C+1)+1+B+C<=4294967296:=by
   rw[hL]at hlt;have:=Nat.mul_le_mul_right (B+C+1) (kR hlt);omega
  have hcall:Calls prog 246 #[.agg #[u0,u1,u2],.agg #[y.2.u0,y.2.u1,y.2.u2],xp] W fun e w'=>Below W.heap.size W w'/\∃v0 v1 v2,e=.returned (.agg #[v0,v1,v2])/\ab (fun b=>M b\/b=n0\/b=n0+2) w' (qC (hv x (pre++[y]))) [v0,v1,v2]:=by
   refine((UK (hv x pre) y.2.q x _ _ _ hfit y.2.fit hx hbound).2 (fun b=>M b\/b=n0\/b=n0+2) W [.agg #[u0,u1,u2],.agg #[y.2.u0,y.2.u1,y.2.u2],xp] ⟨hM1,hMg.gj hkeep⟩ ⟨⟨[u0,u1,u2],rfl,h6⟩,⟨[_,_,_],rfl,y.2.rep.mono hkeep⟩,aE.mono _ hkeep hxp,trivial⟩).mono ?_;rintro e w' ⟨hb',vs,rfl,hvs⟩;rw[an7];obtain⟨v0,v1,v2,e1,hr⟩:=bV8 hvs;exact⟨hb',v0,v1,v2,by rw[e1],hr⟩
  gi_wp2_with (refine⟨trivial,?_⟩;gi_at_call 246;refine(qq l (iR.2 hcall)).mono ?_;rintro e w' ⟨hbw,v0,v1,v2,rfl,hvr⟩)
  have hone:=hvr.one;have hbox:w'.heap[n0]?=some (.cells #[u0,u1,u2] 39 (0,0)):=(hbw.block n0 (hltW h5)).trans h5;rw[ur hbox (hone _ (by simp)) (hone _ (by simp)) (hone _ (by simp))];obtain⟨W3,hW3⟩:∃W3,w'.setRow n0 #[v0,v1,v2]=W3:=⟨_,rfl⟩
  have hself:W3.heap[n0]?=some (.cells #[v0,v1,v2] 39 (0,0)):=by rw[<-hW3];exact cJ _ _ _ _ _ _ hbox
  have hoth:∀k,k≠n0->W3.heap[k]?=w'.heap[k]?:=fun k hk=>by rw[<-hW3,dC _ _ _ _ hk]
  have hold:∀{k:Nat}{o:Obj},k≠n0->W.heap[k]?=some o->W3.heap[k]?=some o:=fun hk ho=>(hoth _ hk).trans ((hbw.block _ (hltW ho)).trans ho);have hbel:Below n0 W W3:=by rw[<-hW3];exact below_setRow (hbw.mono O) _ (aY _)
  rw[hW3]
  gi_wp2
  refine⟨⟨hbel.size,fun k o hk ho _=>hold O ho⟩,⟨hbel,fun v hv=>?_⟩,h1.trans hbel,Nat.le_trans h2 hbel.size,hold O h3,hold O h4,v0,v1,v2,hself,hvr.mono fun k o hk ho _=>⟨hk,(hoth k fun e=>hk (.inr (.inl e))).trans ho⟩⟩;simp only[World.cell?,hoth (n0+3) O,hbw.block (n0+3) O]at hv|-;exact hv
 case done=>
  rintro D ys W hD rfl ⟨h1,h2,h3,h4,u0,u1,u2,h5,h6⟩ hK;have c0:W.cell? ⟨n0,0,none⟩=some u0:=aD h5 rfl;have c1:W.cell? ⟨n0,1,none⟩=some u1:=aD h5 rfl;have c2:W.cell? ⟨n0,2,none⟩=some u2:=aD h5 rfl;have hone:=h6.one
  gi_wp2
  rw[ur h4 (hone _ (by simp)) (hone _ (by simp)) (hone _ (by simp))]
  gi_wp2
  obtain⟨W3,hW3⟩:∃W3,W.setRow (n0+2) #[u0,u1,u2]=W3:=⟨_,rfl⟩
  have hself:W3.heap[n0+2]?=some (.cells #[u0,u1,u2] 39 (0,0)):=by rw[<-hW3];exact cJ _ _ _ _ _ _ h4
  have hoth:∀k,k≠n0+2->W3.heap[k]?=W.heap[k]?:=fun k hk=>by rw[<-hW3,dC _ _ _ _ hk]
  have hK3:W3.heap[D]?=some (.deferred (some [])):=(hoth D O).trans hK;have hbel:Below n0 W W3:=by rw[<-hW3];exact below_setRow (cF _ W) _
  rw[hW3];obtain⟨W4,hW4⟩:∃W4,W3.putObj D (.deferred none)=W4:=⟨_,rfl⟩
  have hoth4:∀k,k≠D->W4.heap[k]?=W3.heap[k]?:=fun k hk=>by rw[<-hW4];exact su O
  have hself4:W4.heap[n0+2]?=some (.cells #[u0,u1,u2] 39 (0,0)):=(hoth4 _ O).trans hself;have d0:W4.cell? ⟨n0+2,0,none⟩=some u0:=aD hself4 rfl;have d1:W4.cell? ⟨n0+2,1,none⟩=some u1:=aD hself4 rfl;have d2:W4.cell? ⟨n0+2,2,none⟩=some u2:=aD hself4 rfl;refine⟨by simp,.inl ⟨_,_,rfl,wP hK3,?_⟩⟩;rw[hW4];refine⟨.agg #[u0,u1,u2],?_,?_,u0,u1,u2,rfl,by rw[<-hL];exact h6.mono fun k o hk ho hc=>⟨fun h=>hk (.inl h),(hoth4 k (by rintro rfl;rw[hK]at ho;cases ho;cases hc)).trans ((hoth k (by rintro rfl;exact hk (.inr (.inr rfl)))).trans ho)⟩⟩
  ·refine jH _ _ [_] ?_;simp[show f245.results=#[.cell 6 39]from rfl,lW,go_sem,d0,d1,d2]
  ·rw[<-hn0]at h1 hbel;exact(h1.trans hbel).trans (by rw[<-hW4];exact tz (w:=w) (aY _) W3 D _ _ O hK3 rfl rfl)
 case stop=>
  rintro D c pre W hD _ h hK;exact h.elim
theorem oF{α:Type}(P:Nat->α->Prop):∀n,(∀i,i<n->∃x,P i x)->∃ts:List α,ts.length=n/\∀(i:Nat)x,ts[i]?=some x->P i x
 | 0,_=>⟨[],rfl,fun i x h=>by simp at h⟩
 | n+1,h=>by
   obtain⟨ts,h1,h2⟩:=oF P n fun i hi=>h i O;obtain⟨x,hx⟩:=h n O;refine⟨ts++[x],by simp[h1],fun i y hy=>?_⟩;rcases Nat.lt_or_ge i n with hi | hi
   ·rw[fJ O]at hy;exact h2 i y hy
   ·rw[fX O]at hy
    have hin:i-ts.length=0:=by
     have:=(dn.1 hy).1;simp at this;omega
    rw[hin]at hy;simp only[List.getElem?_cons_zero,aI]at hy;subst hy;obtain rfl:i=n:=O
    exact hx
def be3{M:Nat->Prop}{w:World}{B:Nat}{v:Value}{ps:List Rat}(h:(sQ ps).rep M w v)(hp:∀q∈ps,Fit B q) :
  ∃(ts:List (QV M w B))(a:Option Addr)(cap:Nat),v=.slice a ts.length cap/\ts.map QV.q=ps/\Sl3 QV.u0 QV.u1 QV.u2 w.heap.size w v ts:=by
 obtain⟨a,cap,rfl,hc,hm,hel⟩:=h;have hlen:(rQ ps).length=ps.length:=aR _;rcases hel with h | ⟨b,off,cs,T,fz,rfl,hb,hh,hr⟩
 ·have:ps=[]:=by cases ps<;>simp_all[rQ]
  subst this;exact⟨[],a,cap,rfl,rfl,a,cap,rfl,.inl rfl⟩
 ·obtain⟨ts,h1,h2⟩:=oF (fun i (x:QV M w B)=>ps[i]?=some x.q/\w.cell? ⟨b,off+i*3,none⟩=some x.u0/\w.cell? ⟨b,off+i*3+1,none⟩=some x.u1/\w.cell? ⟨b,off+i*3+2,none⟩=some x.u2) ps.length fun i hi=>by
   obtain⟨q,hq⟩:∃q,ps[i]?=some q:=⟨_,ay hi⟩
   obtain⟨_,hrep⟩:=hr i (qC q) (by rw[rQ,cC,hq];rfl)
   have hat:∀j,j<3->((cs.toList.drop (off+i*3)).take 3)[j]?=cs[off+i*3+j]?:=fun j hj=>by
    rw[eo,if_pos hj,List.getElem?_drop];simp
   have hl:=hrep.length;generalize hus:(cs.toList.drop (off+i*3)).take 3=us at hrep hl hat
   match us,hrep with
   | [x0,x1,x2],hrep=>
     refine⟨⟨q,x0,x1,x2,hp q (bc hq),hrep⟩,hq,?_,?_,?_⟩
     ·have h0:=hat 0 O;rw[Nat.add_zero]at h0;exact aD hh (by rw[<-h0];rfl)
     ·exact aD hh (by rw[<-hat 1 O];rfl)
     ·exact aD hh (by rw[<-hat 2 O];rfl)
   | [],hrep=>exact hrep.elim
   | [_],hrep=>exact hrep.2.elim
   | [_,_],hrep=>exact hrep.2.2.elim
   | _::_::_::_::_,hrep=>exact hrep.2.2.2.elim
  refine⟨ts,_,cap,by rw[hlen,h1],?_,_,cap,by rw[hlen,h1],.inr ⟨b,off,rfl,(cK.1 hh).1,fun j v hj=>(h2 j v hj).2⟩⟩;refine List.ext_getElem? fun i=>?_;rw[cC];cases hi:ts[i]? with
  | none=>
    have:=List.getElem?_eq_none_iff.1 hi;rw[List.getElem?_eq_none_iff.2 O];rfl
  | some x=>rw[(h2 i x hi).1];rfl
def Xp{α:Type}[Inhabited α](vs:List α):(bk vs vs.length).map Prod.snd=vs.reverse:=by
 refine List.ext_getElem? fun i=>?_;rw[bk,eU,cC];rcases Nat.lt_or_ge i vs.length with h | h
 ·rw[gv h,List.getElem?_reverse h];have h':vs.length-1-i<vs.length:=O
  simp[ay h']
 ·rw[List.getElem?_eq_none_iff.2 (by simpa using h),List.getElem?_eq_none_iff.2 (by simpa using h)];rfl
def bE8{M:Nat->Prop}{w:World}{B:Nat}[Inhabited (QV M w B)](x:Rat)(ts:List (QV M w B)):hv x (bk ts ts.length)=lM (ts.map QV.q) x:=by
 have h:hv x (bk ts ts.length)=((bk ts ts.length).map Prod.snd).foldl (fun v c=>v*x+c.q) 0:=by rw[hv,List.foldl_map]
 rw[h,Xp,List.foldl_reverse,lM,List.foldr_map]
def PZ(ps:List Rat)(x:Rat)(B C:Nat)(hB:1<=B)(hp:∀q∈ps,Fit B q)(hx:Fit C x)(hl:ps.length*(B+C+1)+B+C+1<=4294967296:=by omega) :
  aL prog 245 [.one (sQ ps),qT 0,.one (.jO 246 [.aj (qC x)])] (.ret [qT (lM ps x)]):=by
 refine⟨bJ (by kernel_rfl),fun M w vs hM hv=>?_⟩
 match vs,hv with
 | [v0,v1,v2],⟨k0,⟨us,k1,hus⟩,⟨fs,k2,hfs⟩,_⟩=>
   obtain⟨ts,a,cap,rfl,hq,hsl⟩:=be3 k0 hp;obtain⟨iq⟩:=ao2 M w B hB
   haveI:Inhabited (QV M w B):=⟨iq⟩
   subst k1 k2
   match us,hus,fs,hfs with
   | [z0,z1,z2],hus,[xp],hfs=>
     have hlen:ps.length=ts.length:=by rw[<-hq,aR]
     rw[hlen]at hl;have h1:=Vq M w B C x hx hM hB a cap ts (by have:=Nat.le_mul_of_pos_right ts.length (show 0<B+C+1 by omega);omega) hl hsl z0 z1 z2 hus xp hfs.1;rw[bE8,hq]at h1;refine((iR (n:=1001)).1 h1).mono ?_;rintro e w' ⟨hb,u0,u1,u2,rfl,hr⟩;exact⟨hb,[.agg #[u0,u1,u2]],rfl,⟨[u0,u1,u2],rfl,hr⟩,trivial⟩
   | [],hus,_,_=>exact hus.elim
   | [_],hus,_,_=>exact hus.2.elim
   | [_,_],hus,_,_=>exact hus.2.2.elim
   | _::_::_::_::_,hus,_,_=>exact hus.2.2.2.elim
   | [_,_,_],_,[],hfs=>exact hfs.elim
   | [_,_,_],_,_::_::_,hfs=>exact hfs.2.elim
 | [],hv=>exact hv.elim
 | [_],hv=>exact hv.2.elim
 | [_,_],hv=>exact hv.2.2.elim
 | _::_::_::_::_,hv=>exact hv.2.2.2.elim
def bG0:Tr:=dV 245 [(W 0 0),(.agg [tN,(tE (.bool false)),tN]),(.one (.jO 246 [(.ref 0 [(.u 1 0),(.u 1 1),(.u 1 2)])]))] [(some 3)] [5,6,7] [72,39,224] 39 true (fW 2 2 1 2 2)
def au7:aM prog f181 bZ [.v none,.v (some 3)]=bG0:=by kernel_rfl
def ay7(ps:List Rat)(c:Rat)(B:Nat)(hp:∀q∈ps,Fit B q)(hc:Fit B c)(hB:1<=B:=by omega)(hl:ps.length*(2*B+2)+2*B+2<=4294967296:=by omega):aL prog 181 [(.one (sQ ps):aG),(qT c:aG)] (.ret [qT (lM ps c)]):=by
 refine bw func181 au7 ?_;have hl2:ps.length*(B+B+1)<=ps.length*(2*B+2):=Nat.mul_le_mul_left _ O;refine Jq (show aQ [.one (sQ ps),.agg [.exact (.slice none 0 0),.bool false,.exact (.slice none 0 0)],.one (.jO 246 [.aj (qC c)])] [.one (sQ ps),qT 0,.one (.jO 246 [.aj (qC c)])]from⟨aG.Sub.same,db,aG.Sub.same,trivial⟩) (PZ ps c B B hB hp hc) rfl ?_;exact aK
end Go.Sy
namespace Go.Sy
open Go Go.Proofs Tryz Ord
def Mc{n H:Nat}(h:n<2^H):(dg n).length<=H:=Dz (Nat.lt_of_lt_of_le h (eP O H))
def LA(q:Rat)(H:Nat)(hf:Fit H q)(hH:H<=34359738360:=by omega):aL prog 90 [(qT q:aG)] (.ret [bS (Zx q)]):=by
 refine bw func90 aw6 ?_;have hd:=Mc hf.2;have hn:=Mc hf.1;have hp:=q.den_pos;have ln:=rj hf.1;have ld:=rj hf.2;rw[show Zx q=((if q.num<0 then[45]else[])++dec q.num.natAbs)++if q.den=1 then[]else[47]++dec q.den from rfl];apply aA (KZ q.num.natAbs);refine vs _ rfl ?_ ?_<;>intro h1
 ·apply vn (uv (a:=[45]) (by simp only[List.length_cons,bq];omega)) rfl;apply aA (xt (q.den-1));apply vn HQ;refine vs _ rfl ?_ ?_<;>intro h5
  ·apply aA (fZ q);apply aA (KZ q.den);apply vn (uv (a:=[47]) (by simp only[List.length_cons,bq];omega)) rfl;apply vn (uv (by simp only[eZ,List.length_cons,bq];omega)) rfl;dsimp only[aO,aP];rw[if_pos h1,if_neg O];exact aK
  rw[if_pos h1,if_pos O,cM];exact aK
 apply aA (xt (q.den-1));apply vn HQ;refine vs _ rfl ?_ ?_<;>intro h14
 ·apply aA (fZ q);apply aA (KZ q.den);apply vn (uv (a:=[47]) (by simp only[List.length_cons,bq];omega)) rfl;apply vn (uv (by simp only[eZ,List.length_cons,bq];omega)) rfl;dsimp only[aO,aP];rw[if_neg h1,if_neg O];exact aK
 rw[if_neg h1,if_pos O,cM];exact aK
end Go.Sy
