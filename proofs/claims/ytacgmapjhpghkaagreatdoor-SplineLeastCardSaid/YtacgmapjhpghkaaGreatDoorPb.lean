/- Part. -/
import Derived.Test.YtacgmapjhpghkaaGreatDoorRa
import Derived.Laws.Cover3
import Derived.Shelf.Strings.BuilderK
import Derived.Shelf.Strconv.Itoa3
import Derived.Shelf.Strings.Repeat
import Derived.RangeFuncNested
set_option linter.all false
namespace Go.Sy
open Go Go.Proofs Tryz Ord
def bB7:Tr:=.need (.prim [(W 0 0),(.one (.c (.k (.slice none 0 0))))] none) (.binOp .eql 98 (tT 3) (.const (.slice none 0 0)) 98) 4 false (.split (.u 1 0) (.ret [(.one (.c (.k (.slice none 0 0))))]) (.need (.lit 3 []) (.buildSlice 98 0 #[]) 98 false (.need (.app 3 56 (some 2) (some (.u 0 0)) none) (.call ⟨.builtin .append,#[(tT 5),(tT 6)],#[98,98]⟩) 98 false (.ret [(.one (.c (.sr 3 3)))]))))
theorem RP:aV prog f207 (fun _=>none) [.v none]=bB7:=by kernel_rfl
def bz8:Tr:=eI 5 0 (some 3) 46 12 (aZ 23 [(G3 6)] [none] [13] [46] 3 false (bI .eql 3 14 0 7 0 4 (.split (.u 8 0) (bI .sub 3 17 1 2 0 3 (.back 0 [lV 9 0])) (.need (.prim [(W 0 0),(W 2 0)] none) (.slice 98 (tT 19) none (some (tT 20)) none) 98 false (aZ 207 [(W 9 0)] [none] [21] [98] 98 true (.ret [(W 10 0)]))))))
def bm7:Tr:=dS 0 0 4 98 (.loop 0 [lV 1 0] (bI .gtr 3 6 0 2 0 4 (.split (.u 3 0) (bI .sub 3 10 1 2 0 3 (eW 0 0 4 0 98 9 11 bz8)) (.need (.prim [(W 0 0),(W 2 0)] none) (.slice 98 (tT 19) none (some (tT 20)) none) 98 false (aZ 207 [(W 4 0)] [none] [21] [98] 98 true (.ret [(W 5 0)]))))))
theorem av2:aV prog f157 (fun _=>none) [.v none]=bm7:=by kernel_rfl
def bp8:Tr:=aZ 157 [(W 0 0)] [none] [3] [98] 98 false (dS 1 0 4 98 (bI .sub 3 5 1 2 0 3 (.ret [(W 3 0)])))
theorem Yr:aV prog f83 (fun _=>none) [.v none]=bp8:=by kernel_rfl
def aD.af9:aD where
 rep:=fun _ _ v=>∃ cap,v = .slice none 0 cap/\cap<=maxLen
 mono:=fun _ h=>h
 one:=by rintro M w v ⟨cap,rfl,_⟩;rfl
def aD.nnS (sz:Nat) (ts:List (List aD)):aD where
 rep:=fun M w v=>(aD.slice sz ts).rep M w v/\∃ a l c,v = .slice (some a) l c
 mono:=fun hk h=>⟨aD.mono _ hk h.1,h.2⟩
 one:=fun h=>aD.one _ h.1
theorem aD.Sub.nn {sz:Nat} {ts:List (List aD)}:(aD.nnS sz ts).Sub (.slice sz ts):=
 .inr ⟨fun M w v h=>by obtain ⟨_,a,l,c,rfl⟩:=h;exact ⟨some a,l,c,rfl⟩,fun M w v h=>h.1⟩
theorem TV {sz:Nat} {ts:List (List aD)} {M:Nat->Prop} {w:World} {v:Value} (h:(aD.slice sz ts).rep M w v):(ts = []/\aD.af9.rep M w v)\/(aD.nnS sz ts).rep M w v:=by
 have h0:=h;obtain ⟨a,cap,rfl,hc,hm,hel⟩:=h;cases a with
 | some a=>exact .inr ⟨h0,a,_,_,rfl⟩
 | none=>
   rcases hel with rfl | ⟨b,off,cs,T,fz,e,_⟩
   .exact .inl ⟨rfl,cap,rfl,hm⟩
   .cases e
theorem Fl {P:Program} {f:FuncId} {sz:Nat} {ts:List (List aD)} {out:Out} (h1:ts = []->aQ P f [.one .af9] out) (h2:aQ P f [.one (.nnS sz ts)] out):aQ P f [.one (.slice sz ts)] out:=by
 refine ⟨h2.1,fun M w vs hM hv=>?_⟩
 match vs,hv with
 | [v],hv=>
   rcases TV hv.1 with ⟨e,h⟩ | h
   .exact (h1 e).2 M w [v] hM ⟨h,trivial⟩
   .exact h2.2 M w [v] hM ⟨h,trivial⟩
 | [],hv=>exact hv.elim
 | _::_::_,hv=>exact hv.2.elim
section
variable {P:Program} {T U ty:TypeId} {x y:Operand}
theorem ao0 {E sz b:Nat} (h:eA P T=some (E,sz,b)):bF P (.binOp .eql T x y U) ty [.one .af9, .one (.exact (.slice none 0 0))] (.one (.bool true)):=by
 obtain ⟨ie,hu,_⟩:=cE h;intro M w ρ o ho ht hr;obtain ⟨hx,hy⟩:=tW (x:=x) (y:=y) hr;obtain ⟨cap,hx,_⟩:=hx;have hy:ρ y = .slice none 0 0/\_:=hy;refine ⟨.bool true,?_,⟨rfl,rfl⟩⟩;simp [execOp,ho,hx,hy.1,eqGuard,binOp,run_equal_slice_nil w T E none 0 cap hu]
theorem ak9 {E sz b sz':Nat} {ts:List (List aD)} (h:eA P T=some (E,sz,b)):bF P (.binOp .eql T x y U) ty [.one (.nnS sz' ts), .one (.exact (.slice none 0 0))] (.one (.bool false)):=by
 obtain ⟨ie,hu,_⟩:=cE h;intro M w ρ o ho ht hr;obtain ⟨hx,hy⟩:=tW (x:=x) (y:=y) hr;obtain ⟨_,a,l,c,hx⟩:=hx;have hy:ρ y = .slice none 0 0/\_:=hy;refine ⟨.bool false,?_,⟨rfl,rfl⟩⟩;simp [execOp,ho,hx,hy.1,eqGuard,binOp,run_equal_slice_nil w T E (some a) l c hu]
end
theorem Zk  :aQ prog 207 [(.one .af9:aJ)] (.ret [.one (.slice 3 [])]):=by
 refine eH func207 RP ?_;apply vn (ao0 kH) rfl;refine pY true rfl (fun _=>?_) (fun h=>by cases h);exact jL ⟨aD.Sub.nil,trivial⟩
theorem XW (ts:List (List aD)) (hs:ts.length<1099511627776):aQ prog 207 [(.one (.nnS 3 ts):aJ)] (.ret [.one (.slice 3 ts)]):=by
 refine eH func207 RP ?_;apply vn (ak9 kH) rfl;refine pY false rfl (fun h=>by cases h) (fun _=>?_);apply eK (us:=[]) rfl;refine BC (ts:=[]) (us:=ts) (vs:=ts) rfl (.inr aD.Sub.nn) rfl (by omega) (by simp only [maxLen];omega) ?_;exact aL rfl
theorem Ui (ts:List (List aD)) (hs:ts.length<1099511627776):aQ prog 207 [.one (.slice 3 ts)] (.ret [.one (.slice 3 ts)]):=
 Fl (fun e=>by subst e;exact Zk) (XW ts hs)
def sK {α:Type} (z:α->Bool):List α->Nat
 | []=>0
 | x::xs=>if sK z xs=0/\z x=true then 0 else sK z xs+1
theorem kV {α:Type} {z:α->Bool}:∀ l:List α,sK z l<=l.length
 | []=>aY _
 | x::xs=>by
   have:=kV (z:=z) xs;simp only [sK,List.length_cons];split<;>omega
theorem BX {α:Type} {z:α->Bool}:∀ {l:List α} {n:Nat},n<=l.length->(∀ i x,n<=i->l[i]? = some x->z x=true)->(n=0\/∃ x,l[n-1]? = some x/\z x=false)->sK z l=n
 | [],n,h,_,_=>by simp at h;subst h;rfl
 | x::xs,n,h,h1,h2=>by
   cases n with
   | zero=>
     have h3:=BX (z:=z) (l:=xs) (n:=0) (dD _) (fun i y _ hy=>h1 (i+1) y (dD _) (by simpa using hy)) (.inl rfl);have h4:=h1 0 x (dD _) rfl;simp [sK,h3,h4]
   | succ n=>
     have h3:=BX (z:=z) (l:=xs) (n:=n) (by simpa using h) (fun i y hi hy=>h1 (i+1) y (by omega) (by simpa using hy)) (by
      cases n with
      | zero=>exact .inl rfl
      | succ n=>
        rcases h2 with h2 | ⟨y,hy,hz⟩
        .omega
        .exact .inr ⟨y,by simpa using hy,hz⟩)
     simp only [sK,h3];rw [if_neg];rintro ⟨h4,h5⟩;subst h4;rcases h2 with h2 | ⟨y,hy,hz⟩
     .omega
     .simp at hy;subst hy;rw [h5] at hz;cases hz
abbrev rQ (ps:List Rat):List (List aD):=ps.map qC
abbrev sQ (ps:List Rat):aD:=.slice 3 (rQ ps)
abbrev rR (ps:List RQ):List (List aD):=ps.map rC
abbrev sR (ps:List RQ):aD:=.slice 4 (rR ps)
def zr (q:Rat):Bool:=decide (q=0)
def trim (ps:List Rat):List Rat:=ps.take (sK zr ps)
theorem Wy {q:Rat}:zr q=decide (q.num.sign=0):=by rw [zr,decide_eq_decide];exact sign_zero.symm
theorem iA (ps:List Rat):(trim ps).length=sK zr ps:=by rw [trim,List.length_take];have:=kV (z:=zr) ps;omega
theorem PL {E sz b T:Nat} {α:Type} {f:α->List aD} {ds:List α} {x:Operand} {ty:Nat} {y:Operand} {k:IntKind} {n:Int} {m:Nat} (h:eA prog T=some (E,sz,b)) (hn:m<=ds.length) (h0:0<=n:=by omega) (hm:n.toNat=m:=by omega):bF prog (.slice T x none (some y) none) ty [.one (.slice sz (ds.map f)), .one (.int k n)] (.one (.slice sz ((ds.take m).map f))):=by
 have:=zV (P:=prog) (T:=T) (x:=x) (y:=y) (ty:=ty) (k:=k) (n:=n) (ts:=ds.map f) h h0 (by rw [aK,hm];exact hn);rw [hm,<-List.map_take] at this;exact this
theorem Cf (ps:List Rat) (hs:ps.length<1099511627776):aQ prog 157 [(.one (sQ ps):aJ)] (.ret [.one (sQ (trim ps))]):=by
 refine eH func157 av2 ?_;apply vn (aM kH (aK _)) rfl;refine bZ {n:Nat // n<=ps.length/\∀ i q,n<=i->ps[i]? = some q->zr q=true} (fun g=>[.one (.int .i64 g.1)]) (fun g=>g.1) ⟨ps.length,aY _,fun i q hi hq=>by have:=(dR.1 hq).1;omega⟩ aX.rfl (fun _=>rfl) ?_;rintro ⟨n,hn,hz⟩;dsimp only [aE,aF] at hn hz ⊢;apply vn gH rfl;refine vs _ rfl ?_ ?_<;>intro h3
 .apply vn (aG (by omega) (by omega)) rfl;dsimp only [aE,aF];obtain ⟨q,hq⟩:∃ q,ps[n-1]? = some q:=⟨_,cC (by omega)⟩
  apply vn (aH kH (by omega) (by omega) hq) rfl;apply vn (aR cF (by decide) (by simp) (.inl rfl)) rfl;apply aA (jW q) rfl;apply vn dP rfl;dsimp only [aE,aF];refine vs _ rfl ?_ ?_<;>intro h9
  .apply vn (aG (by omega) (by omega)) rfl
   exact bD rfl ⟨⟨n-1,by omega,fun i r hi hr=>by
    rcases Nat.lt_or_ge i n with h | h
    .rw [show i=n-1 by omega,hq] at hr;simp only [aN] at hr;subst hr;rw [Wy];simpa using h9
    .exact hz i r h hr⟩,⟨aJ.Sub.of_eq (congrArg (fun q=>aJ.one (aD.int .i64 q)) (by show (n:Int)-1=((n-1:Nat):Int);omega)),trivial⟩,by show n-1<n;omega⟩
  apply vn (PL kH hn) rfl;dsimp only [aE,aF];have ht:=BX hn hz (.inr ⟨q,hq,by rw [Wy];simpa using h9⟩);apply aA (Ui _ (by rw [aK,List.length_take];omega)) rfl;dsimp only [aE,aF];rw [trim,ht];exact aL rfl
 apply vn (PL kH hn) rfl;dsimp only [aE,aF];have ht:=BX hn hz (.inl (by omega));apply aA (Ui _ (by rw [aK,List.length_take];omega)) rfl;dsimp only [aE,aF];rw [trim,ht];exact aL rfl
theorem YJ (ps:List Rat) (hs:ps.length<1099511627776):aQ prog 83 [(.one (sQ ps):aJ)] (.ret [.one (.int .i64 ((sK zr ps:Int)-1))]):=by
 refine eH func83 Yr ?_;have hle:=kV (z:=zr) ps;have htl:=iA ps;apply aA (Cf ps hs) rfl;apply vn (aM kH (aK _)) rfl;apply vn (aG (by omega) (by omega)) rfl;dsimp only [aE,aF];rw [<-htl];exact aL rfl
open Go Go.Proofs Go.RowKit Go.Shelf Tryz Ord
attribute [local go_sem] Oper.semAt_some
section
variable {α:Type} [Inhabited α] {e0 e1 e2:α->Value}
set_option maxRecDepth 100000 in
set_option maxHeartbeats 2000000 in
theorem YN (l Bs n₀ b off cap:Nat) (vs:List α) (hlen:vs.length<4611686018427387904) (hb:b<n₀) (J Jx:List (Nat×α)->World->Prop)
  (hY:∀ pre x W,J pre W->pre.length<vs.length->YieldAt Fence.wide (1000-1) prog l #[.int .i64 (x.1:Int),(.agg #[e0 x.2,e1 x.2,e2 x.2])] W fun e W'=>
   (e = .returned (.bool true)/\J (pre ++ [x]) W'/\KpB n₀ Bs W W')\/(e = .returned (.bool false)/\Jx (pre ++ [x]) W'))
  (W:World) (hBs:W.cell? ⟨Bs,0,none⟩=some (.slice (some ⟨b,off,none⟩) vs.length cap)) (hc:∀ j v,vs[j]? = some v->W.cell? ⟨b,off+j*3,none⟩=some (e0 v)/\W.cell? ⟨b,off+j*3+1,none⟩=some (e1 v)/\W.cell? ⟨b,off+j*3+2,none⟩=some (e2 v)) (h0:J [] W) :
  CallsIn Fence.wide 1000 prog 246 #[.func (.yield l) #[] #[], .pointer (some ⟨Bs,0,none⟩)] W fun e W'=>(∃ v,e = .returned v) /\
   ((∃ ys,ys=bk vs vs.length/\J ys W')\/(∃ pre,(∃ k,k<=vs.length/\pre=bk vs k)/\Jx pre W')):=by
 refine callsIn_of_wp func246 rfl trivial ?_ rfl;simp only [ntmps246,List.size_toArray,List.length_cons,List.length_nil,Nat.reduceAdd,Nat.reduceSub,Array.replicate_succ,Array.replicate_zero,List.push_toArray,List.append_toArray,List.nil_append,List.cons_append];obtain ⟨N,hN⟩:∃ N,vs.length=N:=⟨_,rfl⟩
 rw [hN] at hBs hY hlen ⊢
 gi_wp2
 gi_loopw [3] (fun i wr=>∃ k:Nat,k<=N/\i = .int .i64 ((N:Int)-1-k)/\J (bk vs k) wr/\Below n₀ W wr/\wr.cell? ⟨Bs,0,none⟩=some (.slice (some ⟨b,off,none⟩) N cap))
  (fun i _=>(intOf i+1).toNat)
 case atStart=>exact ⟨0,dD _,by simp,h0,Below.refl _ _,hBs⟩
 case round=>
  obtain ⟨k,hk,rfl,hJs,hnx,hBx⟩:=hrel;have hmeas:(intOf (.int .i64 ((N:Int)-1-k))+1).toNat=N-k:=by simp [intOf];omega
  by_cases hlt:k<N
  .have hv:vs[N-1-k]? = some (vs[N-1-k]?.getD default):=by rw [cC (by omega)];rfl
   obtain ⟨hx0,hx1,hx2⟩:=hc _ _ hv;have hcx0:=(hnx.cell (p:=⟨b,off+(N-1-k)*3,none⟩) hb).trans hx0;have hcx1:=(hnx.cell (p:=⟨b,off+(N-1-k)*3+1,none⟩) hb).trans hx1;have hcx2:=(hnx.cell (p:=⟨b,off+(N-1-k)*3+2,none⟩) hb).trans hx2;clear hx0 hx1 hx2;obtain ⟨fn,tmps,assign,body,hy,hR⟩:=hY _ (N-1-k,vs[N-1-k]?.getD default) wr hJs (by rw [Nv];exact hlt);generalize hx:vs[N-1-k]?.getD default=x at hy hR hcx0 hcx1 hcx2;have hsucc:bk vs (k+1)=bk vs k ++ [(N-1-k,x)]:=by rw [Xn,hN,hx]
   have e1:(N:Int)-1-k=((N-1-k:Nat):Int):=by omega
   have hn1:N-1-k<N:=by omega
   rw [e1]
   gi_wp2
   refine hR.mono ?_;rintro e W3 (⟨rfl,hJ3,hk3⟩ | ⟨rfl,hJx3⟩)
   .gi_wp2
    go_roundw
    case rel=>exact ⟨k+1,by omega,by congr 1;omega,by rw [hsucc];exact hJ3,hnx.trans hk3.1,hk3.2 _ hBx⟩
    case measure=>simp [intOf]
   .gi_wp2
    refine bodyPost_ret (results_none rfl _ _ _) rfl ?_;exact ⟨⟨_,rfl⟩, .inr ⟨_,⟨k+1,by omega,rfl⟩,by rw [hsucc];exact hJx3⟩⟩
  .obtain rfl:k=N:=by omega
   gi_wp2
   go_end0
   exact ⟨⟨_,rfl⟩, .inl ⟨_,rfl,hJs⟩⟩
set_option maxRecDepth 100000 in
set_option maxHeartbeats 1000000 in
theorem UK {α:Type} (l Bs:Nat) (a:Option Addr) (cap:Nat) (J:List (Nat×α)->World->Prop) (W:World) (hBs:W.cell? ⟨Bs,0,none⟩=some (.slice a 0 cap)) (h0:J [] W) :
  CallsIn Fence.wide 1000 prog 246 #[.func (.yield l) #[] #[], .pointer (some ⟨Bs,0,none⟩)] W fun e W'=>(∃ v,e = .returned v)/\J [] W':=by
 refine callsIn_of_wp func246 rfl trivial ?_ rfl;simp only [ntmps246,List.size_toArray,List.length_cons,List.length_nil,Nat.reduceAdd,Nat.reduceSub,Array.replicate_succ,Array.replicate_zero,List.push_toArray,List.append_toArray,List.nil_append,List.cons_append]
 gi_wp2
 gi_loopw [3] (fun i wr=>i = .int .i64 (-1)/\J [] wr) (fun _ _=>0)
 case atStart=>exact ⟨rfl,h0⟩
 case round=>
  obtain ⟨rfl,hJs⟩:=hrel
  gi_wp2
  go_end0
  exact ⟨⟨_,rfl⟩,hJs⟩
set_option maxHeartbeats 1000000 in
theorem Un (n:Nat) (a:Option Addr) (len cap:Nat) (w:World) :
  CallsIn Fence.wide n prog 224 #[.slice a len cap] w fun e w'=>e = .returned (.func (.func 246) #[] #[.pointer (some ⟨w.heap.size,0,none⟩)])/\w'=w.alloc (.cells #[.slice a len cap] 98):=by
 refine callsIn_of_wp func224 rfl trivial ?_ rfl;simp only [ntmps224,List.size_toArray,List.length_cons,List.length_nil,Nat.reduceAdd,Nat.reduceSub,Array.replicate_succ,Array.replicate_zero,List.push_toArray,List.append_toArray,List.nil_append,List.cons_append]
 gi_wp2
 go_ret
 exact ⟨rfl,rfl⟩
def Sl3 (e0 e1 e2:α->Value) (n₀:Nat) (W:World) (sv:Value) (vs:List α):Prop:=
 ∃ a cap,sv = .slice a vs.length cap/\(vs = []\/∃ b off,a=some ⟨b,off,none⟩/\b<n₀/\∀ j v,vs[j]? = some v->W.cell? ⟨b,off+j*3,none⟩=some (e0 v)/\W.cell? ⟨b,off+j*3+1,none⟩=some (e1 v)/\W.cell? ⟨b,off+j*3+2,none⟩=some (e2 v))
theorem Sl3.below {α:Type} {e0 e1 e2:α->Value} {n₀:Nat} {A B:World} (h:Below n₀ A B) {sv:Value} {vs:List α}:Sl3 e0 e1 e2 n₀ A sv vs->Sl3 e0 e1 e2 n₀ B sv vs:=by
 rintro ⟨a,cap,e,rfl | ⟨b,off,rfl,hb,hc⟩⟩
 .exact ⟨a,cap,e, .inl rfl⟩
 .exact ⟨_,cap,e, .inr ⟨b,off,rfl,hb,fun j v hj=>⟨(h.cell (p:=⟨b,off+j*3,none⟩) hb).trans (hc j v hj).1,(h.cell (p:=⟨b,off+j*3+1,none⟩) hb).trans (hc j v hj).2.1,(h.cell (p:=⟨b,off+j*3+2,none⟩) hb).trans (hc j v hj).2.2⟩⟩⟩
theorem AX (Bs n₀:Nat) (sv:Value) (vs:List α) (hlen:vs.length<4611686018427387904) (w:World) (hBs:Bs<w.heap.size) (hn₀:n₀<=w.heap.size)
  (hc:w.cell? ⟨Bs,0,none⟩=some sv) (hI:Sl3 e0 e1 e2 n₀ w sv vs) :
  SeqStopsK Fence.wide 1000 prog 246 #[.pointer (some ⟨Bs,0,none⟩)] (fun x:Nat×α=>#[Value.int .i64 (x.1:Int),(Value.agg #[e0 x.2,e1 x.2,e2 x.2])]) (KpB n₀ Bs) (fun ys=>ys=bk vs vs.length) (fun pre=>∃ k,k<=vs.length/\pre=bk vs k) vs.length w:=fun l J Jx W hW _ _ hY h0=>by
 have hc':=(hW.cell (p:=⟨Bs,0,none⟩) hBs).trans hc;obtain ⟨a,cap,rfl,rfl | ⟨b,off,rfl,hb,hcs⟩⟩:=hI.below (hW.mono hn₀)
 .exact (UK (α:=α) l Bs a cap J W hc' h0).mono fun e W' ⟨he,hj⟩=>⟨he, .inl ⟨_,rfl,hj⟩⟩
 .exact (YN (e0:=e0) (e1:=e1) (e2:=e2) l Bs n₀ b off cap vs hlen hb J Jx hY W hc' hcs h0)
end
end Go.Sy
namespace Go.Sy
open Go Go.Proofs Tryz Ord
def bu5:Tr:=.need (.prim [(W 0 2),(.one (.c (.k (.int .u8 4))))] none) (.binOp .rem 5 (tT 31) (.const (.int .u8 4)) 5) 5 false (cU .lss 5 29 32 5 0 13 0 4 (.split (.u 14 0) (aZ 76 [(.agg [(U 6 0),(U 7 0),(U 8 0)]),(G3 2)] [(some 3)] [36,37] [46,46] 46 false (aZ 77 [(.agg [(U 9 0),(U 10 0),(U 11 0),(U 12 0)]),(G4 4)] [(some 4)] [39,40] [51,51] 51 true (.need (.prim [(W 5 0),(.one (.c (.k (.int .u8 1))))] none) (.binOp .add 5 (tT 34) (.const (.int .u8 1)) 5) 5 false (.back 0 [lV 17 0,lV 15 0,lV 15 1,lV 15 2,lV 16 0,lV 16 1,lV 16 2,lV 16 3])))) (.ret [(.agg [(U 6 0),(U 7 0),(U 8 0)]),(.agg [(U 9 0),(U 10 0),(U 11 0),(U 12 0)])])))
def aO4:Tr:=.loop 0 [(.w (.one (.c (.k (.int .u8 0))))),lV 2 0,lV 2 1,lV 2 2,lV 4 0,lV 4 1,lV 4 2,lV 4 3] bu5
def bq8:Tr:=bI .eql 2 11 0 0 1 4 (.split (.u 1 0) (aZ 72 [(W 0 0),(WK 1)] [(some 3),none] [16,18] [2,2] 55 false (aZ 75 [(W 0 0),(WK 1)] [(some 4)] [23,25] [2,2] 51 true aO4)) (aZ 72 [(W 0 0),(W 0 1)] [(some 3),none] [16,18] [2,2] 55 false (aZ 75 [(W 0 0),(W 0 1)] [(some 4)] [23,25] [2,2] 51 true aO4)))
theorem aJ4:aV prog f15 (fun _=>none) [.v (some 3)]=bq8:=by kernel_rfl
def bA2:Tr:=aZ 15 [(G3 7)] [(some 3),(some 4)] [19] [27] 52 false (.need (.lit 3 [[(.u 8 0),(.u 8 1),(.u 8 2)]]) (.buildSlice 28 1 #[(0,(tT 24))]) 28 false (.need (.app 3 56 (some 2) none (some 10)) (.call ⟨.builtin .append,#[(tT 23),(tT 25)],#[28,28]⟩) 28 false (.need (.lit 4 [[(.u 9 0),(.u 9 1),(.u 9 2),(.u 9 3)]]) (.buildSlice 32 1 #[(0,(tT 28))]) 32 false (.need (.app 4 64 (some 3) none (some 12)) (.call ⟨.builtin .append,#[(tT 27),(tT 29)],#[32,32]⟩) 32 false (bI .add 3 13 1 1 0 3 (.back 0 [lV 14 0, .row 11, .row 13]))))))
def bB5:Tr:=.loop 0 [lK 0, .nilrow, .nilrow] (dS 0 0 10 22 (cU .lss 3 9 11 1 0 4 0 4 (.split (.u 5 0) (eW 0 0 1 0 22 16 17 (eI 6 0 (some 3) 27 18 bA2)) (.ret [(.one (.c (.sr 3 2))),(.one (.c (.sr 4 3)))]))))
theorem av3:aV prog f33 (fun _=>none) [.v none]=bB5:=by kernel_rfl
structure dJ where
 n:Int
 d:Int
 pow:Nat
abbrev nC (x:dJ):List aD:=[.int .i64 x.n, .int .i64 x.d, .int .u8 x.pow]
abbrev nT (x:dJ):aJ:=.agg (nC x)
abbrev sN (l:List dJ):aD:=.slice 3 (l.map nC)
structure dJ.In (x:dJ):Prop where
 n1:-9223372036854775808<=x.n
 n2:x.n<9223372036854775808
 d1:-9223372036854775808<=x.d
 d2:x.d<9223372036854775808
 p:x.pow<256
def dJ.b (x:dJ):Rat:=(x.n:Rat)/((if x.d=0 then 1 else x.d:Int):Rat)
def dJ.v (x:dJ):Rat:=x.b^(x.pow%4+1)
theorem _root_.Ord.Fit.pow {B:Nat} {q:Rat} (h:Fit B q) (hB:1<=B):∀ n,Fit (B*n+1) (q^n)
 | 0=>by rw [Rat.pow_zero];exact (Fit.int (n:=1) (B:=1) (by omega) (by decide)).mono (by omega)
 | n+1=>by
   rw [Rat.pow_succ];exact ((Ord.Fit.pow h hB n).mul h).mono (by rw [Nat.mul_add];omega)
theorem dJ.In.fit {x:dJ} (h:x.In):Fit 128 x.b:=by
 unfold dJ.b;split
 .exact (sU h.n1 h.n2).div (sU (n:=1))
 .exact (sU h.n1 h.n2).div (sU h.d1 h.d2)
theorem Qt (x:dJ) (h:x.In):aQ prog 15 [(nT x:aJ)] (.ret [qT x.v,YP (.of x.v)]):=by
 refine eH func15 aJ4 ?_;have h1:=h.n1;have h2:=h.n2;have h3:=h.d1;have h4:=h.d2;have h5:=h.p;have hf:=h.fit;have hp:=fun i=>hf.pow (by omega) i
 have hm1:∀ i,i<4->aQ prog 76 [qT (x.b^(i+1)),qT x.b] (.ret [qT (x.b^(i+1+1))]):=fun i hi=>by
  have:=fK (x.b^(i+1)) x.b _ _ (hp (i+1)) hf;rw [<-Rat.pow_succ] at this;exact this
 have hm2:∀ i,i<4->aQ prog 77 [YP (.of (x.b^(i+1))),YP (.of x.b)] (.ret [YP (.of (x.b^(i+1+1)))]):=fun i hi=>by
  have:=bb8 (.of (x.b^(i+1))) (.of x.b) _ _ (hp (i+1)) hf;rw [RQ.aZ6,RQ.aZ6,<-Rat.pow_succ] at this;exact this
 apply vn dP rfl;refine vs _ rfl ?_ ?_<;>intro h1
 .have hb:x.b=(x.n:Rat)/((1:Int):Rat):=by rw [dJ.b,if_pos h1]
  have ho:=bb7 x.n 1 h.n1 h2;rw [if_neg (by omega),if_neg (by omega),<-hb] at ho;apply aA ho rfl;dsimp only [aE,aF];have ho:=aL5 x.n 1 h.n1 h2;rw [<-hb] at ho;apply aA ho rfl
  refine bZ {i:Nat // i<=x.pow%4} (fun g=>[.one (.int .u8 g.1), .one (dT (x.b^(g.1+1)).num.natAbs), .one (.bool (decide ((x.b^(g.1+1)).num<0))), .one (dT ((x.b^(g.1+1)).den-1)), .one (.int .i64 (x.b^(g.1+1)).num.sign), .one (bT (x.b^(g.1+1)).num.natAbs), .one (.int .i64 1), .one (bT (x.b^(g.1+1)).den)]) (fun g=>x.pow%4-g.1) ⟨0,dD _⟩ (by
   have e:x.b^(0+1)=x.b:=by rw [Rat.pow_succ,Rat.pow_zero,Rat.one_mul]
   simp only [e];exact aX.rfl) (fun _=>rfl) ?_
  rintro ⟨i,hi⟩;dsimp only [aE,aF] at hi ⊢;apply vn (qB) rfl;apply vn bQ rfl;refine vs _ rfl ?_ ?_<;>intro h7
  .apply aA (hm1 i (by omega)) rfl;apply aA (hm2 i (by omega)) rfl;dsimp only [aE,aF];apply vn (SJ) rfl;dsimp only [aE,aF];exact bD rfl ⟨⟨i+1,by omega⟩,aX.rfl,by show x.pow%4-(i+1)<x.pow%4-i;omega⟩
  have hie:i=x.pow%4:=by omega
  subst hie;exact aL rfl
 have hb:x.b=(x.n:Rat)/(x.d:Rat):=by rw [dJ.b,if_neg h1]
 have ho:=bb7 x.n x.d h.n1 h2 h3 h4;rw [if_neg h1,if_neg h1,<-hb] at ho;apply aA ho rfl;dsimp only [aE,aF];have ho:=aL5 x.n x.d h.n1 h2 h1 h3 h4;rw [<-hb] at ho;apply aA ho rfl
 refine bZ {i:Nat // i<=x.pow%4} (fun g=>[.one (.int .u8 g.1), .one (dT (x.b^(g.1+1)).num.natAbs), .one (.bool (decide ((x.b^(g.1+1)).num<0))), .one (dT ((x.b^(g.1+1)).den-1)), .one (.int .i64 (x.b^(g.1+1)).num.sign), .one (bT (x.b^(g.1+1)).num.natAbs), .one (.int .i64 1), .one (bT (x.b^(g.1+1)).den)]) (fun g=>x.pow%4-g.1) ⟨0,dD _⟩ (by
  have e:x.b^(0+1)=x.b:=by rw [Rat.pow_succ,Rat.pow_zero,Rat.one_mul]
  simp only [e];exact aX.rfl) (fun _=>rfl) ?_
 rintro ⟨i,hi⟩;dsimp only [aE,aF] at hi ⊢;apply vn (qB) rfl;apply vn bQ rfl;refine vs _ rfl ?_ ?_<;>intro h18
 .apply aA (hm1 i (by omega)) rfl;apply aA (hm2 i (by omega)) rfl;dsimp only [aE,aF];apply vn (SJ) rfl;dsimp only [aE,aF];exact bD rfl ⟨⟨i+1,by omega⟩,aX.rfl,by show x.pow%4-(i+1)<x.pow%4-i;omega⟩
 have hie:i=x.pow%4:=by omega
 subst hie;exact aL rfl
def aU (l:List dJ):List Rat:=l.map dJ.v
def nM (l:List dJ):List RQ:=l.map fun x=>RQ.of x.v
theorem zF {α β:Type} {f:α->β} {l:List α} {i:Nat} {x:α} (h:l[i]? = some x):(l.take i).map f ++ [f x]=(l.take (i+1)).map f:=by
 rw [List.take_add_one,h,List.map_append];rfl
theorem xR (l:List dJ) (h:∀ x∈l,x.In) (hs:l.length<1099511627776:=by omega):aQ prog 33 [(.one (sN l):aJ)] (.ret [.one (sQ (aU l)), .one (sR (nM l))]):=by
 refine eH func33 av3 ?_;refine bZ {i:Nat // i<=l.length} (fun g=>[.one (.int .i64 g.1), .rows (rQ ((l.take g.1).map dJ.v)), .rows (rR ((l.take g.1).map fun x=>RQ.of x.v))]) (fun g=>l.length-g.1) ⟨0,dD _⟩ aX.rfl (fun _=>rfl) ?_;rintro ⟨i,hi⟩;dsimp only [aE,aF] at hi ⊢;apply vn (aM QD (aK _)) rfl;apply vn bQ rfl;refine vs _ rfl ?_ ?_<;>intro h3
 .obtain ⟨x,hx⟩:∃ x,l[i]? = some x:=⟨_,cC (by omega)⟩
  have hl1:((l.take i).map dJ.v).length<=i:=by simp;omega
  have hl2:((l.take i).map fun x=>RQ.of x.v).length<=i:=by simp;omega
  apply vn (aH QD (by omega) (by omega) hx) rfl;apply vn (aR bz2 (by decide) (by simp) (.inl rfl)) rfl;dsimp only [aE,aF];apply aA (Qt x (h x (gD hx))) rfl;apply eK (us:=[qC x.v]) rfl;refine kX (xs:=(l.take i).map dJ.v) (x:=x.v) (f:=qC) rfl rfl (by omega) (by simp only [maxLen];omega) ?_;rw [zF hx];apply eK (us:=[rC (RQ.of x.v)]) rfl;dsimp only [aE,aF];refine kX (xs:=(l.take i).map fun x:dJ=>RQ.of x.v) (x:=RQ.of x.v) (f:=rC) rfl rfl (by omega) (by simp only [maxLen];omega) ?_;rw [zF (f:=fun x:dJ=>RQ.of x.v) hx];apply vn (aB (by omega) (by omega)) rfl;dsimp only [aE,aF];exact bD rfl ⟨⟨i+1,by omega⟩,aX.rfl,by show l.length-(i+1)<l.length-i;omega⟩
 rw [show i=l.length by omega,List.take_length];exact aL rfl
def dJ.short (x:dJ):Bool:=decide (x.pow%4=0/\x.n<=999 /\ -999<=x.n/\x.d<=999 /\ -999<=x.d)
open Go
abbrev chr (d:Nat):UInt8:=UInt8.ofNat (48+d)
def wC:Nat->Nat->List UInt8
 | 0,_=>[]
 | k+1,n=>wC k (n/10) ++ [chr (n%10)]
abbrev dec (n:Nat):List UInt8:=Lib.decDigits n
theorem NS {n:Nat} (h:n<10):dec n = [chr n]:=by rw [dec,Lib.decDigits,dif_pos h]
theorem Sl {n:Nat} (h:¬ n<10):dec n=dec (n/10) ++ [chr (n%10)]:=by rw [dec,Lib.decDigits,dif_neg h]
theorem AA:∀ k n,(wC k n).length=k
 | 0,_=>rfl
 | k+1,n=>by rw [wC,eC,AA k];rfl
theorem Oj:∀ k,wC k 0=List.replicate k 48
 | 0=>rfl
 | k+1=>by rw [wC,Nat.zero_div,Oj k,Nat.zero_mod,List.replicate_succ'];rfl
theorem gO:∀ {k n:Nat},0<k->n<10^k->(dec n).length<=k
 | k+1,n,_,h=>by
   by_cases h10:n<10
   .rw [NS h10];simp
   .rw [Sl h10,eC];have h1:n/10<10^k:=by rw [Nat.pow_succ] at h;omega
    have hk:0<k:=by rcases Nat.eq_zero_or_pos k with rfl | h2;· simp at h;omega
                    .exact h2
    have:=gO hk h1;simp;omega
theorem Sc:∀ {k n:Nat},0<k->n<10^k->wC k n=List.replicate (k-(dec n).length) 48++dec n
 | k+1,n,_,h=>by
   by_cases h10:n<10
   .rw [NS h10,wC,Nat.div_eq_of_lt h10,Oj,Nat.mod_eq_of_lt h10];rfl
   .have h1:n/10<10^k:=by rw [Nat.pow_succ] at h;omega
    have hk:0<k:=by rcases Nat.eq_zero_or_pos k with rfl | h2;· simp at h;omega
                    .exact h2
    rw [Sl h10,wC,Sc hk h1,List.append_assoc,eC]
    congr 2;simp
def bI7 (z:Int):List UInt8:=(if z<0 then [45] else [])++dec z.natAbs
def vG (q:Rat):List UInt8:=bI7 q.num++if q.den=1 then [] else 47::dec q.den
open Go Go.Proofs Tryz Ord
abbrev sT (l:List UInt8):aD:=.str ⟨l.toArray⟩
abbrev bS (l:List UInt8):aJ:=.one (sT l)
section
variable {P:Program} {T U ty:TypeId} {x y z:Operand}
theorem DM {a b:List UInt8} (h:a.length+b.length<=9223372036854775807):bF P (.binOp .add T x y U) ty [bS a,bS b] (bS (a++b)):=by
 have e:(⟨(a++b).toArray⟩:ByteArray)=⟨a.toArray⟩++⟨b.toArray⟩:=by
  apply ByteArray.ext;rw [ByteArray.data_append];simp
 show bF P _ ty _ (.one (.str ⟨(a++b).toArray⟩));rw [e];exact Zw (by show ((a.toArray.size+b.toArray.size:Nat):Int)<=_;simp only [List.size_toArray];omega)
end
def bt4:Tr:=.need (.prim [(W 3 0)] none) (.unOp .not 4 (tT 15)) 4 false (.split (.u 4 0) (aZ 163 [(G3 0)] [(some 1)] [18] [46] 42 false (aZ 171 [(G1 5)] [none] [19] [42] 9 false (.need (.prim [(.one (.c (.k (.string ⟨#[47]⟩)))),(W 6 0)] none) (.binOp .add 9 (.const (.string ⟨#[47]⟩)) (tT 20) 9) 9 false (cU .add 9 17 21 2 0 7 0 9 (.ret [(W 8 0)]))))) (.ret [(W 2 0)]))
def aW5:Tr:=.need (.prim [(W 2 0)] none) (.unOp .not 4 (tT 15)) 4 false (.split (.u 3 0) (aZ 163 [(G3 0)] [(some 1)] [18] [46] 42 false (aZ 171 [(G1 4)] [none] [19] [42] 9 false (.need (.prim [(.one (.c (.k (.string ⟨#[47]⟩)))),(W 5 0)] none) (.binOp .add 9 (.const (.string ⟨#[47]⟩)) (tT 20) 9) 9 false (cU .add 9 17 21 1 0 6 0 9 (.ret [(W 7 0)]))))) (.ret [(W 1 0)]))
def bp9:Tr:=aZ 171 [(G1 0)] [none] [6] [42] 9 true (.split (.u 0 1) (.need (.prim [(.one (.c (.k (.string ⟨#[45]⟩)))),(W 1 0)] none) (.binOp .add 9 (.const (.string ⟨#[45]⟩)) (tT 11) 9) 9 false (aZ 172 [(.agg [(U 0 2)])] [none] [14] [42] 4 true bt4)) (aZ 172 [(.agg [(U 0 2)])] [none] [14] [42] 4 true aW5))
theorem az8:aV prog f74 (fun _=>none) [.v (some 3)]=bp9:=by kernel_rfl
theorem AF {n H:Nat} (h:n<2^H):(dec n).length<=H+1:=
 gO (Nat.succ_pos H) (Nat.lt_of_lt_of_le h (Nat.le_trans (Nat.pow_le_pow_left (by omega) H) (Nat.pow_le_pow_right (by omega) (Nat.le_succ H))))
end Go.Sy
namespace Go.Proofs
open Go.Shelf
def Tryz.Av:Go.Shelf.Ren:=⟨fun | 169=>170 | n=>n,fun | 70=>206 | 9=>9 | 0=>0 | 72=>209 | 37=>207 | 127=>241 | 3=>3 | 5=>5 | n=>n,fun | n=>n⟩
theorem Tryz.aw7:Go.Proofs.Lays.n169 Tryz.prog Tryz.Av:={
 mixed:=by kernel_rfl
 f169:=Tryz.func170.trans (congrArg some (by kernel_rfl))
 t0:=Tryz.underlying0
 a0:=Tryz.isAgg0
 z0:=Tryz.sizeOf0
 v0:=Tryz.zeroValue0
 t3:=Tryz.underlying3
 a3:=Tryz.isAgg3
 z3:=Tryz.sizeOf3
 v3:=Tryz.zeroValue3
 t9:=Tryz.underlying9
 a9:=Tryz.isAgg9
 z9:=Tryz.sizeOf9
 v9:=Tryz.zeroValue9
 t37:=Tryz.underlying207
 a37:=Tryz.isAgg207
 z37:=Tryz.sizeOf207
 v37:=Tryz.zeroValue207
 t70:=Tryz.underlying206
 a70:=Tryz.isAgg206
 z70:=Tryz.sizeOf206
 v70:=Tryz.zeroValue206
 t72:=Tryz.underlying209
 a72:=Tryz.isAgg209
 z72:=Tryz.sizeOf209
 v72:=Tryz.zeroValue209
 t127:=Tryz.underlying241
 a127:=Tryz.isAgg241
 z127:=Tryz.sizeOf241
 v127:=Tryz.zeroValue241 }
theorem Tryz.xS:Builder.Extra Tryz.prog Tryz.Av:={
 sizeBuilder:=by kernel_rfl
 liesBuilder:=by kernel_rfl
 t5:=Tryz.underlying5
 a5:=Tryz.isAgg5
 z5:=Tryz.sizeOf5
 v5:=Tryz.zeroValue5
 infoByte:=by kernel_rfl
 cellsByte:=by kernel_rfl
 sizeByte:=by kernel_rfl
 neB5:=by decide }
open Go.RowKit in
theorem Tryz.Builder_String_any_k (B b:Nat) (l:List UInt8) (w:World) (h:Lib.IsBuilderF 209 5 B b (Lib.byteCells l) w) (hBw:B<=w.heap.size) :
  Calls Tryz.prog 170 #[.pointer (some ⟨b,0,none⟩)] w fun e w'=>e = .returned (.string ⟨l.toArray⟩)/\(Lib.IsBuilderF 209 5 B b (Lib.byteCells l) w'/\Below B w w'/\Lib.OthersKept 5 (some b) w w'):=Any.Builder_String_any_k Tryz.aw7 Tryz.xS B b l w h hBw
def Tryz.Qg:Go.Shelf.Ren:=⟨fun | 171=>169 | 243=>214 | 246=>236 | 283=>252 | 284=>253 | 285=>254 | 286=>255 | 129=>262 | 317=>261 | 318=>263 | 319=>264 | 320=>265 | 337=>267 | 338=>268 | n=>n,fun | 3=>3 | 9=>9 | 2=>2 | 4=>4 | 171=>280 | 0=>0 | 53=>236 | 37=>207 | 5=>5 | 173=>283 | 212=>292 | 51=>237 | 20=>20 | 213=>293 | 46=>251 | 232=>297 | 233=>298 | n=>n,fun | 17=>0 | 18=>2 | 19=>3 | n=>n⟩
theorem Tryz.ZD:Go.Proofs.LaysM.n171 Tryz.prog Tryz.Qg:={
 mixed:=by kernel_rfl
 f129:=Tryz.func262.trans (congrArg some (by kernel_rfl))
 f171:=Tryz.func169.trans (congrArg some (by kernel_rfl))
 f243:=Tryz.func214.trans (congrArg some (by kernel_rfl))
 f246:=Tryz.func236.trans (congrArg some (by kernel_rfl))
 f283:=Tryz.func252.trans (congrArg some (by kernel_rfl))
 f284:=Tryz.func253.trans (congrArg some (by kernel_rfl))
 f285:=Tryz.func254.trans (congrArg some (by kernel_rfl))
 f286:=Tryz.func255.trans (congrArg some (by kernel_rfl))
 f317:=Tryz.func261.trans (congrArg some (by kernel_rfl))
 f318:=Tryz.func263.trans (congrArg some (by kernel_rfl))
 f319:=Tryz.func264.trans (congrArg some (by kernel_rfl))
 f320:=Tryz.func265.trans (congrArg some (by kernel_rfl))
 f337:=Tryz.func267.trans (congrArg some (by kernel_rfl))
 f338:=Tryz.func268.trans (congrArg some (by kernel_rfl))
 t0:=Tryz.underlying0
 a0:=Tryz.isAgg0
 z0:=Tryz.sizeOf0
 v0:=Tryz.zeroValue0
 t2:=Tryz.underlying2
 a2:=Tryz.isAgg2
 z2:=Tryz.sizeOf2
 v2:=Tryz.zeroValue2
 t3:=Tryz.underlying3
 a3:=Tryz.isAgg3
 z3:=Tryz.sizeOf3
 v3:=Tryz.zeroValue3
 t4:=Tryz.underlying4
 a4:=Tryz.isAgg4
 z4:=Tryz.sizeOf4
 v4:=Tryz.zeroValue4
 t5:=Tryz.underlying5
 a5:=Tryz.isAgg5
 z5:=Tryz.sizeOf5
 v5:=Tryz.zeroValue5
 t9:=Tryz.underlying9
 a9:=Tryz.isAgg9
 z9:=Tryz.sizeOf9
 v9:=Tryz.zeroValue9
 t20:=Tryz.underlying20
 a20:=Tryz.isAgg20
 z20:=Tryz.sizeOf20
 v20:=Tryz.zeroValue20
 t37:=Tryz.underlying207
 a37:=Tryz.isAgg207
 z37:=Tryz.sizeOf207
 v37:=Tryz.zeroValue207
 t46:=Tryz.underlying251
 a46:=Tryz.isAgg251
 z46:=Tryz.sizeOf251
 v46:=Tryz.zeroValue251
 t51:=Tryz.underlying237
 a51:=Tryz.isAgg237
 z51:=Tryz.sizeOf237
 v51:=Tryz.zeroValue237
 t53:=Tryz.underlying236
 a53:=Tryz.isAgg236
 z53:=Tryz.sizeOf236
 v53:=Tryz.zeroValue236
 t171:=Tryz.underlying280
 a171:=Tryz.isAgg280
 z171:=Tryz.sizeOf280
 v171:=Tryz.zeroValue280
 t173:=Tryz.underlying283
 a173:=Tryz.isAgg283
 z173:=Tryz.sizeOf283
 v173:=Tryz.zeroValue283
 t212:=Tryz.underlying292
 a212:=Tryz.isAgg292
 z212:=Tryz.sizeOf292
 v212:=Tryz.zeroValue292
 t213:=Tryz.underlying293
 a213:=Tryz.isAgg293
 z213:=Tryz.sizeOf293
 t232:=Tryz.underlying297
 a232:=Tryz.isAgg297
 z232:=Tryz.sizeOf297
 v232:=Tryz.zeroValue297
 t233:=Tryz.underlying298
 a233:=Tryz.isAgg298
 z233:=Tryz.sizeOf298
 v233:=Tryz.zeroValue298
 g17:=by kernel_rfl
 g18:=by kernel_rfl
 g19:=by kernel_rfl
 i0:=by kernel_rfl
 i2:=by kernel_rfl
 i3:=by kernel_rfl
 i4:=by kernel_rfl
 i5:=by kernel_rfl
 i9:=by kernel_rfl
 i20:=by kernel_rfl
 i37:=by kernel_rfl
 i46:=by kernel_rfl
 i51:=by kernel_rfl
 i53:=by kernel_rfl
 i171:=by kernel_rfl
 i173:=by kernel_rfl
 i212:=by kernel_rfl
 i232:=by kernel_rfl
 i233:=by kernel_rfl
 m17:=by kernel_rfl
 m18:=by kernel_rfl
 m19:=by kernel_rfl }
open Go.RowKit Go.Sort Go.Lib in
theorem Tryz.strconv_Itoa (n:Int) (h0:-9223372036854775808<=n) (h1:n<=9223372036854775807) (w:World) (htab:Lib.TabIs Tryz.prog w "internal/strconv.uint64pow10" .u64 Lib.pow10Tab) :
  Calls Tryz.prog 169 #[.int .i64 n] w fun e w'=>e = .returned (.string ⟨(Lib.itoa n).toArray⟩)/\∃ k os,w'=grow (w.drewN k) os:=Any.strconv_Itoa Tryz.ZD n h0 h1 w htab
def Tryz.AG:Go.Shelf.Ren:=⟨fun | 105=>216 | 212=>238 | 99=>239 | 165=>240 | 166=>167 | 170=>166 | 169=>170 | 263=>256 | 264=>257 | 206=>258 | 240=>213 | 241=>259 | 276=>235 | 277=>266 | n=>n,fun | 9=>9 | 3=>3 | 4=>4 | 20=>20 | 0=>0 | 46=>251 | 109=>267 | 5=>5 | 72=>209 | 76=>212 | 51=>237 | 146=>285 | 53=>236 | 148=>287 | 70=>206 | 37=>207 | 75=>211 | 127=>241 | 164=>263 | 80=>137 | n=>n,fun | n=>n⟩
theorem Tryz.Xf:Go.Proofs.Lays.n105 Tryz.prog Tryz.AG:={
 mixed:=by kernel_rfl
 f99:=Tryz.func239.trans (congrArg some (by kernel_rfl))
 f105:=Tryz.func216.trans (congrArg some (by kernel_rfl))
 f165:=Tryz.func240.trans (congrArg some (by kernel_rfl))
 f166:=Tryz.func167.trans (congrArg some (by kernel_rfl))
 f169:=Tryz.func170.trans (congrArg some (by kernel_rfl))
 f170:=Tryz.func166.trans (congrArg some (by kernel_rfl))
 f206:=Tryz.func258.trans (congrArg some (by kernel_rfl))
 f212:=Tryz.func238.trans (congrArg some (by kernel_rfl))
 f240:=Tryz.func213.trans (congrArg some (by kernel_rfl))
 f241:=Tryz.func259.trans (congrArg some (by kernel_rfl))
 f263:=Tryz.func256.trans (congrArg some (by kernel_rfl))
 f264:=Tryz.func257.trans (congrArg some (by kernel_rfl))
 f276:=Tryz.func235.trans (congrArg some (by kernel_rfl))
 f277:=Tryz.func266.trans (congrArg some (by kernel_rfl))
 t0:=Tryz.underlying0
 a0:=Tryz.isAgg0
 z0:=Tryz.sizeOf0
 v0:=Tryz.zeroValue0
 t3:=Tryz.underlying3
 a3:=Tryz.isAgg3
 z3:=Tryz.sizeOf3
 v3:=Tryz.zeroValue3
 t4:=Tryz.underlying4
 a4:=Tryz.isAgg4
 z4:=Tryz.sizeOf4
 v4:=Tryz.zeroValue4
 t5:=Tryz.underlying5
 a5:=Tryz.isAgg5
 z5:=Tryz.sizeOf5
 v5:=Tryz.zeroValue5
 t9:=Tryz.underlying9
 a9:=Tryz.isAgg9
 z9:=Tryz.sizeOf9
 v9:=Tryz.zeroValue9
 t20:=Tryz.underlying20
 a20:=Tryz.isAgg20
 z20:=Tryz.sizeOf20
 v20:=Tryz.zeroValue20
 t37:=Tryz.underlying207
 a37:=Tryz.isAgg207
 z37:=Tryz.sizeOf207
 v37:=Tryz.zeroValue207
 t46:=Tryz.underlying251
 a46:=Tryz.isAgg251
 z46:=Tryz.sizeOf251
 v46:=Tryz.zeroValue251
 t51:=Tryz.underlying237
 a51:=Tryz.isAgg237
 z51:=Tryz.sizeOf237
 v51:=Tryz.zeroValue237
 t53:=Tryz.underlying236
 a53:=Tryz.isAgg236
 z53:=Tryz.sizeOf236
 v53:=Tryz.zeroValue236
 t70:=Tryz.underlying206
 a70:=Tryz.isAgg206
 z70:=Tryz.sizeOf206
 v70:=Tryz.zeroValue206
 t72:=Tryz.underlying209
 a72:=Tryz.isAgg209
 z72:=Tryz.sizeOf209
 v72:=Tryz.zeroValue209
 t75:=Tryz.underlying211
 a75:=Tryz.isAgg211
 z75:=Tryz.sizeOf211
 v75:=Tryz.zeroValue211
 t76:=Tryz.underlying212
 a76:=Tryz.isAgg212
 z76:=Tryz.sizeOf212
 v76:=Tryz.zeroValue212
 t109:=Tryz.underlying267
 a109:=Tryz.isAgg267
 z109:=Tryz.sizeOf267
 v109:=Tryz.zeroValue267
 t127:=Tryz.underlying241
 a127:=Tryz.isAgg241
 z127:=Tryz.sizeOf241
 v127:=Tryz.zeroValue241
 t146:=Tryz.underlying285
 a146:=Tryz.isAgg285
 z146:=Tryz.sizeOf285
 v146:=Tryz.zeroValue285
 t148:=Tryz.underlying287
 a148:=Tryz.isAgg287
 z148:=Tryz.sizeOf287
 v148:=Tryz.zeroValue287
 t164:=Tryz.underlying263
 a164:=Tryz.isAgg263
 z164:=Tryz.sizeOf263
 v164:=Tryz.zeroValue263 }
theorem Tryz.yM:Builder.Extra Tryz.prog Tryz.AG:={
 sizeBuilder:=by kernel_rfl
 liesBuilder:=by kernel_rfl
 t5:=Tryz.underlying5
 a5:=Tryz.isAgg5
 z5:=Tryz.sizeOf5
 v5:=Tryz.zeroValue5
 infoByte:=by kernel_rfl
 cellsByte:=by kernel_rfl
 sizeByte:=by kernel_rfl
 neB5:=by decide }
end Go.Proofs
namespace Go.Sy
open Go Go.Proofs Go.RowKit Go.Shelf Tryz Ord
attribute [local go_sem] Oper.semAt_some
abbrev D9:={d:Nat // d<1000000000}
instance:Inhabited D9:=⟨⟨0,by omega⟩⟩
abbrev bc9 (d:D9):Value:=.int .u32 (d.1:Int)
def tx (L:Nat) (pre:List (Nat×D9)):List UInt8:=pre.foldl (fun t x=>t++if x.1+1<L then wC 9 x.2.1 else dec x.2.1) []
theorem ay6 (L:Nat) (pre:List (Nat×D9)) (x:Nat×D9):tx L (pre ++ [x])=tx L pre++if x.1+1<L then wC 9 x.2.1 else dec x.2.1:=by simp [tx]
theorem Rl (L:Nat) (x:Nat×D9):(if x.1+1<L then wC 9 x.2.1 else dec x.2.1).length<=9:=by
 split
 .rw [AA];omega
 .exact gO (by omega) (by rw [show (10:Nat)^9=1000000000 by decide];exact x.2.2)
theorem bf3 (L:Nat) (pre:List (Nat×D9)):(tx L pre).length<=9*pre.length:=by
 have h:∀ (l:List (Nat×D9)) (t:List UInt8),(l.foldl (fun t x=>t++if x.1+1<L then wC 9 x.2.1 else dec x.2.1) t).length<=t.length+9*l.length:=by
  intro l
  induction l with
  | nil=>intro t;simp
  | cons x l ih=>
    intro t;have h1:=ih (t++if x.1+1<L then wC 9 x.2.1 else dec x.2.1);have h2:=Rl L x;rw [eC] at h1;rw [List.foldl_cons,List.length_cons];omega
 have:=h pre []
 simpa [tx] using this
theorem Rj {ds:List Nat} (h:Dg ds):∃ vs:List D9,vs.map Subtype.val=ds:=by
 induction ds with
 | nil=>exact ⟨[],rfl⟩
 | cons d ds ih=>
   obtain ⟨vs,hv⟩:=ih fun x hx=>h x (List.mem_cons_of_mem _ hx);exact ⟨⟨d,h d List.mem_cons_self⟩::vs,by rw [List.map_cons,hv]⟩
theorem Lz (w:World) (k:Nat) (os:Array Obj):Below w.heap.size w (Sort.grow (w.drewN k) os):=by
 refine ⟨rfl,rfl,rfl,?_,fun j hj=>?_⟩
 .show w.heap.size<=(w.heap++os).size;rw [Array.size_append];omega
 .show (w.heap++os)[j]? = _;exact Array.getElem?_append_left hj
theorem Qj (n:Nat) (w:World) (M:Nat->Prop) (hM:Good M w) (hn:n<=9223372036854775807:=by omega) :
  Calls prog 169 #[.int .i64 (n:Int)] w fun e w'=>e = .returned (.string ⟨(dec n).toArray⟩)/\Below w.heap.size w w':=by
 obtain ⟨_,T,fz,h⟩:=hM (0,FG) (by simp [at6.tab])
 have htab:Lib.TabIs prog w "internal/strconv.uint64pow10" .u64 Lib.pow10Tab:=by
  unfold Lib.TabIs World.var?;rw [show prog.globalNamed "internal/strconv.uint64pow10" = some 0 by kernel_rfl];have h:w.heap[0]? = some (.cells FG T fz):=h;simp only [Option.bind_some,h];rfl
 refine (Tryz.strconv_Itoa (n:Int) (by omega) (by omega) w htab).mono ?_;rintro e w' ⟨rfl,k,os,rfl⟩;refine ⟨?_,Lz w k os⟩;rw [Lib.itoa_nonneg]
theorem WG (B b:Nat) (bs:List Value) (s:ByteArray) (w:World) (h:Lib.IsBuilderF 209 5 B b bs w) (hlen:bs.length+s.size<=140737488355328) (hBw:B<=w.heap.size) :
  Calls prog 167 #[.pointer (some ⟨b,0,none⟩), .string s] w fun e w'=>e = .returned (.tuple #[.int .i64 s.size, .nilIface])/\(Lib.IsBuilderF 209 5 B b (bs++Lib.strCells s) w'/\Below B w w'/\Lib.OthersKept 5 (some b) w w'):=
 (Any.Builder_WriteString_k { Tryz.Xf with } Tryz.yM B b bs s w h hlen hBw).mono fun e w' ⟨h1,h2,h3,h4⟩=>⟨h1, .inr h2,h3,h4⟩
theorem wU {T e B b:Nat} {bs:List Value} {A A':World} (h:Lib.IsBuilderF T e B b bs A) (k:∀ (j:Nat) (o:Obj),A.heap[j]? = some o->o.isCells=true->A'.heap[j]? = some o):Lib.IsBuilderF T e B b bs A':=by
 have one:∀ p,Lib.BuilderAtF T e B b p bs A->Lib.BuilderAtF T e B b p bs A':=by
  rintro p ⟨h1,v,h2,⟨h3,h4⟩,h5⟩;refine ⟨h1,v,k _ _ h2 rfl,⟨h3,?_⟩,h5⟩;rcases h4 with h4 | ⟨g,cap,cur,fz,h6,h7,h8,h9⟩
  .exact .inl h4
  .exact .inr ⟨g,cap,cur,fz,h6,h7,k _ _ h8 rfl,h9⟩
 exact h.elim (fun x=>.inl (one _ x)) (fun x=>.inr (one _ x))
theorem eR {A B:World} {row:Option Nat} (hg:A.grownBy B row) (hr:∀ r,row=some r->∃ o:Obj,A.heap[r]? = some o/\o.isCells=false) {b:Nat} {o:Obj} (ho:A.heap[b]? = some o) (hc:o.isCells=true):B.heap[b]? = some o:=by
 refine (hg.block b (cS.1 ho).1 fun e=>?_).trans ho;obtain ⟨o',ho',hc'⟩:=hr b e.symm;rw [ho] at ho';cases ho';rw [hc] at hc';cases hc'
theorem bK {W:World} {b T:Nat} {cs:Array Value} {fz:Nat×Nat} (h:W.heap[b]? = some (.cells cs T fz)) {j:Nat} {v:Value} (hj:cs[j]? = some v):W.cell? ⟨b,j,none⟩=some v:=by
 simp only [World.cell?,h]
 simpa using hj
theorem sL {A A':World} (h:Below A.heap.size A A') (j:Nat) (o:Obj) (ho:A.heap[j]? = some o):A'.heap[j]? = some o:=(h.block j (cS.1 ho).1).trans ho
set_option maxHeartbeats 1000000 in
theorem aw2 (n:Nat) (a:Option Addr) (len cap:Nat) (w:World) :
  CallsIn Fence.wide n prog 172 #[.agg #[.slice a len cap]] w fun e w'=>e = .returned (.bool (decide ((len:Int)=0)))/\w'=w.alloc (.cells #[.slice a len cap] 42):=by
 refine callsIn_of_wp func172 rfl trivial ?_ rfl;simp only [ntmps172,List.size_toArray,List.length_cons,List.length_nil,Nat.reduceAdd,Nat.reduceSub,Array.replicate_succ,Array.replicate_zero,List.push_toArray,List.append_toArray,List.nil_append,List.cons_append]
 gi_wp2
 go_ret
 exact ⟨rfl,rfl⟩
theorem nine {d:Nat} (hd:d<1000000000):∃ c:Nat,c<=9/\wrap64 (9-((dec d).length:Int))=(c:Int)/\wC 9 d=List.replicate c 48++dec d:=by
 have hd':d<10^9:=by rw [show (10:Nat)^9=1000000000 by decide];exact hd
 have h1:(dec d).length<=9:=gO (by omega) hd';refine ⟨9-(dec d).length,by omega,?_,Sc (by omega) hd'⟩;rw [show (9:Int)-((dec d).length:Int)=((9-(dec d).length:Nat):Int) by omega];have hk:9-(dec d).length<=9:=Nat.sub_le _ _;generalize 9-(dec d).length=k at hk ⊢;unfold wrap64;omega
theorem YO {n0 L cap:Nat} {a:Option Addr} {W0 W W':World} {bs bs':List Value} (h2:Below (n0+2) W0 W) (h3:n0+4<=W.heap.size) (h4:W.heap[n0+3]? = some (.cells #[.slice a L cap] 40 (0,0)))
  (hb:Below (n0+2) W W') (ho:∀ k o,W.heap[k]? = some o->some k≠some (n0+2)->(∀ c fz,o ≠ .cells c 5 fz)->W'.heap[k]? = some o)
  (h1:Lib.IsBuilderF 209 5 (n0+2) (n0+2) bs W) (h1':Lib.IsBuilderF 209 5 (n0+2) (n0+2) bs' W') :
  KeepsOthers W W'/\KpB n0 (n0+3) W W'/\Lib.IsBuilderF 209 5 (n0+2) (n0+2) bs' W'/\Below (n0+2) W0 W'/\n0+4<=W'.heap.size/\W'.heap[n0+3]? = some (.cells #[.slice a L cap] 40 (0,0)):=by
 have h5:=ho _ _ h4 (by simp) (by intro c fz h;cases h)
 obtain ⟨cs,T,fz,hbc⟩:∃ cs T fz,W.heap[n0+2]? = some (.cells cs T fz):=by
  rcases h1 with ⟨_,v,h,_⟩ | ⟨_,v,h,_⟩
  .exact ⟨_,_,_,h⟩
  .exact ⟨_,_,_,h⟩
 refine ⟨⟨hb.size,fun k o hk hc=>ho k o hk ?_ (by rintro c fz rfl;cases hc)⟩,⟨hb.mono (by omega),fun v hv=>?_⟩,h1',h2.trans hb,Nat.le_trans h3 hb.size,h5⟩
 .rintro e;cases e;rw [hbc] at hk;cases hk;cases hc
 .simp only [World.cell?,h4,h5] at hv ⊢;exact hv
theorem aG1 (n:Nat) (a:Option Addr) (len cap:Nat) (h:len≠0) (w:World) :
  CallsIn Fence.wide n prog 172 #[.agg #[.slice a len cap]] w fun e w'=>e = .returned (.bool false)/\w'=w.alloc (.cells #[.slice a len cap] 42):=by
 have:=aw2 n a len cap w;rw [decide_eq_false (by omega)] at this;exact this
end Go.Sy
namespace Go.Sy
open Go Go.Proofs Tryz Ord
theorem ar9 {n H:Nat} (h:n<2^H):(dg n).length<=H:=DK (Nat.lt_of_lt_of_le h (Nat.pow_le_pow_left (by omega) H))
open Go Go.Proofs Go.RowKit Go.Shelf Tryz Ord
attribute [local go_sem] Oper.semAt_some
set_option maxRecDepth 100000 in
set_option maxHeartbeats 1000000 in
theorem Ye (a:Option Addr) (cap:Nat) (vs:List D9) (w:World) (M:Nat->Prop) (hM:Good M w) (hI:Sl1 bc9 w.heap.size w (.slice a vs.length cap) vs) (hlen:vs.length<=1:=by omega) (h0:vs.length≠0:=by omega) :
  CallsIn Fence.wide 1001 prog 171 #[.agg #[.slice a vs.length cap]] w fun e W'=>e = .returned (.string ⟨(tx vs.length (bk vs vs.length)).toArray⟩)/\Below w.heap.size w W':=by
 refine callsIn_of_wp_marks func171 rfl trivial ?_ rfl;simp only [ntmps171,List.size_toArray,List.length_cons,List.length_nil,Nat.reduceAdd,Nat.reduceSub,Array.replicate_succ,Array.replicate_zero,List.push_toArray,List.append_toArray,List.nil_append,List.cons_append];generalize hL:vs.length=L at hI hlen h0 ⊢
 gi_wp2_with (refine ⟨trivial,?_⟩;gi_at_call 172;refine (aG1 _ _ _ _ h0 _).mono ?_;rintro e w' ⟨rfl,rfl⟩)
 gi_wp2_with (refine ⟨trivial,?_⟩;gi_at_call 215;refine (Rb _ _ _ _ _).mono ?_;rintro e w' ⟨rfl,rfl⟩)
 obtain ⟨n0,hn0⟩:∃ n0,w.heap.size=n0:=⟨_,rfl⟩
 rw [hn0] at hI ⊢;obtain ⟨W0,hW0⟩:∃ W0,((((w.alloc (.cells #[.slice a L cap] 42)).alloc (.cells #[.slice a L cap] 42)).alloc (.cells #[.pointer none, .slice none 0 0] 209)).alloc (.cells #[.slice a L cap] 40))=W0:=⟨_,rfl⟩
 have hs0:W0.heap.size=n0+4:=by rw [<-hW0];simp [hn0]
 have hA0:W0.heap[n0]? = some (.cells #[.slice a L cap] 42 (0,0)):=by rw [<-hW0,heap_alloc_old _ _ _ (by simp;omega),heap_alloc_old _ _ _ (by simp;omega),heap_alloc_old _ _ _ (by simp;omega),<-hn0];exact heap_alloc_new w _
 have hT0:W0.heap[n0+2]? = some (.cells #[.pointer none, .slice none 0 0] 209 (0,0)):=by
  rw [<-hW0,heap_alloc_old _ _ _ (by simp;omega)];have:=heap_alloc_new ((w.alloc (.cells #[.slice a L cap] 42)).alloc (.cells #[.slice a L cap] 42)) (.cells #[.pointer none, .slice none 0 0] 209);rw [World.size_alloc,World.size_alloc,hn0] at this;exact this
 have hP0:W0.heap[n0+3]? = some (.cells #[.slice a L cap] 40 (0,0)):=by
  rw [<-hW0];have:=heap_alloc_new (((w.alloc (.cells #[.slice a L cap] 42)).alloc (.cells #[.slice a L cap] 42)).alloc (.cells #[.pointer none, .slice none 0 0] 209)) (.cells #[.slice a L cap] 40);rw [World.size_alloc,World.size_alloc,World.size_alloc,hn0] at this;exact this
 have hB0:Below n0 w W0:=by
  rw [<-hW0];exact ((((Below.refl _ w).alloc (by omega) _).alloc (by simp;omega) _).alloc (by simp;omega) _).alloc (by simp;omega) _
 rw [hW0];have hG0:Good M W0:=hM.below hn0.symm hB0
 refine wpIn_rangeFunc_ownF (w0:=W0) rfl (by omega) (gf:=237) (lb:=#[.pointer (some ⟨n0+1+1+1,0,none⟩)]) rfl trivial (enters_of func237 (by kernel_rfl) rfl)
  (AP (enc:=bc9) (n0+3) n0 (.slice a L cap) vs (by omega) W0 (by omega) (by omega) (bK hP0 rfl) (hI.below hB0)) Xd (Xo (by omega) (by omega)) (Below.refl _ _) (fun _=>rfl)
  (fun pre W=>Lib.IsBuilderF 209 5 (n0+2) (n0+2) (Lib.byteCells (tx L pre)) W/\Below (n0+2) W0 W/\n0+4<=W.heap.size/\W.heap[n0+3]? = some (.cells #[.slice a L cap] 40 (0,0)))
  (fun _ _ _=>False) ?own (fun _=>by intro s A B row hs;exact hs.elim) ?start
  (fun x=>{ tmps:=#[.agg #[.slice a L cap], .pointer (some ⟨n0,0,none⟩), .string ⟨#[]⟩, .pointer (some ⟨n0+1+1,0,none⟩), .int .i64 (x.1:Int), .int .u32 (x.2.1:Int),undef, .agg #[.slice a L cap], .bool false, .pointer (some ⟨n0,0,none⟩), .slice a L cap, .func (.func 237) #[] #[.pointer (some ⟨n0+1+1+1,0,none⟩)], .int .i64 (x.1:Int), .int .u32 (x.2.1:Int),undef,undef,undef,undef,undef,undef,undef,undef,undef,undef,undef,undef,undef,undef,undef,undef,undef],defers:=[] }) ?assign ?body ?done ?stop
 case own=>
  rintro s A A' row ⟨h1,h2,h3,h4⟩ hg hr;exact ⟨wU h1 fun j o ho hc=>eR hg (fun r e=>(hr r e).2) ho hc,h2.grown hg (by omega) (fun k e=>by have:=(hr k e).1;omega),Nat.le_trans h3 hg.size,eR hg (fun r e=>(hr r e).2) h4 rfl⟩
 case start=>
  exact ⟨Lib.IsBuilderF.of (.inl ⟨aY _,_,hT0,⟨rfl, .inl ⟨rfl,rfl⟩⟩,by simp [Value.ownBlock]⟩),Below.refl _ _,by omega,hP0⟩
 case assign=>
  intro l x W K hK
  gi_wp2
  exact hK
 case body=>
  rintro l pre x W ⟨h1,h2,h3,h4⟩ hlt;have hG:Good M W:=hM.below hn0.symm (hB0.trans (h2.mono (by omega)));have hA:W.heap[n0]? = some (.cells #[.slice a L cap] 42 (0,0)):=(h2.block n0 (by omega)).trans hA0;have cA:W.cell? ⟨n0,0,none⟩=some (.slice a L cap):=bK hA rfl;have hx:x.2.1<1000000000:=x.2.2;have hpl:=bf3 L pre;have htx2:tx L (pre ++ [x])=tx L pre++dec x.2.1:=by rw [ay6,if_neg (by omega)]
  have h32:n0+2<=W.heap.size:=by omega
  rw [hL] at hlt
  have lC:(Lib.byteCells (tx L pre)).length+(⟨(dec x.2.1).toArray⟩:ByteArray).size<=140737488355328:=by
   have h2:(⟨(dec x.2.1).toArray⟩:ByteArray).size=(dec x.2.1).length:=List.size_toArray;have h3:(dec x.2.1).length<=9:=gO (by omega) (by rw [show (10:Nat)^9=1000000000 by decide];exact hx);rw [Lib.byteCells_length,h2];omega
  have hcell2:Lib.byteCells (tx L pre)++Lib.strCells ⟨(dec x.2.1).toArray⟩=Lib.byteCells (tx L pre++dec x.2.1):=by
   rw [Lib.strCells_eq,Lib.byteCells_append]
  have hc:¬ (x.1:Int)<(L:Int)-1:=by omega
  gi_wp2_with (refine ⟨trivial,?_⟩;gi_at_call 169;refine (CallsIn.inRound l (callsIn_wide.2 (Qj x.2.1 _ M hG))).mono ?_;rintro e w1 ⟨rfl,hb1⟩;have cA1:w1.cell? ⟨n0,0,none⟩=some (.slice a L cap):=(hb1.cell (p:=⟨n0,0,none⟩) (show n0<W.heap.size by omega)).trans cA)
  have b1:Lib.IsBuilderF 209 5 (n0+2) (n0+2) (Lib.byteCells (tx L pre)) w1:=wU h1 fun j o ho _=>sL hb1 j o ho;have s1:n0+2<=w1.heap.size:=Nat.le_trans h32 hb1.size;have q:CallsIn (Fence.wide.inRound l) 998 prog 167 #[.pointer (some ⟨n0+1+1,0,none⟩), .string ⟨(dec x.2.1).toArray⟩] w1 fun e w'=>e = .returned (.tuple #[.int .i64 (⟨(dec x.2.1).toArray⟩:ByteArray).size, .nilIface])/\(Lib.IsBuilderF 209 5 (n0+2) (n0+2) (Lib.byteCells (tx L pre)++Lib.strCells ⟨(dec x.2.1).toArray⟩) w'/\Below (n0+2) w1 w'/\Lib.OthersKept 5 (some (n0+2)) w1 w'):=CallsIn.inRound l (callsIn_wide.2 (WG (n0+2) (n0+2) _ ⟨(dec x.2.1).toArray⟩ w1 b1 lC s1))
  gi_wp2_with (refine ⟨trivial,?_⟩;gi_at_call 167;refine q.mono ?_;clear q;rintro e w4 ⟨rfl,b4,hl4,ho4⟩)
  rw [hcell2,<-htx2] at b4;exact YO h2 h3 h4 ((hb1.mono h32).trans hl4) (fun k o ho hk hu=>ho4 k o (sL hb1 k o ho) hk hu) h1 b4
 case done=>
  rintro D ys W hD rfl ⟨h1,h2,h3,h4⟩ hK;have s1:n0+2<=W.heap.size:=by omega
  have hbW:Below n0 w W:=hB0.trans (h2.mono (by omega))
  gi_wp2_with (refine ⟨trivial,?_⟩;gi_at_call 170;refine (callsIn_wide.2 (Tryz.Builder_String_any_k (n0+2) (n0+2) _ W h1 s1)).mono ?_;rintro e w1 ⟨rfl,b1,hl1,ho1⟩)
  have hne:some D≠some (n0+2):=by intro e;cases e;omega
  have hK1:=ho1 D _ hK hne (by intro c fz h;cases h);refine ⟨by simp, .inl ⟨_,_,rfl,run_takeDeferred hK1,?_⟩⟩;rw [hn0];refine ⟨_,results_tmp rfl _ _ _,rfl,(hbW.trans (hl1.mono (by omega))).trans ?_⟩;exact belowK_b (w:=w) (by omega) w1 D _ _ (by omega) hK1 rfl rfl
 case stop=>
  rintro D c pre W hD _ h hK;exact h.elim
theorem CU (n:Nat) (hn:n<1000000000) (h0:n≠0:=by omega):aQ prog 171 [mT n] (.ret [bS (dec n)]):=by
 refine ⟨bJ (by kernel_rfl),fun M w vs hM hv=>?_⟩
 match vs,hv with
 | [v],hv=>
   obtain ⟨⟨us,rfl,hus⟩,_⟩:=hv
   match us,hus with
   | [u],hus=>
     obtain ⟨ds,hds⟩:=Rj (kZ n);have hdg:dg n = [n]:=by unfold dg;rw [gS,Nat.mod_eq_of_lt hn,Nat.div_eq_of_lt hn,eD]
     have hdl:ds.length=1:=by rw [<-aK (f:=Subtype.val),hds,hdg];rfl
     obtain ⟨a,cap,rfl,hel⟩:=aM2 hus.1;have hl:((dg n).map (fun d:Nat=>(d:Int))).length=ds.length:=by rw [aK,hdg,hdl];rfl
     rw [hl]
     have hI:Sl1 bc9 w.heap.size w (.slice a ds.length cap) ds:=by
      refine ⟨a,cap,rfl,?_⟩;rcases hel with h | ⟨b,off,rfl,hb,hc⟩
      .rw [hdg] at h;cases h
      .refine .inr ⟨b,off,rfl,hb,fun j v hj=>hc j _ ?_⟩;rw [<-hds,List.map_map,dL,hj];rfl
     have h1:=Ye a cap ds w M hM.2 hI
     have ht:tx ds.length (bk ds ds.length)=dec n:=by
      match ds,hdl,hds with
      | [d],_,hds=>
        rw [hdg] at hds;have e:d.1=n:=by simpa using hds
        rw [<-e];rfl
     rw [ht] at h1;refine ((callsIn_wide (n:=1001)).1 h1).mono ?_;rintro e w' ⟨rfl,hb⟩;exact ⟨hb,[.string ⟨(dec n).toArray⟩],rfl,⟨rfl,rfl⟩,trivial⟩
   | [],hus=>exact hus.elim
   | _::_::_,hus=>exact hus.2.elim
 | [],hv=>exact hv.elim
 | _::_::_,hv=>exact hv.2.elim
theorem Dd (q:Rat) (hf:Fit 64 q) (h0:q.num.natAbs≠0) (hn1:q.num.natAbs<1000000000) (hd1:q.den<1000000000):aQ prog 74 [(qT q:aJ)] (.ret [bS (vG q)]):=by
 refine eH func74 az8 ?_;have hd:=ar9 hf.2;have hn:=ar9 hf.1;have hp:=q.den_pos;have ln:=AF hf.1;have ld:=AF hf.2;rw [show vG q=((if q.num<0 then [45] else [])++dec q.num.natAbs)++if q.den=1 then [] else [47]++dec q.den from rfl];apply aA (CU q.num.natAbs hn1 h0) rfl;refine vs _ rfl ?_ ?_<;>intro h1
 .apply vn (DM (a:=[45]) (by simp only [List.length_cons,List.length_nil];omega)) rfl;apply aA (Cs (q.den-1)) rfl;apply vn Rm rfl;dsimp only [aE,aF];refine vs _ rfl ?_ ?_<;>intro h5
  .apply aA (gB q) rfl;apply aA (CU q.den hd1) rfl;apply vn (DM (a:=[47]) (by simp only [List.length_cons,List.length_nil];omega)) rfl;apply vn (DM (by simp only [eC,List.length_cons,List.length_nil];omega)) rfl;dsimp only [aE,aF];rw [if_pos h1,if_neg (by omega)];exact aL rfl
  rw [if_pos h1,if_pos (by omega),List.append_nil];exact aL rfl
 apply aA (Cs (q.den-1)) rfl;apply vn Rm rfl;refine vs _ rfl ?_ ?_<;>intro h14
 .apply aA (gB q) rfl;apply aA (CU q.den hd1) rfl;dsimp only [aE,aF];apply vn (DM (a:=[47]) (by simp only [List.length_cons,List.length_nil];omega)) rfl;apply vn (DM (by simp only [eC,List.length_cons,List.length_nil];omega)) rfl;dsimp only [aE,aF];rw [if_neg h1,if_neg (by omega)];exact aL rfl
 rw [if_neg h1,if_pos (by omega),List.append_nil];exact aL rfl
end Go.Sy
namespace Go.Sy
open Go Go.Proofs Go.RowKit Go.Shelf Tryz Ord
attribute [local go_sem] Oper.semAt_some
def bv3:Tr:=aZ 76 [(G3 0),(G3 2)] [(some 3)] [6,7] [46,46] 46 false (aZ 88 [(G3 3),(G3 1)] [(some 3)] [8,9] [46,46] 46 true (.ret [(G3 4)]))
theorem YV:aV prog f178 (fun _=>none) [.v (some 3), .v (some 3), .ref 3]=bv3:=by kernel_rfl
def nK (ps:List Rat) (c:Rat):Rat:=ps.foldr (fun a v=>v*c+a) 0
theorem XY (v c x:Rat) (A B C:Nat) (hv:Fit A v) (hc:Fit B c) (hx:Fit C x) (hA:A+B+C<=4294967296):aQ prog 178 [(qT v:aJ),(qT c:aJ),(.one (.bH (qC x)):aJ)] (.ret [qT (v*x+c)]):=by
 refine dvr (ins:=[.v (qT v), .v (qT c), .ref (qC x)]) func178 YV ?_;apply aA (fK v x A C hv hx) rfl;apply aA (jU (v*x) c _ B (hv.mul hx) hc) rfl;exact aL rfl
section
variable (M:Nat->Prop) (w:World) (B:Nat)
structure QV where
 q:Rat
 u0:Value
 u1:Value
 u2:Value
 fit:Fit B q
 rep:bA M w (qC q) [u0,u1,u2]
end
theorem au9 (M:Nat->Prop) (w:World) (B:Nat) (hB:1<=B):Nonempty (QV M w B):=
 ⟨⟨0, .slice none 0 0, .bool false, .slice none 0 0,Fit.zero hB,bA.sub jV ⟨⟨rfl,rfl⟩,⟨rfl,rfl⟩,⟨rfl,rfl⟩,trivial⟩⟩⟩
def hv {M:Nat->Prop} {w:World} {B:Nat} (x:Rat) (pre:List (Nat×QV M w B)):Rat:=pre.foldl (fun v c=>v*x+c.2.q) 0
theorem VP {P:Program} {W:World} {b T j:Nat} {cs:Array Value} {u:Value} (h:W.heap[b]? = some (.cells cs T (0,0))) (hj:j<cs.size) (o:u.oneCell'=true) :
  (store ⟨b,j,none⟩ u).run P W = .ok () (W.setRow b (cs.setIfInBounds j u)):=by
 have hcell:W.cell? ⟨b,j,none⟩=some cs[j]:=by simp [World.cell?,h,hj]
 have hfro:W.frozen? ⟨b,j,none⟩=false:=by simp [World.frozen?,h]
 rw [run_store P W _ u _ o,hcell];simp [hfro,setCell_eq_setRow W b j cs T (0,0) u h]
theorem Du {P:Program} {W:World} {b T:Nat} {c0 c1 c2 u0 u1 u2:Value} (h:W.heap[b]? = some (.cells #[c0,c1,c2] T (0,0))) (o0:u0.oneCell'=true) (o1:u1.oneCell'=true) (o2:u2.oneCell'=true) :
  (((store ⟨b,0,none⟩ u0).run P W).andThen fun _ w'=>((store ⟨b,1,none⟩ u1).run P w').andThen fun _ w'=>(store ⟨b,2,none⟩ u2).run P w') = .ok () (W.setRow b #[u0,u1,u2]):=by
 rw [VP h (by simp) o0,Result.andThen_ok,VP (setRow_heap W b _ _ T (0,0) h) (by simp) o1,Result.andThen_ok,setRow_setRow,VP (setRow_heap W b _ _ T (0,0) h) (by simp) o2,setRow_setRow];rfl
theorem below_setRow {n:Nat} {A W:World} {g:Nat} (h:Below n A W) (hg:n<=g) (cs:Array Value):Below n A (W.setRow g cs):=
 ⟨h.os,h.tape,h.output,by simpa [World.setRow] using h.size,fun k hk=>by
  rw [setRow_other W g k cs (by omega)];exact h.block k hk⟩
theorem au2 {M:Nat->Prop} {w:World} {B:Nat} (x:Rat) (pre:List (Nat×QV M w B)) (y:Nat×QV M w B):hv x (pre ++ [y])=hv x pre*x+y.2.q:=by simp [hv]
theorem ak7 {M:Nat->Prop} {w:World} {B C:Nat} {x:Rat} (hx:Fit C x):∀ (pre:List (Nat×QV M w B)) (v:Rat) (A:Nat),Fit A v->Fit (pre.length*(B+C+1)+A) (pre.foldl (fun v c=>v*x+c.2.q) v)
 | [],v,A,h=>by simpa using h
 | y::ys,v,A,h=>by
   have:=ak7 hx ys (v*x+y.2.q) _ ((h.mul hx).add y.2.fit);refine this.mono ?_;rw [List.length_cons,Nat.add_mul];omega
theorem bH9 {M:Nat->Prop} {w:World} {q:Rat} {vs:List Value} (h:cD M w [qT q] vs):∃ v0 v1 v2,pack vs = .agg #[v0,v1,v2]/\bA M w (qC q) [v0,v1,v2]:=by
 match vs,h with
 | [v],h=>
   obtain ⟨⟨us,rfl,hus⟩,_⟩:=h
   match us,hus with
   | [a,b,c],hus=>exact ⟨a,b,c,rfl,hus⟩
   | [],hus=>exact hus.elim
   | [_],hus=>exact hus.2.elim
   | [_,_],hus=>exact hus.2.2.elim
   | _::_::_::_::_,hus=>exact hus.2.2.2.elim
 | [],h=>exact h.elim
 | _::_::_,h=>exact h.2.elim
set_option maxRecDepth 100000 in
set_option maxHeartbeats 2000000 in
theorem Yy (M:Nat->Prop) (w:World) (B C:Nat) (x:Rat) (hx:Fit C x) (hM:cK M w) (hB:1<=B) [Inhabited (QV M w B)] (a:Option Addr) (cap:Nat) (ts:List (QV M w B)) (hlen:ts.length<4611686018427387904) (hbig:ts.length*(B+C+1)+B+C+1<=4294967296)
  (hI:Sl3 QV.u0 QV.u1 QV.u2 w.heap.size w (.slice a ts.length cap) ts) (z0 z1 z2:Value) (hz:bA M w (qC 0) [z0,z1,z2]) (xp:Value) (hxp:(aD.bH (qC x)).rep M w xp) :
  CallsIn Fence.wide 1001 prog 177 #[.slice a ts.length cap, .agg #[z0,z1,z2], .func (.func 178) #[] #[xp]] w fun e W'=>Below w.heap.size w W'/\∃ u0 u1 u2,e = .returned (.agg #[u0,u1,u2])/\bA M W' (qC (hv x (bk ts ts.length))) [u0,u1,u2]:=by
 refine callsIn_of_wp_marks func177 rfl trivial ?_ rfl;simp only [ntmps177,List.size_toArray,List.length_cons,List.length_nil,Nat.reduceAdd,Nat.reduceSub,Array.replicate_succ,Array.replicate_zero,List.push_toArray,List.append_toArray,List.nil_append,List.cons_append];generalize hL:ts.length=L at hI hlen hbig ⊢
 gi_wp2_with (refine ⟨trivial,?_⟩;gi_at_call 224;refine (Un _ _ _ _ _).mono ?_;rintro e w' ⟨rfl,rfl⟩)
 obtain ⟨n0,hn0⟩:∃ n0,w.heap.size=n0:=⟨_,rfl⟩
 obtain ⟨hM,hMg⟩:=hM;rw [hn0] at hI hM ⊢;obtain ⟨W0,hW0⟩:∃ W0,((((w.alloc (.cells #[z0,z1,z2] 46)).alloc (.cells #[.func (.func 178) #[] #[xp]] 164)).alloc (.cells #[.slice none 0 0, .bool false, .slice none 0 0] 46)).alloc (.cells #[.slice a L cap] 98))=W0:=⟨_,rfl⟩
 have hs0:W0.heap.size=n0+4:=by rw [<-hW0];simp [hn0]
 have hX0:W0.heap[n0]? = some (.cells #[z0,z1,z2] 46 (0,0)):=by rw [<-hW0,heap_alloc_old _ _ _ (by simp;omega),heap_alloc_old _ _ _ (by simp;omega),heap_alloc_old _ _ _ (by simp;omega),<-hn0];exact heap_alloc_new w _
 have hS0:W0.heap[n0+1]? = some (.cells #[.func (.func 178) #[] #[xp]] 164 (0,0)):=by
  rw [<-hW0,heap_alloc_old _ _ _ (by simp;omega),heap_alloc_old _ _ _ (by simp;omega)];have:=heap_alloc_new (w.alloc (.cells #[z0,z1,z2] 46)) (.cells #[.func (.func 178) #[] #[xp]] 164);rw [World.size_alloc,hn0] at this;exact this
 have hR0:W0.heap[n0+2]? = some (.cells #[.slice none 0 0, .bool false, .slice none 0 0] 46 (0,0)):=by
  rw [<-hW0,heap_alloc_old _ _ _ (by simp;omega)];have:=heap_alloc_new ((w.alloc (.cells #[z0,z1,z2] 46)).alloc (.cells #[.func (.func 178) #[] #[xp]] 164)) (.cells #[.slice none 0 0, .bool false, .slice none 0 0] 46);rw [World.size_alloc,World.size_alloc,hn0] at this;exact this
 have hP0:W0.heap[n0+3]? = some (.cells #[.slice a L cap] 98 (0,0)):=by
  rw [<-hW0];have:=heap_alloc_new (((w.alloc (.cells #[z0,z1,z2] 46)).alloc (.cells #[.func (.func 178) #[] #[xp]] 164)).alloc (.cells #[.slice none 0 0, .bool false, .slice none 0 0] 46)) (.cells #[.slice a L cap] 98);rw [World.size_alloc,World.size_alloc,World.size_alloc,hn0] at this;exact this
 have hB0:Below n0 w W0:=by
  rw [<-hW0];exact ((((Below.refl _ w).alloc (by omega) _).alloc (by simp;omega) _).alloc (by simp;omega) _).alloc (by simp;omega) _
 rw [hW0]
 refine wpIn_rangeFunc_ownH (w0:=W0) rfl (by omega) (gf:=246) (lb:=#[.pointer (some ⟨n0+1+1+1,0,none⟩)]) rfl trivial (enters_of func246 (by kernel_rfl) rfl)
  (AX (e0:=QV.u0) (e1:=QV.u1) (e2:=QV.u2) (n0+3) n0 (.slice a L cap) ts (by omega) W0 (by omega) (by omega) (bK hP0 rfl) (hI.below hB0)) Xd (Xo (by omega) (by omega)) (Below.refl _ _) (fun _=>rfl)
  (fun pre W=>Below n0 w W/\n0+4<=W.heap.size/\W.heap[n0+1]? = some (.cells #[.func (.func 178) #[] #[xp]] 164 (0,0))/\W.heap[n0+2]? = some (.cells #[.slice none 0 0, .bool false, .slice none 0 0] 46 (0,0)) /\
   ∃ u0 u1 u2,W.heap[n0]? = some (.cells #[u0,u1,u2] 46 (0,0))/\bA (fun b=>M b\/b=n0\/b=n0+2) W (qC (hv x pre)) [u0,u1,u2])
  (fun _ _ _=>False) ?own (fun _=>by intro s A B row hs;exact hs.elim) ?start
  (fun y a' W=>∃ b,n0+4<=b/\a' = { tmps:=#[.slice a L cap, .agg #[z0,z1,z2], .func (.func 178) #[] #[xp],undef, .pointer (some ⟨n0,0,none⟩), .pointer (some ⟨n0+1,0,none⟩), .pointer (some ⟨n0+1+1,0,none⟩),undef, .pointer (some ⟨b,0,none⟩), .slice a L cap, .func (.func 246) #[] #[.pointer (some ⟨n0+1+1+1,0,none⟩)], .int .i64 (y.1:Int), .agg #[y.2.u0,y.2.u1,y.2.u2],undef,undef,undef,undef,undef],defers:=[] } /\ W.heap[b]? = some (.cells #[y.2.u0,y.2.u1,y.2.u2] 46 (0,0)))
  ?ax ?assign ?body ?done ?stop
 case own=>
  rintro s A A' row ⟨h1,h2,h3,h4,u0,u1,u2,h5,h6⟩ hg hr;have hr':∀ r,row=some r->∃ o:Obj,A.heap[r]? = some o/\o.isCells=false:=fun r e=>(hr r e).2;refine ⟨h1.grown hg (by omega) (fun k e=>by have:=(hr k e).1;omega),Nat.le_trans h2 hg.size,eR hg hr' h3 rfl,eR hg hr' h4 rfl,u0,u1,u2,eR hg hr' h5 rfl,h6.mono fun b o hb ho hc=>⟨hb,eR hg hr' ho hc⟩⟩
 case start=>
  refine ⟨hB0,by omega,hS0,hR0,z0,z1,z2,hX0,hz.mono fun b o hb ho hc=>?_⟩;have hlt:=(cS.1 ho).1;exact ⟨fun h=>h.elim hb (by omega),(hB0.block b (by omega)).trans ho⟩
 case ax=>
  rintro y a' _ A A' row ⟨b,h1,h2,h3⟩ hg hr;exact ⟨b,h1,h2,eR hg (fun r e=>(hr r e).2) h3 rfl⟩
 case assign=>
  rintro l pre y W K ⟨h1,h2,h3,h4,u0,u1,u2,h5,h6⟩ hK
  gi_wp2
  obtain ⟨o0,o1,o2⟩:y.2.u0.oneCell'=true/\y.2.u1.oneCell'=true/\y.2.u2.oneCell'=true:=by
   have:=y.2.rep.one;exact ⟨this _ (by simp),this _ (by simp),this _ (by simp)⟩
  have hnew:=heap_alloc_new W (.cells #[.slice none 0 0, .bool false, .slice none 0 0] 46);rw [Du hnew o0 o1 o2];obtain ⟨W',hW'⟩:∃ W',(W.alloc (.cells #[.slice none 0 0, .bool false, .slice none 0 0] 46)).setRow W.heap.size #[y.2.u0,y.2.u1,y.2.u2]=W':=⟨_,rfl⟩
  have hold:∀ k,k<W.heap.size->W'.heap[k]? = W.heap[k]?:=fun k hk=>by rw [<-hW',setRow_other _ _ _ _ (by omega),heap_alloc_old _ _ _ hk]
  have hself:W'.heap[W.heap.size]? = some (.cells #[y.2.u0,y.2.u1,y.2.u2] 46 (0,0)):=by rw [<-hW'];exact setRow_heap _ _ _ _ _ _ hnew
  have hbel:Below W.heap.size W W':=by rw [<-hW'];exact below_setRow ((Below.refl _ W).alloc (aY _) _) (aY _) _
  have hlt:∀ {k:Nat} {o:Obj},W.heap[k]? = some o->k<W.heap.size:=fun h=>(cS.1 h).1;rw [hW']
  gi_wp2
  refine hK _ _ ⟨hbel.size,fun k o _ ho _=>(hold k (hlt ho)).trans ho⟩ ⟨hbel.mono (by omega),fun v hv=>?_⟩
   ⟨h1.trans (hbel.mono (by omega)),Nat.le_trans h2 hbel.size,(hold _ (hlt h3)).trans h3,(hold _ (hlt h4)).trans h4,u0,u1,u2,(hold _ (hlt h5)).trans h5,h6.mono fun b o hb ho _=>⟨hb,(hold b (hlt ho)).trans ho⟩⟩
   ⟨W.heap.size,by omega,rfl,hself⟩
  simp only [World.cell?,hold (n0+3) (by omega)] at hv ⊢;exact hv
 case body=>
  rintro l pre y a' W hl _ ⟨h1,h2,h3,h4,u0,u1,u2,h5,h6⟩ ⟨b,hb,rfl,hbc⟩ hlt;have hltW:∀ {k:Nat} {o:Obj},W.heap[k]? = some o->k<W.heap.size:=fun h=>(cS.1 h).1;have c0:W.cell? ⟨n0,0,none⟩=some u0:=bK h5 rfl;have c1:W.cell? ⟨n0,1,none⟩=some u1:=bK h5 rfl;have c2:W.cell? ⟨n0,2,none⟩=some u2:=bK h5 rfl;have cs:W.cell? ⟨n0+1,0,none⟩=some (.func (.func 178) #[] #[xp]):=bK h3 rfl;have cb0:W.cell? ⟨b,0,none⟩=some y.2.u0:=bK hbc rfl;have cb1:W.cell? ⟨b,1,none⟩=some y.2.u1:=bK hbc rfl;have cb2:W.cell? ⟨b,2,none⟩=some y.2.u2:=bK hbc rfl;have hM1:∀ k,(M k\/k=n0\/k=n0+2)->k<W.heap.size:=fun k h=>h.elim (fun h=>by have:=hM k h;omega) (fun h=>by omega)
  have hkeep:bO M w (fun b=>M b\/b=n0\/b=n0+2) W:=fun k o hk ho _=>by
   have hlt:=(cS.1 ho).1;exact ⟨fun h=>h.elim hk (by omega),(h1.block k (by omega)).trans ho⟩
  have hfit:Fit (pre.length*(B+C+1)+1) (hv x pre):=ak7 hx pre 0 1 (Fit.zero (aY 1))
  have hbound:pre.length*(B+C+1)+1+B+C<=4294967296:=by
   rw [hL] at hlt;have:=Nat.mul_le_mul_right (B+C+1) (Nat.le_of_lt hlt);omega
  have hcall:Calls prog 178 #[.agg #[u0,u1,u2], .agg #[y.2.u0,y.2.u1,y.2.u2],xp] W fun e w'=>Below W.heap.size W w'/\∃ v0 v1 v2,e = .returned (.agg #[v0,v1,v2])/\bA (fun b=>M b\/b=n0\/b=n0+2) w' (qC (hv x (pre ++ [y]))) [v0,v1,v2]:=by
   refine ((XY (hv x pre) y.2.q x _ _ _ hfit y.2.fit hx hbound).2 (fun b=>M b\/b=n0\/b=n0+2) W [.agg #[u0,u1,u2], .agg #[y.2.u0,y.2.u1,y.2.u2],xp] ⟨hM1,hMg.eE hkeep⟩ ⟨⟨[u0,u1,u2],rfl,h6⟩,⟨[_,_,_],rfl,y.2.rep.mono hkeep⟩,aD.mono _ hkeep hxp,trivial⟩).mono ?_;rintro e w' ⟨hb',vs,rfl,hvs⟩;rw [au2];obtain ⟨v0,v1,v2,e1,hr⟩:=bH9 hvs;exact ⟨hb',v0,v1,v2,by rw [e1],hr⟩
  gi_wp2_with (refine ⟨trivial,?_⟩;gi_at_call 178;refine (CallsIn.inRound l (callsIn_wide.2 hcall)).mono ?_;rintro e w' ⟨hbw,v0,v1,v2,rfl,hvr⟩)
  have hone:=hvr.one;have hbox:w'.heap[n0]? = some (.cells #[u0,u1,u2] 46 (0,0)):=(hbw.block n0 (hltW h5)).trans h5;rw [Du hbox (hone _ (by simp)) (hone _ (by simp)) (hone _ (by simp))];obtain ⟨W3,hW3⟩:∃ W3,w'.setRow n0 #[v0,v1,v2]=W3:=⟨_,rfl⟩
  have hself:W3.heap[n0]? = some (.cells #[v0,v1,v2] 46 (0,0)):=by rw [<-hW3];exact setRow_heap _ _ _ _ _ _ hbox
  have hoth:∀ k,k≠n0->W3.heap[k]? = w'.heap[k]?:=fun k hk=>by rw [<-hW3,setRow_other _ _ _ _ hk]
  have hold:∀ {k:Nat} {o:Obj},k≠n0->W.heap[k]? = some o->W3.heap[k]? = some o:=fun hk ho=>(hoth _ hk).trans ((hbw.block _ (hltW ho)).trans ho);have hbel:Below n0 W W3:=by rw [<-hW3];exact below_setRow (hbw.mono (by omega)) (aY _) _
  rw [hW3]
  gi_wp2
  refine ⟨⟨hbel.size,fun k o hk ho _=>hold (by omega) ho⟩,⟨hbel,fun v hv=>?_⟩,h1.trans hbel,Nat.le_trans h2 hbel.size,hold (by omega) h3,hold (by omega) h4,v0,v1,v2,hself,hvr.mono fun k o hk ho _=>⟨hk,(hoth k fun e=>hk (.inr (.inl e))).trans ho⟩⟩;simp only [World.cell?,hoth (n0+3) (by omega),hbw.block (n0+3) (by omega)] at hv ⊢;exact hv
 case done=>
  rintro D ys W hD rfl ⟨h1,h2,h3,h4,u0,u1,u2,h5,h6⟩ hK;have c0:W.cell? ⟨n0,0,none⟩=some u0:=bK h5 rfl;have c1:W.cell? ⟨n0,1,none⟩=some u1:=bK h5 rfl;have c2:W.cell? ⟨n0,2,none⟩=some u2:=bK h5 rfl;have hone:=h6.one
  gi_wp2
  rw [Du h4 (hone _ (by simp)) (hone _ (by simp)) (hone _ (by simp))]
  gi_wp2
  obtain ⟨W3,hW3⟩:∃ W3,W.setRow (n0+2) #[u0,u1,u2]=W3:=⟨_,rfl⟩
  have hself:W3.heap[n0+2]? = some (.cells #[u0,u1,u2] 46 (0,0)):=by rw [<-hW3];exact setRow_heap _ _ _ _ _ _ h4
  have hoth:∀ k,k≠n0+2->W3.heap[k]? = W.heap[k]?:=fun k hk=>by rw [<-hW3,setRow_other _ _ _ _ hk]
  have hK3:W3.heap[D]? = some (.deferred (some [])):=(hoth D (by omega)).trans hK;have hbel:Below n0 W W3:=by rw [<-hW3];exact below_setRow (Below.refl _ W) (by omega) _
  rw [hW3];obtain ⟨W4,hW4⟩:∃ W4,W3.putObj D (.deferred none)=W4:=⟨_,rfl⟩
  have hoth4:∀ k,k≠D->W4.heap[k]? = W3.heap[k]?:=fun k hk=>by rw [<-hW4];exact World.putObj_heap_other (by omega)
  have hself4:W4.heap[n0+2]? = some (.cells #[u0,u1,u2] 46 (0,0)):=(hoth4 _ (by omega)).trans hself;have d0:W4.cell? ⟨n0+2,0,none⟩=some u0:=bK hself4 rfl;have d1:W4.cell? ⟨n0+2,1,none⟩=some u1:=bK hself4 rfl;have d2:W4.cell? ⟨n0+2,2,none⟩=some u2:=bK hself4 rfl;refine ⟨by simp, .inl ⟨_,_,rfl,run_takeDeferred hK3,?_⟩⟩;rw [hW4];refine ⟨.agg #[u0,u1,u2],?_,?_,u0,u1,u2,rfl,by rw [<-hL];exact h6.mono fun k o hk ho hc=>⟨fun h=>hk (.inl h),(hoth4 k (by rintro rfl;rw [hK] at ho;cases ho;cases hc)).trans ((hoth k (by rintro rfl;exact hk (.inr (.inr rfl)))).trans ho)⟩⟩
  .refine fA _ _ [_] ?_;simp [show f177.results = #[.cell 6 46] from rfl,gI,go_sem,d0,d1,d2]
  .rw [<-hn0] at h1 hbel;exact (h1.trans hbel).trans (by rw [<-hW4];exact belowK_b (w:=w) (aY _) W3 D _ _ (by omega) hK3 rfl rfl)
 case stop=>
  rintro D c pre W hD _ h hK;exact h.elim
theorem nG {α:Type} (P:Nat->α->Prop):∀ n,(∀ i,i<n->∃ x,P i x)->∃ ts:List α,ts.length=n/\∀ (i:Nat) x,ts[i]? = some x->P i x
 | 0,_=>⟨[],rfl,fun i x h=>by simp at h⟩
 | n+1,h=>by
   obtain ⟨ts,h1,h2⟩:=nG P n fun i hi=>h i (by omega);obtain ⟨x,hx⟩:=h n (by omega);refine ⟨ts ++ [x],by simp [h1],fun i y hy=>?_⟩;rcases Nat.lt_or_ge i n with hi | hi
   .rw [List.getElem?_append_left (by omega)] at hy;exact h2 i y hy
   .rw [List.getElem?_append_right (by omega)] at hy
    have hin:i-ts.length=0:=by
     have:=(dR.1 hy).1;simp at this;omega
    rw [hin] at hy;simp only [List.getElem?_cons_zero,aN] at hy;subst hy;obtain rfl:i=n:=by omega
    exact hx
theorem aZ1 {M:Nat->Prop} {w:World} {B:Nat} {v:Value} {ps:List Rat} (h:(sQ ps).rep M w v) (hp:∀ q∈ps,Fit B q) :
  ∃ (ts:List (QV M w B)) (a:Option Addr) (cap:Nat),v = .slice a ts.length cap/\ts.map QV.q=ps/\Sl3 QV.u0 QV.u1 QV.u2 w.heap.size w v ts:=by
 obtain ⟨a,cap,rfl,hc,hm,hel⟩:=h;have hlen:(rQ ps).length=ps.length:=aK _;rcases hel with h | ⟨b,off,cs,T,fz,rfl,hb,hh,hr⟩
 .have:ps = []:=by cases ps<;>simp_all [rQ]
  subst this;exact ⟨[],a,cap,rfl,rfl,a,cap,rfl, .inl rfl⟩
 .obtain ⟨ts,h1,h2⟩:=nG (fun i (x:QV M w B)=>ps[i]? = some x.q/\w.cell? ⟨b,off+i*3,none⟩=some x.u0/\w.cell? ⟨b,off+i*3+1,none⟩=some x.u1/\w.cell? ⟨b,off+i*3+2,none⟩=some x.u2) ps.length fun i hi=>by
   obtain ⟨q,hq⟩:∃ q,ps[i]? = some q:=⟨_,cC hi⟩
   obtain ⟨_,hrep⟩:=hr i (qC q) (by rw [rQ,dL,hq];rfl)
   have hat:∀ j,j<3->((cs.toList.drop (off+i*3)).take 3)[j]? = cs[off+i*3+j]?:=fun j hj=>by
    rw [List.getElem?_take,if_pos hj,List.getElem?_drop];simp
   have hl:=hrep.length;generalize hus:(cs.toList.drop (off+i*3)).take 3=us at hrep hl hat
   match us,hrep with
   | [x0,x1,x2],hrep=>
     refine ⟨⟨q,x0,x1,x2,hp q (gD hq),hrep⟩,hq,?_,?_,?_⟩
     .have h0:=hat 0 (by omega);rw [Nat.add_zero] at h0;exact bK hh (by rw [<-h0];rfl)
     .exact bK hh (by rw [<-hat 1 (by omega)];rfl)
     .exact bK hh (by rw [<-hat 2 (by omega)];rfl)
   | [],hrep=>exact hrep.elim
   | [_],hrep=>exact hrep.2.elim
   | [_,_],hrep=>exact hrep.2.2.elim
   | _::_::_::_::_,hrep=>exact hrep.2.2.2.elim
  refine ⟨ts,_,cap,by rw [hlen,h1],?_,_,cap,by rw [hlen,h1], .inr ⟨b,off,rfl,(cS.1 hh).1,fun j v hj=>(h2 j v hj).2⟩⟩;refine List.ext_getElem? fun i=>?_;rw [dL];cases hi:ts[i]? with
  | none=>
    have:=List.getElem?_eq_none_iff.1 hi;rw [List.getElem?_eq_none_iff.2 (by omega)];rfl
  | some x=>rw [(h2 i x hi).1];rfl
theorem ZS {α:Type} [Inhabited α] (vs:List α):(bk vs vs.length).map Prod.snd=vs.reverse:=by
 refine List.ext_getElem? fun i=>?_;rw [bk,List.map_map,dL];rcases Nat.lt_or_ge i vs.length with h | h
 .rw [List.getElem?_range h,List.getElem?_reverse h];have h':vs.length-1-i<vs.length:=by omega
  simp [cC h']
 .rw [List.getElem?_eq_none_iff.2 (by simpa using h),List.getElem?_eq_none_iff.2 (by simpa using h)];rfl
theorem bu4 {M:Nat->Prop} {w:World} {B:Nat} [Inhabited (QV M w B)] (x:Rat) (ts:List (QV M w B)):hv x (bk ts ts.length)=nK (ts.map QV.q) x:=by
 have h:hv x (bk ts ts.length)=((bk ts ts.length).map Prod.snd).foldl (fun v c=>v*x+c.q) 0:=by rw [hv,List.foldl_map]
 rw [h,ZS,List.foldl_reverse,nK,List.foldr_map]
theorem UR (ps:List Rat) (x:Rat) (B C:Nat) (hB:1<=B) (hp:∀ q∈ps,Fit B q) (hx:Fit C x) (hl:ps.length*(B+C+1)+B+C+1<=4294967296:=by omega) :
  aQ prog 177 [.one (sQ ps),qT 0, .one (.fP 178 [.bH (qC x)])] (.ret [qT (nK ps x)]):=by
 refine ⟨bJ (by kernel_rfl),fun M w vs hM hv=>?_⟩
 match vs,hv with
 | [v0,v1,v2],⟨k0,⟨us,k1,hus⟩,⟨fs,k2,hfs⟩,_⟩=>
   obtain ⟨ts,a,cap,rfl,hq,hsl⟩:=aZ1 k0 hp;obtain ⟨iq⟩:=au9 M w B hB
   haveI:Inhabited (QV M w B):=⟨iq⟩
   subst k1 k2
   match us,hus,fs,hfs with
   | [z0,z1,z2],hus,[xp],hfs=>
     have hlen:ps.length=ts.length:=by rw [<-hq,aK]
     rw [hlen] at hl;have h1:=Yy M w B C x hx hM hB a cap ts (by have:=Nat.le_mul_of_pos_right ts.length (show 0<B+C+1 by omega);omega) hl hsl z0 z1 z2 hus xp hfs.1;rw [bu4,hq] at h1;refine ((callsIn_wide (n:=1001)).1 h1).mono ?_;rintro e w' ⟨hb,u0,u1,u2,rfl,hr⟩;exact ⟨hb,[.agg #[u0,u1,u2]],rfl,⟨[u0,u1,u2],rfl,hr⟩,trivial⟩
   | [],hus,_,_=>exact hus.elim
   | [_],hus,_,_=>exact hus.2.elim
   | [_,_],hus,_,_=>exact hus.2.2.elim
   | _::_::_::_::_,hus,_,_=>exact hus.2.2.2.elim
   | [_,_,_],_,[],hfs=>exact hfs.elim
   | [_,_,_],_,_::_::_,hfs=>exact hfs.2.elim
 | [],hv=>exact hv.elim
 | [_],hv=>exact hv.2.elim
 | [_,_],hv=>exact hv.2.2.elim
 | _::_::_::_::_,hv=>exact hv.2.2.2.elim
def bz0:Tr:=aZ 177 [(W 0 0),(.agg [tN,(tE (.bool false)),tN]),(.one (.fP 178 [(.ref 0 [(.u 1 0),(.u 1 1),(.u 1 2)])]))] [(some 3)] [5,6,7] [98,46,164] 46 true (.ret [(G3 2)])
theorem ay3:aV prog f79 (fun _=>none) [.v none, .v (some 3)]=bz0:=by kernel_rfl
theorem tD (ps:List Rat) (c:Rat) (B:Nat) (hp:∀ q∈ps,Fit B q) (hc:Fit B c) (hB:1<=B:=by omega) (hl:ps.length*(2*B+2)+2*B+2<=4294967296:=by omega):aQ prog 79 [(.one (sQ ps):aJ),(qT c:aJ)] (.ret [qT (nK ps c)]):=by
 refine eH func79 ay3 ?_;have hl2:ps.length*(B+B+1)<=ps.length*(2*B+2):=Nat.mul_le_mul_left _ (by omega);refine ZE (show aX [.one (sQ ps), .agg [.exact (.slice none 0 0), .bool false, .exact (.slice none 0 0)], .one (.fP 178 [.bH (qC c)])] [.one (sQ ps),qT 0, .one (.fP 178 [.bH (qC c)])] from ⟨aJ.Sub.same,jV,aJ.Sub.same,trivial⟩) (UR ps c B B hB hp hc) rfl ?_;exact aL rfl
end Go.Sy
