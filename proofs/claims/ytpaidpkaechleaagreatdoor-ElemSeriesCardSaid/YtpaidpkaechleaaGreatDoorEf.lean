/- Part. -/
import Derived.Test.YtpaidpkaechleaaGreatDoorEe
set_option linter.all false
namespace Go.Sy
open Go Go.Proofs Go.RowKit Tryz Ord
attribute [local go_sem] Oper.semAt_some
section
variable {F:Fence} {nF:Nat}
theorem ap3 {ops:Array Oper} {rest:List Oper} {o:Oper} {a:Act} {Q:Exit→Act→World→Prop} {w:World} (hgd:o.guard=none) (s x:Operand)
  (ho:o.op = .call { callee:=.builtin .append,args:=#[s,x],argTypes:=#[52,52] }) (base:Nat) (v:Value) (k:Nat) (xs:List Value) (hs:a.eval s=v) (hown:w.ownsRow base 30 3 v k xs) (b c:Nat) (u0 u1 u2:Value) {fz:Nat×Nat}
  (hb:w.heap[b]? = some (.cells #[u0,u1,u2] 30 fz)) (hx:a.eval x = .slice (some ⟨b,0,none⟩) 1 c) (h1:∀ u ∈ [u0,u1,u2],u.oneCell'=true) (hk:k<1099511627776) (hbase:base≤w.heap.size)
  (h:∀ v' w',w'.ownsRow base 30 3 v' (k+1) (xs ++ [u0,u1,u2])→w.grownBy w' v.ownBlock→(v'.ownBlock=v.ownBlock∨v'.ownBlock=some w.heap.size)→wpListIn F nF prog ops Q rest (a.put o.dst v') w') :
  wpListIn F nF prog ops Q (o::rest) a w:=by
 obtain ⟨ie,hu,hie,hies,hieb⟩:=cL jW;obtain ⟨ie',zv,hi,hz,hzc,_,hzs⟩:=fL (show mK prog 30=some [.slice none 0 0, .bool false, .slice none 0 0] by kernel_rfl);rw [hie] at hi;simp only [aM] at hi;subst hi;refine wpListIn_append_own_at w hgd s x 52 ho base 30 ie zv 3 56 hu hie hz hies hieb (by rw [hzs,hies]) (by decide) v k xs hs hown ⟨b,0,none⟩ 1 c [u0,u1,u2] hx rfl ?_ h1 (by simp only [maxLen];omega) (by omega) hbase (fun v' w' h2 h3 _ h5=>h v' w' h2 h3 h5);intro j u hj
 match j,hj with
 | 0,hj=>simp at hj;subst hj;exact aB hb rfl
 | 1,hj=>simp at hj;subst hj;exact aB hb rfl
 | 2,hj=>simp at hj;subst hj;exact aB hb rfl
end
def PG (kind k:Nat):List Rat:=(List.range k).map (xP kind)
theorem TD (kind k:Nat):PG kind (k+1)=PG kind k ++ [xP kind k]:=by rw [PG,List.range_succ,List.map_append];rfl
theorem vG (kind k:Nat):(PG kind k).length=k:=by simp [PG]
abbrev qN (M:Nat→Prop) (n0:Nat) (vo:Value) (b:Nat):Prop:=M b∨vo.ownBlock=some b∨b=n0+1
structure vD (M:Nat→Prop) (w:World) (n0 D l:Nat) (lo:Obj) (kind n g k:Nat) (vo vp:Value) (W:World):Prop where
 wb:Below n0 w W
 big:n0+2≤D∧D<l∧l<W.heap.size
 hD:W.heap[D]? = some (.deferred (some []))
 hl:W.heap[l]? = some lo
 hN:W.heap[n0]? = some (.cells #[.int .i64 (n:Int)] 3 (0,0))
 hO:W.heap[n0+1]? = some (.cells #[vo] 52 (0,0))
 ro:∃ xs,W.ownsRow (n0+2) 30 3 vo k xs∧aP (Mg (qN M n0 vo) g) W (rQ (PG kind k)).flatten xs
 p:(aN.cJ [.int .u8 (kind:Int)]).rep (Mg (qN M n0 vo) g) W vp
 dis:vo.ownBlock≠some g
theorem vD.Og {M:Nat→Prop} {w:World} {n0 D l:Nat} {lo:Obj} {kind n g k:Nat} {vo vp:Value} {W:World} (I:vD M w n0 D l lo kind n g k vo vp W) (hlo:lo.isCells=false):∀ b,vo.ownBlock=some b→n0+2≤b∧b<W.heap.size∧b≠D∧b≠l:=fun b hb=>by
 obtain ⟨xs,hro,_⟩:=I.ro;have h:=hro.lt b hb;refine ⟨h.1,h.2,?_,?_⟩
 ·rintro rfl;rcases hro.2 with ⟨e,_⟩ | ⟨g',cap,cur,e,_,hh,_⟩
  ·rw [e] at hb;cases hb
  ·rw [e] at hb;simp only [Value.ownBlock,aM] at hb;subst hb;rw [I.hD] at hh;cases hh
 ·rintro rfl;rcases hro.2 with ⟨e,_⟩ | ⟨g',cap,cur,e,_,hh,_⟩
  ·rw [e] at hb;cases hb
  ·rw [e] at hb;simp only [Value.ownBlock,aM] at hb;subst hb;rw [I.hl] at hh;cases hh;cases hlo
theorem vD.grown {M:Nat→Prop} {w:World} {n0 D l:Nat} {lo:Obj} {kind n g k:Nat} {vo vp:Value} {W W':World} (I:vD M w n0 D l lo kind n g k vo vp W) (hlo:lo.isCells=false) (hg:l<g) (hb:W.grownBy W' (some g)):vD M w n0 D l lo kind n g k vo vp W':=by
 have h:∀ j,j<W.heap.size→j≠g→W'.heap[j]? = W.heap[j]?:=fun j hj hne=>hb.block j hj fun e=>hne (Option.some.inj e);obtain ⟨xs,hro,hrr⟩:=I.ro;have hbig:=I.big;have hk:=pA (M:=Mg (qN M n0 vo) g) (.inr rfl) hb;have hs:=hb.size;exact ⟨I.wb.trans ⟨hb.os,hb.tape,hb.output,hb.size,fun j hj=>h j (by omega) (by omega)⟩,⟨hbig.1,hbig.2.1,by omega⟩,(h _ (by omega) (by omega)).trans I.hD,(h _ (by omega) (by omega)).trans I.hl,(h _ (by omega) (by omega)).trans I.hN,(h _ (by omega) (by omega)).trans I.hO,⟨xs,iR hro fun b e=>h b (hro.lt b e).2 fun e'=>I.dis (e'▸e),hrr.mono hk⟩,aN.mono _ hk I.p,I.dis⟩
theorem vD.iU {M:Nat→Prop} {w:World} {n0 D l:Nat} {lo:Obj} {kind n g k:Nat} {vo vp:Value} {W:World} (I:vD M w n0 D l lo kind n g k vo vp W) (hw:w.heap.size=n0) (hM:Fine M w) (hg:l<g) (hgl:g<W.heap.size):¬ qN M n0 vo g∧Fine (Mg (qN M n0 vo) g) W:=by
 obtain ⟨xs,hro,_⟩:=I.ro;have hbig:=I.big;have hlow:∀ b,M b→b<n0:=fun b hb=>by have:=hM.1 b hb;omega
 refine ⟨?_,fun b hb=>?_,hM.2.cR fun b o hb ho _=>?_⟩
 ·rintro (h | h | h)
  ·have:=hlow g h;omega
  ·exact I.dis h
  ·omega
 ·rcases hb with (h | h | h) | h
  ·have:=hlow b h;omega
  ·exact (hro.lt b h).2
  ·omega
  ·omega
 ·have hlt:=(eF.1 ho).1;refine ⟨?_,(I.wb.block b (by omega)).trans ho⟩;rintro ((h | h | h) | h)
  ·exact hb h
  ·have:=(hro.lt b h).1;omega
  ·omega
  ·omega
noncomputable def dA:Code×Code:=match f15.body with
 | some (.seq _ (.seq _ (.seq _ (.seq (.seq _ (.block _ (.rangeFunc _ _ a b))) _))))=>(a,b)
 | _=>(.skip, .skip)
theorem vD.loop {M:Nat→Prop} {w:World} {n0 D l:Nat} {lo lo':Obj} {kind n g k:Nat} {vo vp:Value} {W:World} (I:vD M w n0 D l lo kind n g k vo vp W) (hlo:lo.isCells=false):vD M w n0 D l lo' kind n g k vo vp (W.putObj l lo'):=by
 have hp:∀ j,j≠l→(W.putObj l lo').heap[j]? = W.heap[j]?:=fun j hj=>World.putObj_heap_other hj;obtain ⟨xs,hro,hrr⟩:=I.ro;have hbig:=I.big;have hk:aY (Mg (qN M n0 vo) g) W (Mg (qN M n0 vo) g) (W.putObj l lo'):=fun b x hb hx hxc=>⟨hb,(hp b fun e=>by subst e;rw [I.hl] at hx;cases hx;rw [hlo] at hxc;cases hxc).trans hx⟩
 exact ⟨I.wb.trans ⟨rfl,rfl,rfl,by simp [World.putObj_size],fun j hj=>hp j (by omega)⟩,⟨hbig.1,hbig.2.1,by simp only [World.putObj_size];exact hbig.2.2⟩,(hp _ (by omega)).trans I.hD,World.putObj_heap_same hbig.2.2,(hp _ (by omega)).trans I.hN,(hp _ (by omega)).trans I.hO,⟨xs,iR hro fun b e=>hp b (I.Og hlo b e).2.2.2,hrr.mono hk⟩,aN.mono _ hk I.p,I.dis⟩
theorem vD.new {M:Nat→Prop} {w:World} {n0 D l:Nat} {lo:Obj} {kind n g k:Nat} {vo vp:Value} {W W':World} (I:vD M w n0 D l lo kind n g k vo vp W) (hb:Below W.heap.size W W'):vD M w n0 D l lo kind n g k vo vp W':=by
 obtain ⟨xs,hro,hrr⟩:=I.ro;have hbig:=I.big;have hs:=hb.size;have hk:aY (Mg (qN M n0 vo) g) W (Mg (qN M n0 vo) g) W':=aY.below hb;exact ⟨I.wb.trans (hb.mono (by omega)),⟨hbig.1,hbig.2.1,by omega⟩,(hb.block _ (by omega)).trans I.hD,(hb.block _ hbig.2.2).trans I.hl,(hb.block _ (by omega)).trans I.hN,(hb.block _ (by omega)).trans I.hO,⟨xs,iR hro fun b e=>hb.block b (hro.lt b e).2,hrr.mono hk⟩,aN.mono _ hk I.p,I.dis⟩
def aI5 (M:Nat→Prop) (w:World) (n0 D l fn:Nat) (tm:Array Value) (kind n g k:Nat) (vo vp:Value) (W:World) (b:Bool) (c:Option Code) (W':World):Prop:=W.heap.size≤W'.heap.size∧W'.heap[g]? = W.heap[g]? ∧ ((k<n∧b=true∧∃ vo',aY (Mg (qN M n0 vo) g) W (Mg (qN M n0 vo') g) W'∧vD M w n0 D l (.loop (eI fn tm #[25,26] dA.1 dA.2 D .ready none)) kind n g (k+1) vo' vp W') ∨
   (k=n∧b=false∧vD M w n0 D l (.loop (eI fn tm #[25,26] dA.1 dA.2 D .done (some (.exit 1)))) kind n g k vo vp W'))
set_option maxRecDepth 100000 in
set_option maxHeartbeats 1000000 in
theorem Qi (M:Nat→Prop) (w:World) (n0 D l fn:Nat) (tm:Array Value) (htm:tm.size=35) (t3:tm.getD 3 Go.undef = .pointer (some ⟨n0,0,none⟩)) (t6:tm.getD 6 Go.undef = .pointer (some ⟨n0+1,0,none⟩))
  (kind n g k:Nat) (hkn:k≤n) (hn:n≤43) (vo vp u0 u1 u2:Value) (W:World) (hgl:g<W.heap.size)
  (I:vD M w n0 D l (.loop (eI fn tm #[25,26] dA.1 dA.2 D .ready none)) kind n g k vo vp W)
  (hu:aP (Mg (qN M n0 vo) g) W (qC (xP kind k)) [u0,u1,u2]) (mm:Nat) (hlg:l<g:=by omega) :
  YieldAt Fence.wide mm prog l #[.int .i64 (k:Int), .agg #[u0,u1,u2]] W fun e W'=>W.heap.size≤W'.heap.size∧W'.heap[g]? = W.heap[g]? ∧
   ((k<n∧e = .returned (.bool true)∧∃ vo',aY (Mg (qN M n0 vo) g) W (Mg (qN M n0 vo') g) W'∧vD M w n0 D l (.loop (eI fn tm #[25,26] dA.1 dA.2 D .ready none)) kind n g (k+1) vo' vp W') ∨
    (k=n∧e = .returned (.bool false)∧vD M w n0 D l (.loop (eI fn tm #[25,26] dA.1 dA.2 D .done (some (.exit 1)))) kind n g k vo vp W')):=by
 have et:=Qu htm;rw [t3,t6] at et;generalize tm.getD 0 Go.undef=x0 at et;generalize tm.getD 1 Go.undef=x1 at et;generalize tm.getD 2 Go.undef=x2 at et;generalize tm.getD 4 Go.undef=x4 at et;generalize tm.getD 5 Go.undef=x5 at et;generalize tm.getD 7 Go.undef=x7 at et;generalize tm.getD 8 Go.undef=x8 at et;generalize tm.getD 9 Go.undef=x9 at et;generalize tm.getD 10 Go.undef=x10 at et;generalize tm.getD 11 Go.undef=x11 at et;generalize tm.getD 12 Go.undef=x12 at et;generalize tm.getD 13 Go.undef=x13 at et;generalize tm.getD 14 Go.undef=x14 at et;generalize tm.getD 15 Go.undef=x15 at et;generalize tm.getD 16 Go.undef=x16 at et;generalize tm.getD 17 Go.undef=x17 at et;generalize tm.getD 18 Go.undef=x18 at et;generalize tm.getD 19 Go.undef=x19 at et;generalize tm.getD 20 Go.undef=x20 at et;generalize tm.getD 21 Go.undef=x21 at et;generalize tm.getD 22 Go.undef=x22 at et;generalize tm.getD 23 Go.undef=x23 at et;generalize tm.getD 24 Go.undef=x24 at et;generalize tm.getD 25 Go.undef=x25 at et;generalize tm.getD 26 Go.undef=x26 at et;generalize tm.getD 27 Go.undef=x27 at et;generalize tm.getD 28 Go.undef=x28 at et;generalize tm.getD 29 Go.undef=x29 at et;generalize tm.getD 30 Go.undef=x30 at et;generalize tm.getD 31 Go.undef=x31 at et;generalize tm.getD 32 Go.undef=x32 at et;generalize tm.getD 33 Go.undef=x33 at et;generalize tm.getD 34 Go.undef=x34 at et;subst et;clear t3 t6 htm
 obtain ⟨fnr,tmr,asr,bdr,hy,hRd⟩:=Ap (F:=Fence.wide) (m:=mm) (P:=prog) (args:=#[.int .i64 (k:Int), .agg #[u0,u1,u2]]) (R:=aI5 M w n0 D l fn #[x0,x1,x2, .pointer (some ⟨n0,0,none⟩),x4,x5, .pointer (some ⟨n0+1,0,none⟩),x7,x8,x9,x10,x11,x12,x13,x14,x15,x16,x17,x18,x19,x20,x21,x22,x23,x24,x25,x26,x27,x28,x29,x30,x31,x32,x33,x34] kind n g k vo vp W) I.hl rfl trivial (by
  rw [show ∀ (t:Array Value),(#[25,26].zip #[Value.int .i64 (k:Int),Value.agg #[u0,u1,u2]]).foldl (fun t (p,v)=>t.setIfInBounds p v) t=(t.setIfInBounds 25 (.int .i64 (k:Int))).setIfInBounds 26 (.agg #[u0,u1,u2]) from fun t=>by simp];have hone:=hu.one;dsimp only [dA,f15]
  gi_wp2
  obtain ⟨W2,hW2,e2⟩:=iI (W:=W) (hone u0 (by simp)) (hone u1 (by simp)) (hone u2 (by simp));rw [e2];have hself:=qQ W u0 u1 u2;have hbel:=jX W u0 u1 u2;have hs2:=kZ W u0 u1 u2;rw [hW2] at hself hbel hs2;clear hW2 e2;have I2:=I.new hbel
  gi_wp2
  refine ⟨I2.hl,?_⟩;have hbig:=I2.big;generalize hW3:W2.putObj l _=W3;have I3:vD M w n0 D l (.loop (eI fn #[x0,x1,x2, .pointer (some ⟨n0,0,none⟩),x4,x5, .pointer (some ⟨n0+1,0,none⟩),x7,x8,x9,x10,x11,x12,x13,x14,x15,x16,x17,x18,x19,x20,x21,x22,x23,x24,x25,x26,x27,x28,x29,x30,x31,x32,x33,x34] #[25,26] dA.1 dA.2 D .busy none)) kind n g k vo vp W3:=by rw [←hW3];exact I2.loop rfl
  have hput:∀ j,j≠l→W3.heap[j]? = W2.heap[j]?:=fun j hj=>by rw [←hW3];exact World.putObj_heap_other hj
  have hs3:W3.heap.size=W2.heap.size:=by rw [←hW3];exact World.putObj_size
  have hk3:aY (Mg (qN M n0 vo) g) W2 (Mg (qN M n0 vo) g) W3:=fun b x hb hx hxc=>⟨hb,(hput b fun e=>by subst e;rw [I2.hl] at hx;cases hx;cases hxc).trans hx⟩
  have hx3:W3.heap[W.heap.size]? = some (.cells #[u0,u1,u2] 30 (0,0)):=(hput _ (by have:=I.big;omega)).trans hself;have hg3:W3.heap[g]? = W.heap[g]?:=(hput g (by omega)).trans (hbel.block g hgl);clear hW3;have hu3:=(hu.mono (aY.below hbel)).mono hk3;replace hs2:W.heap.size<W2.heap.size:=by omega
  replace hs3:W2.heap.size≤W3.heap.size:=by omega
  have cN:W3.cell? ⟨n0,0,none⟩=some (.int .i64 (n:Int)):=aB I3.hN rfl;have cO:W3.cell? ⟨n0+1,0,none⟩=some vo:=aB I3.hO rfl;have cx0:W3.cell? ⟨W.heap.size,0,none⟩=some u0:=aB hx3 rfl;have cx1:W3.cell? ⟨W.heap.size,1,none⟩=some u1:=aB hx3 rfl;have cx2:W3.cell? ⟨W.heap.size,2,none⟩=some u2:=aB hx3 rfl;have fO:W3.frozen? ⟨n0+1,0,none⟩=false:=AZ I3.hO 0;obtain ⟨xo,hro,hrr⟩:=I3.ro;have hvo1:vo.oneCell'=true:=by rcases hro.2 with ⟨e,_⟩ | ⟨g,cap,cur,e,_⟩<;>rw [e]<;>rfl
  by_cases hkn':k=n
  ·subst hkn';have hsx:W.heap.size≤(W3.putObj l (.loop (eI fn #[x0,x1,x2, .pointer (some ⟨n0,0,none⟩),x4,x5, .pointer (some ⟨n0+1,0,none⟩),x7,x8,x9,x10,x11,x12,x13,x14,x15,x16,x17,x18,x19,x20,x21,x22,x23,x24,x25,x26,x27,x28,x29,x30,x31,x32,x33,x34] #[25,26] dA.1 dA.2 D (.done) (some (.exit 1))))).heap.size:=by simp only [World.putObj_size];omega
   have hgx:(W3.putObj l (.loop (eI fn #[x0,x1,x2, .pointer (some ⟨n0,0,none⟩),x4,x5, .pointer (some ⟨n0+1,0,none⟩),x7,x8,x9,x10,x11,x12,x13,x14,x15,x16,x17,x18,x19,x20,x21,x22,x23,x24,x25,x26,x27,x28,x29,x30,x31,x32,x33,x34] #[25,26] dA.1 dA.2 D (.done) (some (.exit 1))))).heap[g]? = W.heap[g]?:=(World.putObj_heap_other (by omega)).trans hg3
   gi_wp2
   refine ⟨I3.hl,?_⟩;show _∧_∧_;exact ⟨hsx,hgx, .inr ⟨rfl,rfl,I3.loop rfl⟩⟩
  ·have hki:¬ (k:Int)=(n:Int):=by omega
   have hkk:k<1099511627776:=by omega
   have hbase:n0+2≤(W3.alloc (.cells #[u0,u1,u2] 30)).heap.size:=by rw [World.size_alloc];omega
   have hfacts:∀ (v':Value) (W4:World),(W3.alloc (.cells #[u0,u1,u2] 30)).grownBy W4 vo.ownBlock→W4.ownsRow (n0+2) 30 3 v' (k+1) (xo ++ [u0,u1,u2])→W4.heap[n0+1]? = some (.cells #[vo] 52 (0,0))∧∃ g cap,v' = .slice (some ⟨g,0,none⟩) (k+1) cap:=fun v' W4 hg hv=>by
    have hne:∀ j,j<n0+2→some j≠vo.ownBlock:=fun j hj e=>by have:=I3.Og rfl j e.symm;omega
    exact ⟨(hg.block _ (by rw [World.size_alloc];omega) (hne _ (by omega))).trans ((heap_alloc_old _ _ _ (by omega)).trans I3.hO),ownsRow_succ hv⟩
   gi_wp2_with (gi_at_builtin;refine ap3 rfl _ _ rfl (n0+2) vo k xo rfl (hro.alloc _) W3.heap.size 1 u0 u1 u2 (heap_alloc_new W3 _) rfl hone hkk hbase ?_;intro v' W4 hv4 hg4 hat4;obtain ⟨hO4,g4,cap4,rfl⟩:=hfacts v' W4 hg4 hv4;have cO4:W4.cell? ⟨n0+1,0,none⟩=some vo:=aB hO4 rfl;have fO4:W4.frozen? ⟨n0+1,0,none⟩=false:=AZ hO4 0)
   generalize hv4e:Value.slice (some ⟨g4,0,none⟩) (k+1) cap4=v4 at *;have hl4:∀ j,j<W3.heap.size→vo.ownBlock≠some j→W4.heap[j]? = W3.heap[j]?:=fun j hj hne=>(hg4.block j (by rw [World.size_alloc];omega) fun e=>hne e.symm).trans (heap_alloc_old _ _ _ hj);have hs4:W3.heap.size+1≤W4.heap.size:=by have:=hg4.size;rw [World.size_alloc] at this;exact this
   have hW5:=setCell_eq_setRow W4 (n0+1) 0 #[vo] 52 (0,0) v4 hO4;obtain ⟨W5,hW5'⟩:∃ W5,W4.setCell ⟨n0+1,0,none⟩ v4=W5:=⟨_,rfl⟩
   rw [hW5'] at hW5 ⊢;have hO5:W5.heap[n0+1]? = some (.cells #[v4] 52 (0,0)):=by rw [hW5];exact setRow_heap _ _ _ _ _ _ hO4
   have h5:∀ j,j≠n0+1→W5.heap[j]? = W4.heap[j]?:=fun j hj=>by rw [hW5];exact setRow_other _ _ _ _ hj
   have hs5:W5.heap.size=W4.heap.size:=by rw [hW5];simp [World.setRow]
   have ho5:W5.os=W4.os∧W5.tape=W4.tape∧W5.output=W4.output:=by rw [hW5];exact ⟨rfl,rfl,rfl⟩
   clear hW5 hW5';have hall:∀ j,j<W3.heap.size→j≠n0+1→vo.ownBlock≠some j→W5.heap[j]? = W3.heap[j]?:=fun j hj h1 h2=>(h5 j h1).trans (hl4 j hj h2);have hnb:=I3.Og rfl;have hb3:=I3.big;have hvD:vo.ownBlock≠some D:=fun e=>(hnb D e).2.2.1 rfl;have hvl:vo.ownBlock≠some l:=fun e=>(hnb l e).2.2.2 rfl
   have hkeep:aY (Mg (qN M n0 vo) g) W3 (Mg (qN M n0 v4) g) W5:=fun b o hb ho _=>by
    have hlt:=(eF.1 ho).1;refine ⟨?_,(hall b hlt (fun e=>hb (.inl (.inr (.inr e)))) (fun e=>hb (.inl (.inr (.inl e))))).trans ho⟩;rintro ((h | h | h) | h)
    ·exact hb (.inl (.inl h))
    ·rcases hat4 with e | e
     ·rw [e] at h;exact hb (.inl (.inr (.inl h)))
     ·rw [e] at h;simp only [World.size_alloc,aM] at h;omega
    ·exact hb (.inl (.inr (.inr h)))
    ·exact hb (.inr h)
   have hv4b:=hv4.lt;have hv4l:∀ b,v4.ownBlock=some b→b≠n0+1:=fun b hb=>by have:=(hv4b b hb).1;omega
   have hdis4:v4.ownBlock≠some g:=fun e=>by
    rcases hat4 with e2 | e2
    ·rw [e2] at e;exact I3.dis e
    ·rw [e2] at e;simp only [World.size_alloc,aM] at e;omega
   have I5:vD M w n0 D l (.loop (eI fn #[x0,x1,x2, .pointer (some ⟨n0,0,none⟩),x4,x5, .pointer (some ⟨n0+1,0,none⟩),x7,x8,x9,x10,x11,x12,x13,x14,x15,x16,x17,x18,x19,x20,x21,x22,x23,x24,x25,x26,x27,x28,x29,x30,x31,x32,x33,x34] #[25,26] dA.1 dA.2 D .busy none)) kind n g (k+1) v4 vp W5:=⟨I3.wb.trans ⟨by rw [ho5.1];exact hg4.os,by rw [ho5.2.1];exact hg4.tape,by rw [ho5.2.2];exact hg4.output,by omega,fun j hj=>hall j (by omega) (by omega) (fun e=>by have:=hnb j e;omega)⟩,⟨hb3.1,hb3.2.1,by omega⟩,(hall D (by omega) (by omega) hvD).trans I3.hD,(hall l (by omega) (by omega) hvl).trans I3.hl,(hall n0 (by omega) (by omega) (fun e=>by have:=hnb n0 e;omega)).trans I3.hN,hO5,
    ⟨xo ++ [u0,u1,u2],iR hv4 fun b hb=>h5 b (hv4l b hb),by
     rw [TD,rQ,List.map_append,List.flatten_append];have e:([xP kind k].map qC).flatten=qC (xP kind k):=by simp
     rw [e];exact (hrr.mono hkeep).append (hu3.mono hkeep)⟩,aN.mono _ hkeep I3.p,hdis4⟩
   refine ⟨I5.hl,?_⟩;show _∧_∧_;have I6:vD M w n0 D l (.loop (eI fn #[x0,x1,x2, .pointer (some ⟨n0,0,none⟩),x4,x5, .pointer (some ⟨n0+1,0,none⟩),x7,x8,x9,x10,x11,x12,x13,x14,x15,x16,x17,x18,x19,x20,x21,x22,x23,x24,x25,x26,x27,x28,x29,x30,x31,x32,x33,x34] #[25,26] dA.1 dA.2 D .ready none)) kind n g (k+1) v4 vp (W5.putObj l (.loop (eI fn #[x0,x1,x2, .pointer (some ⟨n0,0,none⟩),x4,x5, .pointer (some ⟨n0+1,0,none⟩),x7,x8,x9,x10,x11,x12,x13,x14,x15,x16,x17,x18,x19,x20,x21,x22,x23,x24,x25,x26,x27,x28,x29,x30,x31,x32,x33,x34] #[25,26] dA.1 dA.2 D .ready none))):=I5.loop rfl;have hk5:aY (Mg (qN M n0 v4) g) W5 (Mg (qN M n0 v4) g) (W5.putObj l (.loop (eI fn #[x0,x1,x2, .pointer (some ⟨n0,0,none⟩),x4,x5, .pointer (some ⟨n0+1,0,none⟩),x7,x8,x9,x10,x11,x12,x13,x14,x15,x16,x17,x18,x19,x20,x21,x22,x23,x24,x25,x26,x27,x28,x29,x30,x31,x32,x33,x34] #[25,26] dA.1 dA.2 D .ready none))):=fun b x hb hx hxc=>⟨hb,(World.putObj_heap_other (fun e=>by subst e;rw [I5.hl] at hx;cases hx;cases hxc)).trans hx⟩
   refine ⟨by rw [World.putObj_size];omega,(World.putObj_heap_other (by omega)).trans ((hall g (by omega) (by omega) I3.dis).trans hg3), .inl ⟨by omega,rfl,v4,(((aY.below hbel).trans hk3).trans hkeep).trans hk5,I6⟩⟩)
 refine ⟨fnr,tmr,asr,bdr,hy,hRd.mono ?_⟩;rintro e W' ⟨b,c,rfl,hr⟩;unfold aI5 at hr;obtain ⟨k1,k2,(⟨h1,rfl,h2⟩ | ⟨h1,rfl,h2⟩)⟩:=hr
 ·exact ⟨k1,k2, .inl ⟨h1,rfl,h2⟩⟩
 ·exact ⟨k1,k2, .inr ⟨h1,rfl,h2⟩⟩
end Go.Sy
namespace Go.Sy
open Go Go.Proofs Go.RowKit Tryz Ord
attribute [local go_sem] Oper.semAt_some
def aq6:Tr:=.ret [(.one (.fB 117 [(.ref 0 [(.u 0 0)])]))]
theorem uC:aK prog f65 (fun _=>none) [.v none]=aq6:=by kernel_rfl
def TS:Tr:=.ret [(.one (.c (.k (.slice none 0 0)))),(WK 2)]
def Sc:Tr:=.ret [(.one (.c (.k (.slice none 0 0)))),(WK 3)]
def OQ:Tr:=.fail 1005
def ae4:Tr:=.need (.prim [(W 0 0),(.one (.c (.k (.int .u8 6))))] none) (.binOp .gtr 5 (tT 13) (.const (.int .u8 6)) 5) 4 false (.split (.u 3 0) TS (aO .lss 3 17 0 1 0 4 (.split (.u 4 0) Sc (aO .gtr 3 20 200 1 0 4 (.split (.u 5 0) Sc (aC 65 [(W 0 0)] [none] [23] [5] 113 true OQ))))))
def an0:Tr:=.need (.prim [(W 0 0),(.one (.c (.k (.int .u8 1))))] none) (.binOp .lss 5 (tT 10) (.const (.int .u8 1)) 5) 4 false (.split (.u 2 0) TS ae4)
theorem Ik:aK prog f15 (fun _=>none) [.v none, .v none]=an0:=by kernel_rfl
theorem jB (kind:Nat):aL prog 65 [(.one (.int .u8 (kind:Int)):aI)] (.ret [.one (.fB 117 [.cJ [.int .u8 (kind:Int)]])]):=by
 refine bV func65 uC ?_;exact aJ rfl
theorem NN {f:FuncId} {args:List aI} {h:FuncId} {cs:List aN} (hd:aL prog f args (.ret [.one (.fB h [.cJ cs])])) {M:Nat→Prop} {w:World} {vs:List Value} (hM:Fine M w) (hv:bX M w args vs) :
  Calls prog f vs.toArray w fun e w'=>Below w.heap.size w w'∧∃ vp,e = .returned (.func (.func h) #[] #[vp])∧(aN.cJ cs).rep M w' vp:=by
 refine (hd.2 M w vs hM hv).mono ?_;rintro e w' ⟨hb,us,rfl,hus⟩
 match us,hus with
 | [],hus=>exact hus.elim
 | _::_::_,hus=>exact hus.2.elim
 | [it],hus=>
   obtain ⟨⟨cvs,rfl,hcv⟩,_⟩:=hus
   match cvs,hcv with
   | [],hcv=>exact hcv.elim
   | _::_::_,hcv=>exact hcv.2.elim
   | [vp],hcv=>exact ⟨hb,vp,rfl,hcv.1⟩
set_option maxRecDepth 100000 in
set_option maxHeartbeats 1000000 in
theorem sJ (kind n:Nat) (h1:1≤kind:=by omega) (h6:kind≤6:=by omega) (hn:n≤43:=by omega):aL prog 15 [.one (.int .u8 (kind:Int)), .one (.int .i64 (n:Int))] (.ret [.one (sQ (PG kind n)), .one (.int .i64 0)]):=by
 refine ⟨enters_of func15 (by kernel_rfl) rfl,fun M w vs hM hv=>?_⟩
 match vs,hv with
 | [],hv=>exact hv.elim
 | [_],hv=>exact hv.2.elim
 | _::_::_::_,hv=>exact hv.2.2.elim
 | [w0,w1],hv=>
 obtain ⟨⟨rfl,_⟩,⟨rfl,_⟩,_⟩:=hv;refine (callsIn_wide (n:=1001)).1 ?_;refine callsIn_of_wp_marks func15 rfl trivial ?_ rfl;simp only [ntmps15,List.size_toArray,List.length_cons,List.length_nil,Nat.reduceAdd,Nat.reduceSub,Array.replicate_succ,Array.replicate_zero,List.push_toArray,List.append_toArray,List.nil_append,List.cons_append];have k1:¬ ((kind:Int)<1):=by omega
 have k2:¬ ((6:Int)<(kind:Int)):=by omega
 have k3:¬ ((n:Int)<0):=by omega
 have k4:¬ ((200:Int)<(n:Int)):=by omega
 obtain ⟨n0,hn0⟩:∃ n0,w.heap.size=n0:=⟨_,rfl⟩
 have cn:(w.alloc (.cells #[.int .i64 (n:Int)] 3)).cell? ⟨n0,0,none⟩=some (.int .i64 (n:Int)):=by rw [←hn0];exact aB (heap_alloc_new w _) rfl
 gi_wp2
 obtain ⟨W0,hW0⟩:∃ W0,((w.alloc (.cells #[.int .i64 (n:Int)] 3)).alloc (.cells #[.slice none 0 0] 52))=W0:=⟨_,rfl⟩
 have hs0:W0.heap.size=n0+2:=by rw [←hW0];simp [hn0]
 have hb0:Below n0 w W0:=by
  rw [←hW0];exact ((Below.refl _ w).alloc (by omega) _).alloc (by simp;omega) _
 have hN0:W0.heap[n0]? = some (.cells #[.int .i64 (n:Int)] 3 (0,0)):=by rw [←hW0,heap_alloc_old _ _ _ (by simp;omega),←hn0];exact heap_alloc_new w _
 have hO0:W0.heap[n0+1]? = some (.cells #[.slice none 0 0] 52 (0,0)):=by
  rw [←hW0];have:=heap_alloc_new (w.alloc (.cells #[.int .i64 (n:Int)] 3)) (.cells #[.slice none 0 0] 52);rw [World.size_alloc,hn0] at this;exact this
 rw [hW0];clear hW0 cn;have hlow:∀ b,M b→b<n0:=fun b hb=>by have:=hM.1 b hb;omega
 have hk1:aY M w (qN M n0 (.slice none 0 0)) W0:=fun b o hb ho _=>by
  have hlt:=(eF.1 ho).1;exact ⟨fun h=>by (rcases h with h | h | h<;>first | exact hb h | omega | cases h),(hb0.block b (by omega)).trans ho⟩
 have hM0:Fine (qN M n0 (.slice none 0 0)) W0:=⟨fun b hb=>by (rcases hb with h | h | h<;>first | (have:=hlow b h;omega) | omega | cases h),hM.2.cR hk1⟩
 refine ⟨trivial,?_⟩;refine (callsIn_wide.2 (NN (jB kind) hM0 (vs:=[.int .u8 (kind:Int)]) ⟨⟨rfl,rfl⟩,trivial⟩)).mono ?_;rintro e W1 ⟨hb1,vp,rfl,hvp⟩;have hs1:=hb1.size;have hN1:=(hb1.block n0 (by omega)).trans hN0;have hO1:=(hb1.block (n0+1) (by omega)).trans hO0;dsimp only
 gi_wp2
 refine CE rfl (by omega) (gf:=117) (lb:=#[vp]) rfl trivial (enters_of func117 (by kernel_rfl) rfl) ?_;intro fn D l W2 hfn hD hl hsz2 hb2 hK2 hL2;subst hD hl;obtain ⟨tm,htm,t3,t6,hLr⟩:∃ tm:Array Value,tm.size=35∧tm.getD 3 Go.undef = .pointer (some ⟨n0,0,none⟩)∧tm.getD 6 Go.undef = .pointer (some ⟨n0+1,0,none⟩)∧W2.heap[(W1.heap.size+1)]? = some (.loop (eI fn tm #[25,26] dA.1 dA.2 W1.heap.size .ready none)):=⟨_,rfl,rfl,rfl,hL2⟩
 have htl:=congrArg Loop.tmps (Obj.loop.inj (Option.some.inj (hL2.symm.trans hLr)));dsimp only at htl;have hk2:aY (qN M n0 (.slice none 0 0)) W1 (qN M n0 (.slice none 0 0)) W2:=aY.below hb2;have hM2:Fine (qN M n0 (.slice none 0 0)) W2:=⟨fun b hb=>by have:=hM0.1 b hb;omega,(hM0.2.cR (aY.below hb1)).cR hk2⟩
 refine (LC (σ:=Value) (fun vo=>qN M n0 vo) (.slice none 0 0) kind n h1 h6 hn (W1.heap.size+1) vp ((W1.heap.size+1)+1) (fun g i vo W=>vD M w n0 W1.heap.size (W1.heap.size+1) (.loop (eI fn tm #[25,26] dA.1 dA.2 W1.heap.size .ready none)) kind n g i vo vp W) (fun W=>∃ g vo,(W1.heap.size+1)<g∧vD M w n0 W1.heap.size (W1.heap.size+1) (.loop (eI fn tm #[25,26] dA.1 dA.2 W1.heap.size .done (some (.exit 1)))) kind n g n vo vp W)
  (fun g i vo W W' hg I hb=>I.grown rfl (by omega) hb) (fun g i vo W hg hgl I=>⟨(I.iU hn0 hM (by omega) hgl).1,(I.iU hn0 hM (by omega) hgl).2,I.p⟩) ?hY W2 (by omega) hM2 ?h0).mono ?_
 case h0=>
  intro g W' hb hg hgl;have hs:=hb.size
  have hk3:aY (qN M n0 (.slice none 0 0)) W2 (Mg (qN M n0 (.slice none 0 0)) g) W':=fun b o hb' ho _=>by
   have hlt:=(eF.1 ho).1;exact ⟨fun h=>h.elim hb' (by omega),(hb.block b hlt).trans ho⟩
  exact ⟨hb0.trans ((hb1.mono (by omega)).trans ((hb2.mono (by omega)).trans (hb.mono (by omega)))),⟨by omega,by omega,by omega⟩,(hb.block _ (by omega)).trans hK2,(hb.block _ (by omega)).trans hLr,(hb.block _ (by omega)).trans ((hb2.block _ (by omega)).trans hN1),(hb.block _ (by omega)).trans ((hb2.block _ (by omega)).trans hO1),⟨[],World.ownsRow_nil _ _ _ _,trivial⟩,aN.mono _ hk3 (aN.mono _ hk2 hvp),by intro h;cases h⟩
 case hY=>
  intro g i vo W u0 u1 u2 hi hg hgl I hu;obtain ⟨fnr,tmr,asr,bdr,hy,hRd⟩:=Qi M w n0 W1.heap.size (W1.heap.size+1) fn tm htm t3 t6 kind n g i hi hn vo vp u0 u1 u2 W hgl I hu 999;refine ⟨fnr,tmr,asr,bdr,hy,hRd.mono ?_⟩;rintro e W' ⟨k1,k2,(⟨h1,rfl,vo',h2,h3⟩ | ⟨rfl,rfl,h2⟩)⟩
  ·exact ⟨k1,k2, .inl ⟨h1,rfl,vo',h2,h3⟩⟩
  ·exact ⟨k1,k2, .inr ⟨rfl,rfl,g,vo,by omega,h2⟩⟩
 ·rintro e W3 ⟨hv,g,vo,hlg,I⟩;have hl3:=I.hl;rw [←htl] at hl3;refine ⟨hv, .inr ⟨.exit 1,hl3,wpIn_exit ?_⟩⟩;generalize hW4:W3.putObj (W1.heap.size+1) _=W4;have I4:vD M w n0 W1.heap.size (W1.heap.size+1) (.loop (eI fn tm #[25,26] dA.1 dA.2 W1.heap.size .exhausted (some (.exit 1)))) kind n g n vo vp W4:=by rw [←hW4,←htl];exact I.loop rfl
  clear hW4;have cO:W4.cell? ⟨n0+1,0,none⟩=some vo:=aB I4.hO rfl;dsimp only
  gi_wp2
  have hbig:=I4.big;refine ⟨by simp, .inl ⟨_,_,rfl,run_takeDeferred I4.hD,?_⟩⟩;have hot8:∀ j,j≠W1.heap.size→(W4.putObj W1.heap.size (.deferred none)).heap[j]? = W4.heap[j]?:=fun j hj=>World.putObj_heap_other hj;have hs8:(W4.putObj W1.heap.size (.deferred none)).heap.size=W4.heap.size:=World.putObj_size;have ho8:(W4.putObj W1.heap.size (.deferred none)).os=W4.os∧(W4.putObj W1.heap.size (.deferred none)).tape=W4.tape∧(W4.putObj W1.heap.size (.deferred none)).output=W4.output:=⟨rfl,rfl,rfl⟩
  generalize W4.putObj W1.heap.size (.deferred none)=W8 at *;obtain ⟨xs,hro,hrr⟩:=I4.ro;have hnb:=I4.Og rfl;have hro8:W8.ownsRow (n0+2) 30 3 vo n xs:=iR hro fun b hb=>hot8 b (hnb b hb).2.2.1;have hrr8:aP (qN M n0 vo) W8 (rQ (PG kind n)).flatten xs:=hrr.mono fun b o hb ho hoc=>⟨fun h=>hb (.inl h),(hot8 b fun e=>by subst e;rw [I4.hD] at ho;cases ho;cases hoc).trans ho⟩
  have hrep:(sQ (PG kind n)).rep M W8 vo:=OW (by rw [bE,vG];exact hro8) (fun b hb hm=>by have:=hnb b hb;have:=hlow b hm;omega) (by intro u hu;obtain ⟨_,_,rfl⟩:=Ak.1 hu;rfl) (hrr8.mono fun b o hb ho _=>⟨fun h=>hb (.inl h),ho⟩);refine ⟨.tuple #[vo, .int .i64 0],?_,⟨ho8.1.trans I4.wb.os,ho8.2.1.trans I4.wb.tape,ho8.2.2.trans I4.wb.output,by have:=I4.wb.size;omega,fun j hj=>(hot8 j (by omega)).trans (I4.wb.block j (by omega))⟩,[vo, .int .i64 0],rfl,hrep,⟨rfl,rfl⟩,trivial⟩;simp [results,show f15.results = #[.tmp 4, .tmp 5] from rfl,go_sem]
theorem rA (kind n:Int) (h:kind<1∨6<kind):aL prog 15 [(.one (.int .u8 kind):aI),(.one (.int .i64 n):aI)] (.ret [.one (sQ []), .one (.int .i64 2)]):=by
 refine bV func15 Ik ?_;apply vn bA rfl;refine vs _ rfl ?_ ?_<;>intro h1
 ·exact fR ⟨aN.Sub.nil,aI.Sub.same,trivial⟩
 apply vn cB rfl;refine vs _ rfl ?_ ?_<;>intro h4
 ·exact fR ⟨aN.Sub.nil,aI.Sub.same,trivial⟩
 exfalso;omega
theorem qZ (kind n:Int) (h:n<0∨200<n) (h1:1≤kind:=by omega) (h6:kind≤6:=by omega):aL prog 15 [(.one (.int .u8 kind):aI),(.one (.int .i64 n):aI)] (.ret [.one (sQ []), .one (.int .i64 3)]):=by
 refine bV func15 Ik ?_;apply vn bA rfl;refine vs _ rfl ?_ ?_<;>intro h1
 ·exfalso;omega
 apply vn cB rfl;refine vs _ rfl ?_ ?_<;>intro h4
 ·exfalso;omega
 apply vn bA rfl;refine vs _ rfl ?_ ?_<;>intro h7
 ·exact fR ⟨aN.Sub.nil,aI.Sub.same,trivial⟩
 apply vn cB rfl;dsimp only [aG,aH];refine vs _ rfl ?_ ?_<;>intro h10
 ·exact fR ⟨aN.Sub.nil,aI.Sub.same,trivial⟩
 exfalso;omega
end Go.Sy
namespace Go.Sy
open Go Go.Proofs Tryz Ord
theorem UB {α:Type} {c:List α} (h:c.length=1):∃ a0,c = [a0]:=by
 match c,h with
 | [a0],_=>exact ⟨a0,rfl⟩
theorem nJ {a b:Rat}:fK a b≥0↔b≤a:=by
 unfold fK;by_cases h1:a<b
 ·rw [if_pos h1];exact ⟨fun h=>by omega,fun h=>by grind⟩
 ·rw [if_neg h1];by_cases h2:b<a
  ·rw [if_pos h2];exact ⟨fun _=>by grind,fun _=>by omega⟩
  ·rw [if_neg h2];exact ⟨fun _=>by grind,fun _=>by omega⟩
def rP (kind m:Nat) (r:Rat):Rat:=if kind=1 then bL r (((m:Int)+1:Int):Rat) else if kind=3∨kind=4 then r*r*bL ((1:Int):Rat) ((((m:Int)+1)*((m:Int)+2):Int):Rat) else r
def Hw (kind m:Nat) (r:Rat):Rat:=bL ((xP kind m).abs*r^m) (((1:Int):Rat)-rP kind m r)
def Gp:Tr:=.retr [] 5
def Fo:Tr:=.retr [] 5
def Br:Tr:=.fail 0
def Da:Tr:=.fail 1033
def AN:Tr:=.need (.strow 5 3 (.k (.int .i64 (0))) 0 [(.u 21 0),(.u 21 1),(.u 21 2)]) (.store 30 (.tmp 10) (.tmp 78)) 0 false Da
def xD:Tr:=.need (.call 66 [(.agg [(U 18 0),(U 18 1),(U 18 2)]),(.agg [(U 20 0),(U 20 1),(U 20 2)])] [(some 3)]) (.call ⟨.value (.func 66),#[(.tmp 74),(.tmp 77)],#[30,30]⟩) 30 true AN
def yT:Tr:=.need (.call 72 [(.agg [(U 19 0),(U 19 1),(U 19 2)]),(.agg [(U 12 0),(U 12 1),(U 12 2)])] [(some 3)]) (.call ⟨.value (.func 72),#[(.tmp 75),(.tmp 76)],#[30,30]⟩) 30 true xD
def yQ:Tr:=.need (.call 69 [] [(some 3)]) (.call ⟨.value (.func 69),#[],#[]⟩) 30 false yT
def Cl:Tr:=.need (.call 32 [(.agg [(U 16 0),(U 16 1),(U 16 2)]),(.agg [(U 17 0),(U 17 1),(U 17 2)])] [(some 3)]) (.call ⟨.value (.func 32),#[(.tmp 70),(.tmp 73)],#[30,30]⟩) 30 false yQ
def Bu:Tr:=.need (.call 71 [(.agg [(U 2 0),(U 2 1),(U 2 2)]),(W 3 0)] [(some 3)]) (.call ⟨.value (.func 71),#[(.tmp 71),(.tmp 72)],#[30,3]⟩) 30 false Cl
def Bz:Tr:=.need (.call 70 [(.agg [(U 4 0),(U 4 1),(U 4 2)])] [(some 3)]) (.call ⟨.value (.func 70),#[(.tmp 69)],#[30]⟩) 30 false Bu
def vX:Tr:=.split (.u 15 0) Br Bz
def Ea:Tr:=.need (.prim [(W 14 0),(WK (0))] none) (.binOp .geq 3 (.tmp 67) (.const (I3 (0))) 3) 4 false vX
def wT:Tr:=.need (.call 68 [(.agg [(U 12 0),(U 12 1),(U 12 2)]),(.agg [(U 13 0),(U 13 1),(U 13 2)])] [none]) (.call ⟨.value (.func 68),#[(.tmp 65),(.tmp 66)],#[30,30]⟩) 3 true Ea
def wY:Tr:=.need (.call 69 [] [(some 3)]) (.call ⟨.value (.func 69),#[],#[]⟩) 30 false wT
def AU:Tr:=.need (.call 66 [(.agg [(U 2 0),(U 2 1),(U 2 2)]),(.agg [(U 11 0),(U 11 1),(U 11 2)])] [(some 3)]) (.call ⟨.value (.func 66),#[(.tmp 47),(.tmp 50)],#[30,30]⟩) 30 true wY
def Be:Tr:=.need (.call 22 [(W 10 0)] [(some 3)]) (.call ⟨.value (.func 22),#[(.tmp 49)],#[2]⟩) 30 true AU
def Gg:Tr:=.need (.prim [(W 3 0),(WK (1))] none) (.binOp .add 2 (.tmp 48) (.const (I3 (1))) 2) 2 false Be
def Cy:Tr:=.fail 0
def BG:Tr:=.fail 1033
def Bc:Tr:=.need (.strow 5 3 (.k (.int .i64 (0))) 0 [(.u 25 0),(.u 25 1),(.u 25 2)]) (.store 30 (.tmp 10) (.tmp 78)) 0 false BG
def yX:Tr:=.need (.call 66 [(.agg [(U 22 0),(U 22 1),(U 22 2)]),(.agg [(U 24 0),(U 24 1),(U 24 2)])] [(some 3)]) (.call ⟨.value (.func 66),#[(.tmp 74),(.tmp 77)],#[30,30]⟩) 30 true Bc
def BS:Tr:=.need (.call 72 [(.agg [(U 23 0),(U 23 1),(U 23 2)]),(.agg [(U 16 0),(U 16 1),(U 16 2)])] [(some 3)]) (.call ⟨.value (.func 72),#[(.tmp 75),(.tmp 76)],#[30,30]⟩) 30 true yX
def Ar:Tr:=.need (.call 69 [] [(some 3)]) (.call ⟨.value (.func 69),#[],#[]⟩) 30 false BS
def BO:Tr:=.need (.call 32 [(.agg [(U 20 0),(U 20 1),(U 20 2)]),(.agg [(U 21 0),(U 21 1),(U 21 2)])] [(some 3)]) (.call ⟨.value (.func 32),#[(.tmp 70),(.tmp 73)],#[30,30]⟩) 30 false Ar
def Aw:Tr:=.need (.call 71 [(.agg [(U 2 0),(U 2 1),(U 2 2)]),(W 3 0)] [(some 3)]) (.call ⟨.value (.func 71),#[(.tmp 71),(.tmp 72)],#[30,3]⟩) 30 false BO
def yE:Tr:=.need (.call 70 [(.agg [(U 4 0),(U 4 1),(U 4 2)])] [(some 3)]) (.call ⟨.value (.func 70),#[(.tmp 69)],#[30]⟩) 30 false Aw
def BU:Tr:=.split (.u 19 0) Cy yE
def xO:Tr:=.need (.prim [(W 18 0),(WK (0))] none) (.binOp .geq 3 (.tmp 67) (.const (I3 (0))) 3) 4 false BU
def xA:Tr:=.need (.call 68 [(.agg [(U 16 0),(U 16 1),(U 16 2)]),(.agg [(U 17 0),(U 17 1),(U 17 2)])] [none]) (.call ⟨.value (.func 68),#[(.tmp 65),(.tmp 66)],#[30,30]⟩) 3 true xO
def xY:Tr:=.need (.call 69 [] [(some 3)]) (.call ⟨.value (.func 69),#[],#[]⟩) 30 false xA
def wO:Tr:=.need (.call 32 [(.agg [(U 11 0),(U 11 1),(U 11 2)]),(.agg [(U 15 0),(U 15 1),(U 15 2)])] [(some 3)]) (.call ⟨.value (.func 32),#[(.tmp 57),(.tmp 63)],#[30,30]⟩) 30 true xY
def Ca:Tr:=.need (.call 67 [(WK (1)),(W 14 0)] [(some 3)]) (.call ⟨.value (.func 67),#[(.const (I3 (1))),(.tmp 62)],#[2,2]⟩) 30 true wO
def Bg:Tr:=.need (.prim [(W 12 0),(W 13 0)] none) (.binOp .mul 2 (.tmp 59) (.tmp 61) 2) 2 false Ca
def EK:Tr:=.need (.prim [(W 3 0),(WK (2))] none) (.binOp .add 2 (.tmp 60) (.const (I3 (2))) 2) 2 false Bg
def wP:Tr:=.need (.prim [(W 3 0),(WK (1))] none) (.binOp .add 2 (.tmp 58) (.const (I3 (1))) 2) 2 false EK
def Cq:Tr:=.need (.call 32 [(.agg [(U 2 0),(U 2 1),(U 2 2)]),(.agg [(U 2 0),(U 2 1),(U 2 2)])] [(some 3)]) (.call ⟨.value (.func 32),#[(.tmp 55),(.tmp 56)],#[30,30]⟩) 30 false wP
def yY:Tr:=.fail 0
def EW:Tr:=.fail 1033
def xZ:Tr:=.need (.strow 5 3 (.k (.int .i64 (0))) 0 [(.u 26 0),(.u 26 1),(.u 26 2)]) (.store 30 (.tmp 10) (.tmp 78)) 0 false EW
def wE:Tr:=.need (.call 66 [(.agg [(U 23 0),(U 23 1),(U 23 2)]),(.agg [(U 25 0),(U 25 1),(U 25 2)])] [(some 3)]) (.call ⟨.value (.func 66),#[(.tmp 74),(.tmp 77)],#[30,30]⟩) 30 true xZ
def Dl:Tr:=.need (.call 72 [(.agg [(U 24 0),(U 24 1),(U 24 2)]),(.agg [(U 17 0),(U 17 1),(U 17 2)])] [(some 3)]) (.call ⟨.value (.func 72),#[(.tmp 75),(.tmp 76)],#[30,30]⟩) 30 true wE
def wD:Tr:=.need (.call 69 [] [(some 3)]) (.call ⟨.value (.func 69),#[],#[]⟩) 30 false Dl
def yR:Tr:=.need (.call 32 [(.agg [(U 21 0),(U 21 1),(U 21 2)]),(.agg [(U 22 0),(U 22 1),(U 22 2)])] [(some 3)]) (.call ⟨.value (.func 32),#[(.tmp 70),(.tmp 73)],#[30,30]⟩) 30 false wD
def vR:Tr:=.need (.call 71 [(.agg [(U 2 0),(U 2 1),(U 2 2)]),(W 3 0)] [(some 3)]) (.call ⟨.value (.func 71),#[(.tmp 71),(.tmp 72)],#[30,3]⟩) 30 false yR
def El:Tr:=.need (.call 70 [(.agg [(U 4 0),(U 4 1),(U 4 2)])] [(some 3)]) (.call ⟨.value (.func 70),#[(.tmp 69)],#[30]⟩) 30 false vR
def Bt:Tr:=.split (.u 20 0) yY El
def CD:Tr:=.need (.prim [(W 19 0),(WK (0))] none) (.binOp .geq 3 (.tmp 67) (.const (I3 (0))) 3) 4 false Bt
def DP:Tr:=.need (.call 68 [(.agg [(U 17 0),(U 17 1),(U 17 2)]),(.agg [(U 18 0),(U 18 1),(U 18 2)])] [none]) (.call ⟨.value (.func 68),#[(.tmp 65),(.tmp 66)],#[30,30]⟩) 3 true CD
def xL:Tr:=.need (.call 69 [] [(some 3)]) (.call ⟨.value (.func 69),#[],#[]⟩) 30 false DP
def Ao:Tr:=.need (.call 32 [(.agg [(U 12 0),(U 12 1),(U 12 2)]),(.agg [(U 16 0),(U 16 1),(U 16 2)])] [(some 3)]) (.call ⟨.value (.func 32),#[(.tmp 57),(.tmp 63)],#[30,30]⟩) 30 true xL
def Ac:Tr:=.need (.call 67 [(WK (1)),(W 15 0)] [(some 3)]) (.call ⟨.value (.func 67),#[(.const (I3 (1))),(.tmp 62)],#[2,2]⟩) 30 true Ao
def Af:Tr:=.need (.prim [(W 13 0),(W 14 0)] none) (.binOp .mul 2 (.tmp 59) (.tmp 61) 2) 2 false Ac
def Di:Tr:=.need (.prim [(W 3 0),(WK (2))] none) (.binOp .add 2 (.tmp 60) (.const (I3 (2))) 2) 2 false Af
def CQ:Tr:=.need (.prim [(W 3 0),(WK (1))] none) (.binOp .add 2 (.tmp 58) (.const (I3 (1))) 2) 2 false Di
def DG:Tr:=.need (.call 32 [(.agg [(U 2 0),(U 2 1),(U 2 2)]),(.agg [(U 2 0),(U 2 1),(U 2 2)])] [(some 3)]) (.call ⟨.value (.func 32),#[(.tmp 55),(.tmp 56)],#[30,30]⟩) 30 false CQ
def yS:Tr:=.fail 0
def yV:Tr:=.fail 1033
def Aq:Tr:=.need (.strow 5 3 (.k (.int .i64 (0))) 0 [(.u 20 0),(.u 20 1),(.u 20 2)]) (.store 30 (.tmp 10) (.tmp 78)) 0 false yV
def CU:Tr:=.need (.call 66 [(.agg [(U 17 0),(U 17 1),(U 17 2)]),(.agg [(U 19 0),(U 19 1),(U 19 2)])] [(some 3)]) (.call ⟨.value (.func 66),#[(.tmp 74),(.tmp 77)],#[30,30]⟩) 30 true Aq
def wV:Tr:=.need (.call 72 [(.agg [(U 18 0),(U 18 1),(U 18 2)]),(.agg [(U 2 0),(U 2 1),(U 2 2)])] [(some 3)]) (.call ⟨.value (.func 72),#[(.tmp 75),(.tmp 76)],#[30,30]⟩) 30 true CU
def vW:Tr:=.need (.call 69 [] [(some 3)]) (.call ⟨.value (.func 69),#[],#[]⟩) 30 false wV
def Ec:Tr:=.need (.call 32 [(.agg [(U 15 0),(U 15 1),(U 15 2)]),(.agg [(U 16 0),(U 16 1),(U 16 2)])] [(some 3)]) (.call ⟨.value (.func 32),#[(.tmp 70),(.tmp 73)],#[30,30]⟩) 30 false vW
def Bn:Tr:=.need (.call 71 [(.agg [(U 2 0),(U 2 1),(U 2 2)]),(W 3 0)] [(some 3)]) (.call ⟨.value (.func 71),#[(.tmp 71),(.tmp 72)],#[30,3]⟩) 30 false Ec
def yH:Tr:=.need (.call 70 [(.agg [(U 4 0),(U 4 1),(U 4 2)])] [(some 3)]) (.call ⟨.value (.func 70),#[(.tmp 69)],#[30]⟩) 30 false Bn
def DX:Tr:=.split (.u 14 0) yS yH
def Cd:Tr:=.need (.prim [(W 13 0),(WK (0))] none) (.binOp .geq 3 (.tmp 67) (.const (I3 (0))) 3) 4 false DX
def yU:Tr:=.need (.call 68 [(.agg [(U 2 0),(U 2 1),(U 2 2)]),(.agg [(U 12 0),(U 12 1),(U 12 2)])] [none]) (.call ⟨.value (.func 68),#[(.tmp 65),(.tmp 66)],#[30,30]⟩) 3 true Cd
def Et:Tr:=.need (.call 69 [] [(some 3)]) (.call ⟨.value (.func 69),#[],#[]⟩) 30 false yU
def Bp:Tr:=.split (.u 11 0) DG Et
def Dx:Tr:=.need (.prim [(W 0 0),(.one (.c (.k (.int .u8 (4)))))] none) (.binOp .eql 5 (.tmp 44) (.const (.int .u8 (4))) 5) 4 false Bp
def Am:Tr:=.split (.u 10 0) Cq Dx
def EM:Tr:=.need (.prim [(W 0 0),(.one (.c (.k (.int .u8 (3)))))] none) (.binOp .eql 5 (.tmp 44) (.const (.int .u8 (3))) 5) 4 false Am
def GG:Tr:=.split (.u 9 0) Gg EM
def Fx:Tr:=.need (.prim [(W 0 0),(.one (.c (.k (.int .u8 (1)))))] none) (.binOp .eql 5 (.tmp 44) (.const (.int .u8 (1))) 5) 4 false GG
def GY:Tr:=.split (.u 8 0) Fo Fx
def FD:Tr:=.need (.prim [(W 7 0),(WK (0))] none) (.binOp .eql 3 (.tmp 39) (.const (I3 (0))) 3) 4 false GY
def Hf:Tr:=.need (.call 17 [(.agg [(U 4 0),(U 4 1),(U 4 2)])] [none]) (.call ⟨.value (.func 17),#[(.tmp 38)],#[30]⟩) 3 false FD
def Hq:Tr:=.split (.u 6 0) Gp Hf
def FG:Tr:=.need (.prim [(W 3 0),(W 1 0)] none) (.binOp .lss 3 (.tmp 34) (.tmp 35) 3) 4 false Hq
theorem Mu:cK prog 81 (fun _=>none) (bC [1,1,1,1,1,0,1,0,1] (bJ f16)) [(3, .ref 1),(4, .ref 1),(5, .ref 3),(12, .v none),(13, .ref 3)] 10 30 3 0 ([].map ResultVar.tmp)=FG:=by kernel_rfl
def Gw:Tr:=.fail 1034
def Hg:Tr:=.fail 1034
def Cf:Tr:=.fail 0
def Dj:Tr:=.retr [] 22
def zQ:Tr:=.need (.strow 5 3 (.k (.int .i64 (0))) 0 [(.u 21 0),(.u 21 1),(.u 21 2)]) (.store 30 (.tmp 10) (.tmp 78)) 0 false Dj
def zG:Tr:=.need (.call 66 [(.agg [(U 18 0),(U 18 1),(U 18 2)]),(.agg [(U 20 0),(U 20 1),(U 20 2)])] [(some 3)]) (.call ⟨.value (.func 66),#[(.tmp 74),(.tmp 77)],#[30,30]⟩) 30 true zQ
def DQ:Tr:=.need (.call 72 [(.agg [(U 19 0),(U 19 1),(U 19 2)]),(.agg [(U 12 0),(U 12 1),(U 12 2)])] [(some 3)]) (.call ⟨.value (.func 72),#[(.tmp 75),(.tmp 76)],#[30,30]⟩) 30 true zG
def EV:Tr:=.need (.call 69 [] [(some 3)]) (.call ⟨.value (.func 69),#[],#[]⟩) 30 false DQ
def CW:Tr:=.need (.call 32 [(.agg [(U 16 0),(U 16 1),(U 16 2)]),(.agg [(U 17 0),(U 17 1),(U 17 2)])] [(some 3)]) (.call ⟨.value (.func 32),#[(.tmp 70),(.tmp 73)],#[30,30]⟩) 30 false EV
def xN:Tr:=.need (.call 71 [(.agg [(U 2 0),(U 2 1),(U 2 2)]),(W 3 0)] [(some 3)]) (.call ⟨.value (.func 71),#[(.tmp 71),(.tmp 72)],#[30,3]⟩) 30 false CW
def AW:Tr:=.need (.call 70 [(.agg [(U 4 0),(U 4 1),(U 4 2)])] [(some 3)]) (.call ⟨.value (.func 70),#[(.tmp 69)],#[30]⟩) 30 false xN
def vQ:Tr:=.split (.u 15 0) Cf AW
def Aj:Tr:=.need (.prim [(W 14 0),(WK (0))] none) (.binOp .geq 3 (.tmp 67) (.const (I3 (0))) 3) 4 false vQ
def zU:Tr:=.need (.call 68 [(.agg [(U 12 0),(U 12 1),(U 12 2)]),(.agg [(U 13 0),(U 13 1),(U 13 2)])] [none]) (.call ⟨.value (.func 68),#[(.tmp 65),(.tmp 66)],#[30,30]⟩) 3 true Aj
def Av:Tr:=.need (.call 69 [] [(some 3)]) (.call ⟨.value (.func 69),#[],#[]⟩) 30 false zU
def BK:Tr:=.need (.call 66 [(.agg [(U 2 0),(U 2 1),(U 2 2)]),(.agg [(U 11 0),(U 11 1),(U 11 2)])] [(some 3)]) (.call ⟨.value (.func 66),#[(.tmp 47),(.tmp 50)],#[30,30]⟩) 30 true Av
def EH:Tr:=.need (.call 22 [(W 10 0)] [(some 3)]) (.call ⟨.value (.func 22),#[(.tmp 49)],#[2]⟩) 30 true BK
def He:Tr:=.need (.prim [(W 3 0),(WK (1))] none) (.binOp .add 2 (.tmp 48) (.const (I3 (1))) 2) 2 false EH
def Cv:Tr:=.fail 0
def ED:Tr:=.retr [] 26
def vY:Tr:=.need (.strow 5 3 (.k (.int .i64 (0))) 0 [(.u 25 0),(.u 25 1),(.u 25 2)]) (.store 30 (.tmp 10) (.tmp 78)) 0 false ED
def BN:Tr:=.need (.call 66 [(.agg [(U 22 0),(U 22 1),(U 22 2)]),(.agg [(U 24 0),(U 24 1),(U 24 2)])] [(some 3)]) (.call ⟨.value (.func 66),#[(.tmp 74),(.tmp 77)],#[30,30]⟩) 30 true vY
def xJ:Tr:=.need (.call 72 [(.agg [(U 23 0),(U 23 1),(U 23 2)]),(.agg [(U 16 0),(U 16 1),(U 16 2)])] [(some 3)]) (.call ⟨.value (.func 72),#[(.tmp 75),(.tmp 76)],#[30,30]⟩) 30 true BN
def Ah:Tr:=.need (.call 69 [] [(some 3)]) (.call ⟨.value (.func 69),#[],#[]⟩) 30 false xJ
def Dt:Tr:=.need (.call 32 [(.agg [(U 20 0),(U 20 1),(U 20 2)]),(.agg [(U 21 0),(U 21 1),(U 21 2)])] [(some 3)]) (.call ⟨.value (.func 32),#[(.tmp 70),(.tmp 73)],#[30,30]⟩) 30 false Ah
def Dk:Tr:=.need (.call 71 [(.agg [(U 2 0),(U 2 1),(U 2 2)]),(W 3 0)] [(some 3)]) (.call ⟨.value (.func 71),#[(.tmp 71),(.tmp 72)],#[30,3]⟩) 30 false Dt
def Dy:Tr:=.need (.call 70 [(.agg [(U 4 0),(U 4 1),(U 4 2)])] [(some 3)]) (.call ⟨.value (.func 70),#[(.tmp 69)],#[30]⟩) 30 false Dk
def EF:Tr:=.split (.u 19 0) Cv Dy
def wF:Tr:=.need (.prim [(W 18 0),(WK (0))] none) (.binOp .geq 3 (.tmp 67) (.const (I3 (0))) 3) 4 false EF
def CM:Tr:=.need (.call 68 [(.agg [(U 16 0),(U 16 1),(U 16 2)]),(.agg [(U 17 0),(U 17 1),(U 17 2)])] [none]) (.call ⟨.value (.func 68),#[(.tmp 65),(.tmp 66)],#[30,30]⟩) 3 true wF
def vV:Tr:=.need (.call 69 [] [(some 3)]) (.call ⟨.value (.func 69),#[],#[]⟩) 30 false CM
def AY:Tr:=.need (.call 32 [(.agg [(U 11 0),(U 11 1),(U 11 2)]),(.agg [(U 15 0),(U 15 1),(U 15 2)])] [(some 3)]) (.call ⟨.value (.func 32),#[(.tmp 57),(.tmp 63)],#[30,30]⟩) 30 true vV
def xH:Tr:=.need (.call 67 [(WK (1)),(W 14 0)] [(some 3)]) (.call ⟨.value (.func 67),#[(.const (I3 (1))),(.tmp 62)],#[2,2]⟩) 30 true AY
def zE:Tr:=.need (.prim [(W 12 0),(W 13 0)] none) (.binOp .mul 2 (.tmp 59) (.tmp 61) 2) 2 false xH
def EY:Tr:=.need (.prim [(W 3 0),(WK (2))] none) (.binOp .add 2 (.tmp 60) (.const (I3 (2))) 2) 2 false zE
def EC:Tr:=.need (.prim [(W 3 0),(WK (1))] none) (.binOp .add 2 (.tmp 58) (.const (I3 (1))) 2) 2 false EY
def Eh:Tr:=.need (.call 32 [(.agg [(U 2 0),(U 2 1),(U 2 2)]),(.agg [(U 2 0),(U 2 1),(U 2 2)])] [(some 3)]) (.call ⟨.value (.func 32),#[(.tmp 55),(.tmp 56)],#[30,30]⟩) 30 false EC
def CZ:Tr:=.fail 0
def yP:Tr:=.retr [] 27
def ET:Tr:=.need (.strow 5 3 (.k (.int .i64 (0))) 0 [(.u 26 0),(.u 26 1),(.u 26 2)]) (.store 30 (.tmp 10) (.tmp 78)) 0 false yP
def yW:Tr:=.need (.call 66 [(.agg [(U 23 0),(U 23 1),(U 23 2)]),(.agg [(U 25 0),(U 25 1),(U 25 2)])] [(some 3)]) (.call ⟨.value (.func 66),#[(.tmp 74),(.tmp 77)],#[30,30]⟩) 30 true ET
def wG:Tr:=.need (.call 72 [(.agg [(U 24 0),(U 24 1),(U 24 2)]),(.agg [(U 17 0),(U 17 1),(U 17 2)])] [(some 3)]) (.call ⟨.value (.func 72),#[(.tmp 75),(.tmp 76)],#[30,30]⟩) 30 true yW
def CY:Tr:=.need (.call 69 [] [(some 3)]) (.call ⟨.value (.func 69),#[],#[]⟩) 30 false wG
def BJ:Tr:=.need (.call 32 [(.agg [(U 21 0),(U 21 1),(U 21 2)]),(.agg [(U 22 0),(U 22 1),(U 22 2)])] [(some 3)]) (.call ⟨.value (.func 32),#[(.tmp 70),(.tmp 73)],#[30,30]⟩) 30 false CY
def Cp:Tr:=.need (.call 71 [(.agg [(U 2 0),(U 2 1),(U 2 2)]),(W 3 0)] [(some 3)]) (.call ⟨.value (.func 71),#[(.tmp 71),(.tmp 72)],#[30,3]⟩) 30 false BJ
def DF:Tr:=.need (.call 70 [(.agg [(U 4 0),(U 4 1),(U 4 2)])] [(some 3)]) (.call ⟨.value (.func 70),#[(.tmp 69)],#[30]⟩) 30 false Cp
def AX:Tr:=.split (.u 20 0) CZ DF
def DJ:Tr:=.need (.prim [(W 19 0),(WK (0))] none) (.binOp .geq 3 (.tmp 67) (.const (I3 (0))) 3) 4 false AX
def Dn:Tr:=.need (.call 68 [(.agg [(U 17 0),(U 17 1),(U 17 2)]),(.agg [(U 18 0),(U 18 1),(U 18 2)])] [none]) (.call ⟨.value (.func 68),#[(.tmp 65),(.tmp 66)],#[30,30]⟩) 3 true DJ
def BI:Tr:=.need (.call 69 [] [(some 3)]) (.call ⟨.value (.func 69),#[],#[]⟩) 30 false Dn
def BX:Tr:=.need (.call 32 [(.agg [(U 12 0),(U 12 1),(U 12 2)]),(.agg [(U 16 0),(U 16 1),(U 16 2)])] [(some 3)]) (.call ⟨.value (.func 32),#[(.tmp 57),(.tmp 63)],#[30,30]⟩) 30 true BI
def Ej:Tr:=.need (.call 67 [(WK (1)),(W 15 0)] [(some 3)]) (.call ⟨.value (.func 67),#[(.const (I3 (1))),(.tmp 62)],#[2,2]⟩) 30 true BX
def EN:Tr:=.need (.prim [(W 13 0),(W 14 0)] none) (.binOp .mul 2 (.tmp 59) (.tmp 61) 2) 2 false Ej
def xW:Tr:=.need (.prim [(W 3 0),(WK (2))] none) (.binOp .add 2 (.tmp 60) (.const (I3 (2))) 2) 2 false EN
def yK:Tr:=.need (.prim [(W 3 0),(WK (1))] none) (.binOp .add 2 (.tmp 58) (.const (I3 (1))) 2) 2 false xW
def zX:Tr:=.need (.call 32 [(.agg [(U 2 0),(U 2 1),(U 2 2)]),(.agg [(U 2 0),(U 2 1),(U 2 2)])] [(some 3)]) (.call ⟨.value (.func 32),#[(.tmp 55),(.tmp 56)],#[30,30]⟩) 30 false yK
def Ct:Tr:=.fail 0
def BF:Tr:=.retr [] 21
def xM:Tr:=.need (.strow 5 3 (.k (.int .i64 (0))) 0 [(.u 20 0),(.u 20 1),(.u 20 2)]) (.store 30 (.tmp 10) (.tmp 78)) 0 false BF
def yC:Tr:=.need (.call 66 [(.agg [(U 17 0),(U 17 1),(U 17 2)]),(.agg [(U 19 0),(U 19 1),(U 19 2)])] [(some 3)]) (.call ⟨.value (.func 66),#[(.tmp 74),(.tmp 77)],#[30,30]⟩) 30 true xM
def CA:Tr:=.need (.call 72 [(.agg [(U 18 0),(U 18 1),(U 18 2)]),(.agg [(U 2 0),(U 2 1),(U 2 2)])] [(some 3)]) (.call ⟨.value (.func 72),#[(.tmp 75),(.tmp 76)],#[30,30]⟩) 30 true yC
def yG:Tr:=.need (.call 69 [] [(some 3)]) (.call ⟨.value (.func 69),#[],#[]⟩) 30 false CA
def CG:Tr:=.need (.call 32 [(.agg [(U 15 0),(U 15 1),(U 15 2)]),(.agg [(U 16 0),(U 16 1),(U 16 2)])] [(some 3)]) (.call ⟨.value (.func 32),#[(.tmp 70),(.tmp 73)],#[30,30]⟩) 30 false yG
def Cz:Tr:=.need (.call 71 [(.agg [(U 2 0),(U 2 1),(U 2 2)]),(W 3 0)] [(some 3)]) (.call ⟨.value (.func 71),#[(.tmp 71),(.tmp 72)],#[30,3]⟩) 30 false CG
def DR:Tr:=.need (.call 70 [(.agg [(U 4 0),(U 4 1),(U 4 2)])] [(some 3)]) (.call ⟨.value (.func 70),#[(.tmp 69)],#[30]⟩) 30 false Cz
def EL:Tr:=.split (.u 14 0) Ct DR
def zF:Tr:=.need (.prim [(W 13 0),(WK (0))] none) (.binOp .geq 3 (.tmp 67) (.const (I3 (0))) 3) 4 false EL
def CF:Tr:=.need (.call 68 [(.agg [(U 2 0),(U 2 1),(U 2 2)]),(.agg [(U 12 0),(U 12 1),(U 12 2)])] [none]) (.call ⟨.value (.func 68),#[(.tmp 65),(.tmp 66)],#[30,30]⟩) 3 true zF
def De:Tr:=.need (.call 69 [] [(some 3)]) (.call ⟨.value (.func 69),#[],#[]⟩) 30 false CF
def ER:Tr:=.split (.u 11 0) zX De
def yL:Tr:=.need (.prim [(W 0 0),(.one (.c (.k (.int .u8 (4)))))] none) (.binOp .eql 5 (.tmp 44) (.const (.int .u8 (4))) 5) 4 false ER
def vM:Tr:=.split (.u 10 0) Eh yL
def wH:Tr:=.need (.prim [(W 0 0),(.one (.c (.k (.int .u8 (3)))))] none) (.binOp .eql 5 (.tmp 44) (.const (.int .u8 (3))) 5) 4 false vM
def Hr:Tr:=.split (.u 9 0) He wH
def GL:Tr:=.need (.prim [(W 0 0),(.one (.c (.k (.int .u8 (1)))))] none) (.binOp .eql 5 (.tmp 44) (.const (.int .u8 (1))) 5) 4 false Hr
def Gj:Tr:=.split (.u 8 0) Hg GL
def Fh:Tr:=.need (.prim [(W 7 0),(WK (0))] none) (.binOp .eql 3 (.tmp 39) (.const (I3 (0))) 3) 4 false Gj
def Gu:Tr:=.need (.call 17 [(.agg [(U 4 0),(U 4 1),(U 4 2)])] [none]) (.call ⟨.value (.func 17),#[(.tmp 38)],#[30]⟩) 3 false Fh
def Fv:Tr:=.split (.u 6 0) Gw Gu
def Gz:Tr:=.need (.prim [(W 3 0),(W 1 0)] none) (.binOp .lss 3 (.tmp 34) (.tmp 35) 3) 4 false Fv
theorem Lm:cK prog 81 (fun _=>none) (bC [1,1,1,1,1,0,1,0,1] (bJ f16)) [(3, .ref 1),(4, .ref 1),(5, .ref 3),(12, .v none),(13, .ref 3)] 10 30 3 1 ([].map ResultVar.tmp)=Gz:=by kernel_rfl
def Gi:Tr:=.retr [] 5
def Ga:Tr:=.retr [] 5
def vT:Tr:=.fail 1033
def BL:Tr:=.need (.strow 5 1 (.k (.int .i64 (0))) 0 [(.k (.int .i64 (11)))]) (.store 40 (.tmp 11) (.const (I3 (11)))) 0 false vT
def zI:Tr:=.fail 10
def Dc:Tr:=.need (.call 66 [(.agg [(U 18 0),(U 18 1),(U 18 2)]),(.agg [(U 20 0),(U 20 1),(U 20 2)])] [(some 3)]) (.call ⟨.value (.func 66),#[(.tmp 74),(.tmp 77)],#[30,30]⟩) 30 true zI
def vU:Tr:=.need (.call 72 [(.agg [(U 19 0),(U 19 1),(U 19 2)]),(.agg [(U 12 0),(U 12 1),(U 12 2)])] [(some 3)]) (.call ⟨.value (.func 72),#[(.tmp 75),(.tmp 76)],#[30,30]⟩) 30 true Dc
def EU:Tr:=.need (.call 69 [] [(some 3)]) (.call ⟨.value (.func 69),#[],#[]⟩) 30 false vU
def BC:Tr:=.need (.call 32 [(.agg [(U 16 0),(U 16 1),(U 16 2)]),(.agg [(U 17 0),(U 17 1),(U 17 2)])] [(some 3)]) (.call ⟨.value (.func 32),#[(.tmp 70),(.tmp 73)],#[30,30]⟩) 30 false EU
def Ds:Tr:=.need (.call 71 [(.agg [(U 2 0),(U 2 1),(U 2 2)]),(W 3 0)] [(some 3)]) (.call ⟨.value (.func 71),#[(.tmp 71),(.tmp 72)],#[30,3]⟩) 30 false BC
def Bk:Tr:=.need (.call 70 [(.agg [(U 4 0),(U 4 1),(U 4 2)])] [(some 3)]) (.call ⟨.value (.func 70),#[(.tmp 69)],#[30]⟩) 30 false Ds
def CK:Tr:=.split (.u 15 0) BL Bk
def En:Tr:=.need (.prim [(W 14 0),(WK (0))] none) (.binOp .geq 3 (.tmp 67) (.const (I3 (0))) 3) 4 false CK
def Ab:Tr:=.need (.call 68 [(.agg [(U 12 0),(U 12 1),(U 12 2)]),(.agg [(U 13 0),(U 13 1),(U 13 2)])] [none]) (.call ⟨.value (.func 68),#[(.tmp 65),(.tmp 66)],#[30,30]⟩) 3 true En
def Dr:Tr:=.need (.call 69 [] [(some 3)]) (.call ⟨.value (.func 69),#[],#[]⟩) 30 false Ab
def CV:Tr:=.need (.call 66 [(.agg [(U 2 0),(U 2 1),(U 2 2)]),(.agg [(U 11 0),(U 11 1),(U 11 2)])] [(some 3)]) (.call ⟨.value (.func 66),#[(.tmp 47),(.tmp 50)],#[30,30]⟩) 30 true Dr
def AD:Tr:=.need (.call 22 [(W 10 0)] [(some 3)]) (.call ⟨.value (.func 22),#[(.tmp 49)],#[2]⟩) 30 true CV
def FJ:Tr:=.need (.prim [(W 3 0),(WK (1))] none) (.binOp .add 2 (.tmp 48) (.const (I3 (1))) 2) 2 false AD
def Ay:Tr:=.fail 1033
def Dv:Tr:=.need (.strow 5 1 (.k (.int .i64 (0))) 0 [(.k (.int .i64 (11)))]) (.store 40 (.tmp 11) (.const (I3 (11)))) 0 false Ay
def EE:Tr:=.fail 10
def DC:Tr:=.need (.call 66 [(.agg [(U 22 0),(U 22 1),(U 22 2)]),(.agg [(U 24 0),(U 24 1),(U 24 2)])] [(some 3)]) (.call ⟨.value (.func 66),#[(.tmp 74),(.tmp 77)],#[30,30]⟩) 30 true EE
def EP:Tr:=.need (.call 72 [(.agg [(U 23 0),(U 23 1),(U 23 2)]),(.agg [(U 16 0),(U 16 1),(U 16 2)])] [(some 3)]) (.call ⟨.value (.func 72),#[(.tmp 75),(.tmp 76)],#[30,30]⟩) 30 true DC
def Cc:Tr:=.need (.call 69 [] [(some 3)]) (.call ⟨.value (.func 69),#[],#[]⟩) 30 false EP
def Ee:Tr:=.need (.call 32 [(.agg [(U 20 0),(U 20 1),(U 20 2)]),(.agg [(U 21 0),(U 21 1),(U 21 2)])] [(some 3)]) (.call ⟨.value (.func 32),#[(.tmp 70),(.tmp 73)],#[30,30]⟩) 30 false Cc
def BA:Tr:=.need (.call 71 [(.agg [(U 2 0),(U 2 1),(U 2 2)]),(W 3 0)] [(some 3)]) (.call ⟨.value (.func 71),#[(.tmp 71),(.tmp 72)],#[30,3]⟩) 30 false Ee
def DA:Tr:=.need (.call 70 [(.agg [(U 4 0),(U 4 1),(U 4 2)])] [(some 3)]) (.call ⟨.value (.func 70),#[(.tmp 69)],#[30]⟩) 30 false BA
def wS:Tr:=.split (.u 19 0) Dv DA
def DW:Tr:=.need (.prim [(W 18 0),(WK (0))] none) (.binOp .geq 3 (.tmp 67) (.const (I3 (0))) 3) 4 false wS
def DU:Tr:=.need (.call 68 [(.agg [(U 16 0),(U 16 1),(U 16 2)]),(.agg [(U 17 0),(U 17 1),(U 17 2)])] [none]) (.call ⟨.value (.func 68),#[(.tmp 65),(.tmp 66)],#[30,30]⟩) 3 true DW
def Cn:Tr:=.need (.call 69 [] [(some 3)]) (.call ⟨.value (.func 69),#[],#[]⟩) 30 false DU
def Ba:Tr:=.need (.call 32 [(.agg [(U 11 0),(U 11 1),(U 11 2)]),(.agg [(U 15 0),(U 15 1),(U 15 2)])] [(some 3)]) (.call ⟨.value (.func 32),#[(.tmp 57),(.tmp 63)],#[30,30]⟩) 30 true Cn
def Ei:Tr:=.need (.call 67 [(WK (1)),(W 14 0)] [(some 3)]) (.call ⟨.value (.func 67),#[(.const (I3 (1))),(.tmp 62)],#[2,2]⟩) 30 true Ba
def DT:Tr:=.need (.prim [(W 12 0),(W 13 0)] none) (.binOp .mul 2 (.tmp 59) (.tmp 61) 2) 2 false Ei
def AO:Tr:=.need (.prim [(W 3 0),(WK (2))] none) (.binOp .add 2 (.tmp 60) (.const (I3 (2))) 2) 2 false DT
def zP:Tr:=.need (.prim [(W 3 0),(WK (1))] none) (.binOp .add 2 (.tmp 58) (.const (I3 (1))) 2) 2 false AO
def xC:Tr:=.need (.call 32 [(.agg [(U 2 0),(U 2 1),(U 2 2)]),(.agg [(U 2 0),(U 2 1),(U 2 2)])] [(some 3)]) (.call ⟨.value (.func 32),#[(.tmp 55),(.tmp 56)],#[30,30]⟩) 30 false zP
def Ax:Tr:=.fail 1033
def wW:Tr:=.need (.strow 5 1 (.k (.int .i64 (0))) 0 [(.k (.int .i64 (11)))]) (.store 40 (.tmp 11) (.const (I3 (11)))) 0 false Ax
def zD:Tr:=.fail 10
def DD:Tr:=.need (.call 66 [(.agg [(U 23 0),(U 23 1),(U 23 2)]),(.agg [(U 25 0),(U 25 1),(U 25 2)])] [(some 3)]) (.call ⟨.value (.func 66),#[(.tmp 74),(.tmp 77)],#[30,30]⟩) 30 true zD
def Fb:Tr:=.need (.call 72 [(.agg [(U 24 0),(U 24 1),(U 24 2)]),(.agg [(U 17 0),(U 17 1),(U 17 2)])] [(some 3)]) (.call ⟨.value (.func 72),#[(.tmp 75),(.tmp 76)],#[30,30]⟩) 30 true DD
def CP:Tr:=.need (.call 69 [] [(some 3)]) (.call ⟨.value (.func 69),#[],#[]⟩) 30 false Fb
def zA:Tr:=.need (.call 32 [(.agg [(U 21 0),(U 21 1),(U 21 2)]),(.agg [(U 22 0),(U 22 1),(U 22 2)])] [(some 3)]) (.call ⟨.value (.func 32),#[(.tmp 70),(.tmp 73)],#[30,30]⟩) 30 false CP
def Dw:Tr:=.need (.call 71 [(.agg [(U 2 0),(U 2 1),(U 2 2)]),(W 3 0)] [(some 3)]) (.call ⟨.value (.func 71),#[(.tmp 71),(.tmp 72)],#[30,3]⟩) 30 false zA
def xI:Tr:=.need (.call 70 [(.agg [(U 4 0),(U 4 1),(U 4 2)])] [(some 3)]) (.call ⟨.value (.func 70),#[(.tmp 69)],#[30]⟩) 30 false Dw
def xR:Tr:=.split (.u 20 0) wW xI
def Bv:Tr:=.need (.prim [(W 19 0),(WK (0))] none) (.binOp .geq 3 (.tmp 67) (.const (I3 (0))) 3) 4 false xR
def xU:Tr:=.need (.call 68 [(.agg [(U 17 0),(U 17 1),(U 17 2)]),(.agg [(U 18 0),(U 18 1),(U 18 2)])] [none]) (.call ⟨.value (.func 68),#[(.tmp 65),(.tmp 66)],#[30,30]⟩) 3 true Bv
def Dh:Tr:=.need (.call 69 [] [(some 3)]) (.call ⟨.value (.func 69),#[],#[]⟩) 30 false xU
def vJ:Tr:=.need (.call 32 [(.agg [(U 12 0),(U 12 1),(U 12 2)]),(.agg [(U 16 0),(U 16 1),(U 16 2)])] [(some 3)]) (.call ⟨.value (.func 32),#[(.tmp 57),(.tmp 63)],#[30,30]⟩) 30 true Dh
def BZ:Tr:=.need (.call 67 [(WK (1)),(W 15 0)] [(some 3)]) (.call ⟨.value (.func 67),#[(.const (I3 (1))),(.tmp 62)],#[2,2]⟩) 30 true vJ
def Ep:Tr:=.need (.prim [(W 13 0),(W 14 0)] none) (.binOp .mul 2 (.tmp 59) (.tmp 61) 2) 2 false BZ
def BM:Tr:=.need (.prim [(W 3 0),(WK (2))] none) (.binOp .add 2 (.tmp 60) (.const (I3 (2))) 2) 2 false Ep
def yI:Tr:=.need (.prim [(W 3 0),(WK (1))] none) (.binOp .add 2 (.tmp 58) (.const (I3 (1))) 2) 2 false BM
def BE:Tr:=.need (.call 32 [(.agg [(U 2 0),(U 2 1),(U 2 2)]),(.agg [(U 2 0),(U 2 1),(U 2 2)])] [(some 3)]) (.call ⟨.value (.func 32),#[(.tmp 55),(.tmp 56)],#[30,30]⟩) 30 false yI
def Ev:Tr:=.fail 1033
def zK:Tr:=.need (.strow 5 1 (.k (.int .i64 (0))) 0 [(.k (.int .i64 (11)))]) (.store 40 (.tmp 11) (.const (I3 (11)))) 0 false Ev
def Du:Tr:=.fail 10
def EB:Tr:=.need (.call 66 [(.agg [(U 17 0),(U 17 1),(U 17 2)]),(.agg [(U 19 0),(U 19 1),(U 19 2)])] [(some 3)]) (.call ⟨.value (.func 66),#[(.tmp 74),(.tmp 77)],#[30,30]⟩) 30 true Du
def DE:Tr:=.need (.call 72 [(.agg [(U 18 0),(U 18 1),(U 18 2)]),(.agg [(U 2 0),(U 2 1),(U 2 2)])] [(some 3)]) (.call ⟨.value (.func 72),#[(.tmp 75),(.tmp 76)],#[30,30]⟩) 30 true EB
def wX:Tr:=.need (.call 69 [] [(some 3)]) (.call ⟨.value (.func 69),#[],#[]⟩) 30 false DE
def vO:Tr:=.need (.call 32 [(.agg [(U 15 0),(U 15 1),(U 15 2)]),(.agg [(U 16 0),(U 16 1),(U 16 2)])] [(some 3)]) (.call ⟨.value (.func 32),#[(.tmp 70),(.tmp 73)],#[30,30]⟩) 30 false wX
def DL:Tr:=.need (.call 71 [(.agg [(U 2 0),(U 2 1),(U 2 2)]),(W 3 0)] [(some 3)]) (.call ⟨.value (.func 71),#[(.tmp 71),(.tmp 72)],#[30,3]⟩) 30 false vO
def wC:Tr:=.need (.call 70 [(.agg [(U 4 0),(U 4 1),(U 4 2)])] [(some 3)]) (.call ⟨.value (.func 70),#[(.tmp 69)],#[30]⟩) 30 false DL
def CT:Tr:=.split (.u 14 0) zK wC
def AF:Tr:=.need (.prim [(W 13 0),(WK (0))] none) (.binOp .geq 3 (.tmp 67) (.const (I3 (0))) 3) 4 false CT
def wL:Tr:=.need (.call 68 [(.agg [(U 2 0),(U 2 1),(U 2 2)]),(.agg [(U 12 0),(U 12 1),(U 12 2)])] [none]) (.call ⟨.value (.func 68),#[(.tmp 65),(.tmp 66)],#[30,30]⟩) 3 true AF
def xF:Tr:=.need (.call 69 [] [(some 3)]) (.call ⟨.value (.func 69),#[],#[]⟩) 30 false wL
def yJ:Tr:=.split (.u 11 0) BE xF
def xB:Tr:=.need (.prim [(W 0 0),(.one (.c (.k (.int .u8 (4)))))] none) (.binOp .eql 5 (.tmp 44) (.const (.int .u8 (4))) 5) 4 false yJ
def yD:Tr:=.split (.u 10 0) xC xB
def AR:Tr:=.need (.prim [(W 0 0),(.one (.c (.k (.int .u8 (3)))))] none) (.binOp .eql 5 (.tmp 44) (.const (.int .u8 (3))) 5) 4 false yD
def Gq:Tr:=.split (.u 9 0) FJ AR
def Hn:Tr:=.need (.prim [(W 0 0),(.one (.c (.k (.int .u8 (1)))))] none) (.binOp .eql 5 (.tmp 44) (.const (.int .u8 (1))) 5) 4 false Gq
def Gv:Tr:=.split (.u 8 0) Ga Hn
def Gm:Tr:=.need (.prim [(W 7 0),(WK (0))] none) (.binOp .eql 3 (.tmp 39) (.const (I3 (0))) 3) 4 false Gv
def FB:Tr:=.need (.call 17 [(.agg [(U 4 0),(U 4 1),(U 4 2)])] [none]) (.call ⟨.value (.func 17),#[(.tmp 38)],#[30]⟩) 3 false Gm
def Fq:Tr:=.split (.u 6 0) Gi FB
def FQ:Tr:=.need (.prim [(W 3 0),(W 1 0)] none) (.binOp .lss 3 (.tmp 34) (.tmp 35) 3) 4 false Fq
theorem MI:cK prog 81 (fun _=>none) (bC [1,1,1,1,1,0,1,0,1] (bJ f16)) [(3, .ref 1),(4, .ref 1),(5, .ref 3),(12, .v none),(13, .ref 3)] 11 40 1 0 ([].map ResultVar.tmp)=FQ:=by kernel_rfl
def Gt:Tr:=.fail 1034
def GA:Tr:=.fail 1034
def Dd:Tr:=.retr [] 16
def CB:Tr:=.need (.strow 5 1 (.k (.int .i64 (0))) 0 [(.k (.int .i64 (11)))]) (.store 40 (.tmp 11) (.const (I3 (11)))) 0 false Dd
def DK:Tr:=.fail 10
def Ce:Tr:=.need (.call 66 [(.agg [(U 18 0),(U 18 1),(U 18 2)]),(.agg [(U 20 0),(U 20 1),(U 20 2)])] [(some 3)]) (.call ⟨.value (.func 66),#[(.tmp 74),(.tmp 77)],#[30,30]⟩) 30 true DK
def Db:Tr:=.need (.call 72 [(.agg [(U 19 0),(U 19 1),(U 19 2)]),(.agg [(U 12 0),(U 12 1),(U 12 2)])] [(some 3)]) (.call ⟨.value (.func 72),#[(.tmp 75),(.tmp 76)],#[30,30]⟩) 30 true Ce
def wI:Tr:=.need (.call 69 [] [(some 3)]) (.call ⟨.value (.func 69),#[],#[]⟩) 30 false Db
def AV:Tr:=.need (.call 32 [(.agg [(U 16 0),(U 16 1),(U 16 2)]),(.agg [(U 17 0),(U 17 1),(U 17 2)])] [(some 3)]) (.call ⟨.value (.func 32),#[(.tmp 70),(.tmp 73)],#[30,30]⟩) 30 false wI
def Al:Tr:=.need (.call 71 [(.agg [(U 2 0),(U 2 1),(U 2 2)]),(W 3 0)] [(some 3)]) (.call ⟨.value (.func 71),#[(.tmp 71),(.tmp 72)],#[30,3]⟩) 30 false AV
def wK:Tr:=.need (.call 70 [(.agg [(U 4 0),(U 4 1),(U 4 2)])] [(some 3)]) (.call ⟨.value (.func 70),#[(.tmp 69)],#[30]⟩) 30 false Al
def DV:Tr:=.split (.u 15 0) CB wK
def zJ:Tr:=.need (.prim [(W 14 0),(WK (0))] none) (.binOp .geq 3 (.tmp 67) (.const (I3 (0))) 3) 4 false DV
def AK:Tr:=.need (.call 68 [(.agg [(U 12 0),(U 12 1),(U 12 2)]),(.agg [(U 13 0),(U 13 1),(U 13 2)])] [none]) (.call ⟨.value (.func 68),#[(.tmp 65),(.tmp 66)],#[30,30]⟩) 3 true zJ
def AM:Tr:=.need (.call 69 [] [(some 3)]) (.call ⟨.value (.func 69),#[],#[]⟩) 30 false AK
def Dz:Tr:=.need (.call 66 [(.agg [(U 2 0),(U 2 1),(U 2 2)]),(.agg [(U 11 0),(U 11 1),(U 11 2)])] [(some 3)]) (.call ⟨.value (.func 66),#[(.tmp 47),(.tmp 50)],#[30,30]⟩) 30 true AM
def Ai:Tr:=.need (.call 22 [(W 10 0)] [(some 3)]) (.call ⟨.value (.func 22),#[(.tmp 49)],#[2]⟩) 30 true Dz
def FF:Tr:=.need (.prim [(W 3 0),(WK (1))] none) (.binOp .add 2 (.tmp 48) (.const (I3 (1))) 2) 2 false Ai
def DZ:Tr:=.retr [] 20
def Cb:Tr:=.need (.strow 5 1 (.k (.int .i64 (0))) 0 [(.k (.int .i64 (11)))]) (.store 40 (.tmp 11) (.const (I3 (11)))) 0 false DZ
def wU:Tr:=.fail 10
def Bq:Tr:=.need (.call 66 [(.agg [(U 22 0),(U 22 1),(U 22 2)]),(.agg [(U 24 0),(U 24 1),(U 24 2)])] [(some 3)]) (.call ⟨.value (.func 66),#[(.tmp 74),(.tmp 77)],#[30,30]⟩) 30 true wU
def An:Tr:=.need (.call 72 [(.agg [(U 23 0),(U 23 1),(U 23 2)]),(.agg [(U 16 0),(U 16 1),(U 16 2)])] [(some 3)]) (.call ⟨.value (.func 72),#[(.tmp 75),(.tmp 76)],#[30,30]⟩) 30 true Bq
def Au:Tr:=.need (.call 69 [] [(some 3)]) (.call ⟨.value (.func 69),#[],#[]⟩) 30 false An
def Ed:Tr:=.need (.call 32 [(.agg [(U 20 0),(U 20 1),(U 20 2)]),(.agg [(U 21 0),(U 21 1),(U 21 2)])] [(some 3)]) (.call ⟨.value (.func 32),#[(.tmp 70),(.tmp 73)],#[30,30]⟩) 30 false Au
def Em:Tr:=.need (.call 71 [(.agg [(U 2 0),(U 2 1),(U 2 2)]),(W 3 0)] [(some 3)]) (.call ⟨.value (.func 71),#[(.tmp 71),(.tmp 72)],#[30,3]⟩) 30 false Ed
def Bj:Tr:=.need (.call 70 [(.agg [(U 4 0),(U 4 1),(U 4 2)])] [(some 3)]) (.call ⟨.value (.func 70),#[(.tmp 69)],#[30]⟩) 30 false Em
def zM:Tr:=.split (.u 19 0) Cb Bj
def yO:Tr:=.need (.prim [(W 18 0),(WK (0))] none) (.binOp .geq 3 (.tmp 67) (.const (I3 (0))) 3) 4 false zM
def Ck:Tr:=.need (.call 68 [(.agg [(U 16 0),(U 16 1),(U 16 2)]),(.agg [(U 17 0),(U 17 1),(U 17 2)])] [none]) (.call ⟨.value (.func 68),#[(.tmp 65),(.tmp 66)],#[30,30]⟩) 3 true yO
def DS:Tr:=.need (.call 69 [] [(some 3)]) (.call ⟨.value (.func 69),#[],#[]⟩) 30 false Ck
def Aa:Tr:=.need (.call 32 [(.agg [(U 11 0),(U 11 1),(U 11 2)]),(.agg [(U 15 0),(U 15 1),(U 15 2)])] [(some 3)]) (.call ⟨.value (.func 32),#[(.tmp 57),(.tmp 63)],#[30,30]⟩) 30 true DS
def AA:Tr:=.need (.call 67 [(WK (1)),(W 14 0)] [(some 3)]) (.call ⟨.value (.func 67),#[(.const (I3 (1))),(.tmp 62)],#[2,2]⟩) 30 true Aa
def AP:Tr:=.need (.prim [(W 12 0),(W 13 0)] none) (.binOp .mul 2 (.tmp 59) (.tmp 61) 2) 2 false AA
def zZ:Tr:=.need (.prim [(W 3 0),(WK (2))] none) (.binOp .add 2 (.tmp 60) (.const (I3 (2))) 2) 2 false AP
def CN:Tr:=.need (.prim [(W 3 0),(WK (1))] none) (.binOp .add 2 (.tmp 58) (.const (I3 (1))) 2) 2 false zZ
def yZ:Tr:=.need (.call 32 [(.agg [(U 2 0),(U 2 1),(U 2 2)]),(.agg [(U 2 0),(U 2 1),(U 2 2)])] [(some 3)]) (.call ⟨.value (.func 32),#[(.tmp 55),(.tmp 56)],#[30,30]⟩) 30 false CN
def CS:Tr:=.retr [] 21
def Ey:Tr:=.need (.strow 5 1 (.k (.int .i64 (0))) 0 [(.k (.int .i64 (11)))]) (.store 40 (.tmp 11) (.const (I3 (11)))) 0 false CS
def Eb:Tr:=.fail 10
def Bb:Tr:=.need (.call 66 [(.agg [(U 23 0),(U 23 1),(U 23 2)]),(.agg [(U 25 0),(U 25 1),(U 25 2)])] [(some 3)]) (.call ⟨.value (.func 66),#[(.tmp 74),(.tmp 77)],#[30,30]⟩) 30 true Eb
def Co:Tr:=.need (.call 72 [(.agg [(U 24 0),(U 24 1),(U 24 2)]),(.agg [(U 17 0),(U 17 1),(U 17 2)])] [(some 3)]) (.call ⟨.value (.func 72),#[(.tmp 75),(.tmp 76)],#[30,30]⟩) 30 true Bb
def AJ:Tr:=.need (.call 69 [] [(some 3)]) (.call ⟨.value (.func 69),#[],#[]⟩) 30 false Co
def Bi:Tr:=.need (.call 32 [(.agg [(U 21 0),(U 21 1),(U 21 2)]),(.agg [(U 22 0),(U 22 1),(U 22 2)])] [(some 3)]) (.call ⟨.value (.func 32),#[(.tmp 70),(.tmp 73)],#[30,30]⟩) 30 false AJ
def AG:Tr:=.need (.call 71 [(.agg [(U 2 0),(U 2 1),(U 2 2)]),(W 3 0)] [(some 3)]) (.call ⟨.value (.func 71),#[(.tmp 71),(.tmp 72)],#[30,3]⟩) 30 false Bi
def Bl:Tr:=.need (.call 70 [(.agg [(U 4 0),(U 4 1),(U 4 2)])] [(some 3)]) (.call ⟨.value (.func 70),#[(.tmp 69)],#[30]⟩) 30 false AG
def CX:Tr:=.split (.u 20 0) Ey Bl
def CI:Tr:=.need (.prim [(W 19 0),(WK (0))] none) (.binOp .geq 3 (.tmp 67) (.const (I3 (0))) 3) 4 false CX
def EI:Tr:=.need (.call 68 [(.agg [(U 17 0),(U 17 1),(U 17 2)]),(.agg [(U 18 0),(U 18 1),(U 18 2)])] [none]) (.call ⟨.value (.func 68),#[(.tmp 65),(.tmp 66)],#[30,30]⟩) 3 true CI
def zV:Tr:=.need (.call 69 [] [(some 3)]) (.call ⟨.value (.func 69),#[],#[]⟩) 30 false EI
def Ez:Tr:=.need (.call 32 [(.agg [(U 12 0),(U 12 1),(U 12 2)]),(.agg [(U 16 0),(U 16 1),(U 16 2)])] [(some 3)]) (.call ⟨.value (.func 32),#[(.tmp 57),(.tmp 63)],#[30,30]⟩) 30 true zV
def Cx:Tr:=.need (.call 67 [(WK (1)),(W 15 0)] [(some 3)]) (.call ⟨.value (.func 67),#[(.const (I3 (1))),(.tmp 62)],#[2,2]⟩) 30 true Ez
def EX:Tr:=.need (.prim [(W 13 0),(W 14 0)] none) (.binOp .mul 2 (.tmp 59) (.tmp 61) 2) 2 false Cx
def Cm:Tr:=.need (.prim [(W 3 0),(WK (2))] none) (.binOp .add 2 (.tmp 60) (.const (I3 (2))) 2) 2 false EX
def zN:Tr:=.need (.prim [(W 3 0),(WK (1))] none) (.binOp .add 2 (.tmp 58) (.const (I3 (1))) 2) 2 false Cm
def AB:Tr:=.need (.call 32 [(.agg [(U 2 0),(U 2 1),(U 2 2)]),(.agg [(U 2 0),(U 2 1),(U 2 2)])] [(some 3)]) (.call ⟨.value (.func 32),#[(.tmp 55),(.tmp 56)],#[30,30]⟩) 30 false zN
def Ek:Tr:=.retr [] 15
def DH:Tr:=.need (.strow 5 1 (.k (.int .i64 (0))) 0 [(.k (.int .i64 (11)))]) (.store 40 (.tmp 11) (.const (I3 (11)))) 0 false Ek
def vZ:Tr:=.fail 10
def wB:Tr:=.need (.call 66 [(.agg [(U 17 0),(U 17 1),(U 17 2)]),(.agg [(U 19 0),(U 19 1),(U 19 2)])] [(some 3)]) (.call ⟨.value (.func 66),#[(.tmp 74),(.tmp 77)],#[30,30]⟩) 30 true vZ
def EA:Tr:=.need (.call 72 [(.agg [(U 18 0),(U 18 1),(U 18 2)]),(.agg [(U 2 0),(U 2 1),(U 2 2)])] [(some 3)]) (.call ⟨.value (.func 72),#[(.tmp 75),(.tmp 76)],#[30,30]⟩) 30 true wB
def Es:Tr:=.need (.call 69 [] [(some 3)]) (.call ⟨.value (.func 69),#[],#[]⟩) 30 false EA
def wA:Tr:=.need (.call 32 [(.agg [(U 15 0),(U 15 1),(U 15 2)]),(.agg [(U 16 0),(U 16 1),(U 16 2)])] [(some 3)]) (.call ⟨.value (.func 32),#[(.tmp 70),(.tmp 73)],#[30,30]⟩) 30 false Es
def CL:Tr:=.need (.call 71 [(.agg [(U 2 0),(U 2 1),(U 2 2)]),(W 3 0)] [(some 3)]) (.call ⟨.value (.func 71),#[(.tmp 71),(.tmp 72)],#[30,3]⟩) 30 false wA
def BT:Tr:=.need (.call 70 [(.agg [(U 4 0),(U 4 1),(U 4 2)])] [(some 3)]) (.call ⟨.value (.func 70),#[(.tmp 69)],#[30]⟩) 30 false CL
def Cr:Tr:=.split (.u 14 0) DH BT
def DM:Tr:=.need (.prim [(W 13 0),(WK (0))] none) (.binOp .geq 3 (.tmp 67) (.const (I3 (0))) 3) 4 false Cr
def zL:Tr:=.need (.call 68 [(.agg [(U 2 0),(U 2 1),(U 2 2)]),(.agg [(U 12 0),(U 12 1),(U 12 2)])] [none]) (.call ⟨.value (.func 68),#[(.tmp 65),(.tmp 66)],#[30,30]⟩) 3 true DM
def EZ:Tr:=.need (.call 69 [] [(some 3)]) (.call ⟨.value (.func 69),#[],#[]⟩) 30 false zL
def AQ:Tr:=.split (.u 11 0) AB EZ
def Cw:Tr:=.need (.prim [(W 0 0),(.one (.c (.k (.int .u8 (4)))))] none) (.binOp .eql 5 (.tmp 44) (.const (.int .u8 (4))) 5) 4 false AQ
def Eo:Tr:=.split (.u 10 0) yZ Cw
def BH:Tr:=.need (.prim [(W 0 0),(.one (.c (.k (.int .u8 (3)))))] none) (.binOp .eql 5 (.tmp 44) (.const (.int .u8 (3))) 5) 4 false Eo
def Ft:Tr:=.split (.u 9 0) FF BH
def GC:Tr:=.need (.prim [(W 0 0),(.one (.c (.k (.int .u8 (1)))))] none) (.binOp .eql 5 (.tmp 44) (.const (.int .u8 (1))) 5) 4 false Ft
def GR:Tr:=.split (.u 8 0) GA GC
def FW:Tr:=.need (.prim [(W 7 0),(WK (0))] none) (.binOp .eql 3 (.tmp 39) (.const (I3 (0))) 3) 4 false GR
def FR:Tr:=.need (.call 17 [(.agg [(U 4 0),(U 4 1),(U 4 2)])] [none]) (.call ⟨.value (.func 17),#[(.tmp 38)],#[30]⟩) 3 false FW
def Fm:Tr:=.split (.u 6 0) Gt FR
def FX:Tr:=.need (.prim [(W 3 0),(W 1 0)] none) (.binOp .lss 3 (.tmp 34) (.tmp 35) 3) 4 false Fm
theorem MS:cK prog 81 (fun _=>none) (bC [1,1,1,1,1,0,1,0,1] (bJ f16)) [(3, .ref 1),(4, .ref 1),(5, .ref 3),(12, .v none),(13, .ref 3)] 11 40 1 1 ([].map ResultVar.tmp)=FX:=by kernel_rfl
theorem ar5 (kind n m:Nat) (r:Rat) (c:List aN) (h:m<n∨xP kind m=0):vc prog (fun o=>o = .retr [] ([c])) (cK prog 81 (fun _=>none) (bC [1,1,1,1,1,0,1,0,1] (bJ f16)) [(3, .ref 1),(4, .ref 1),(5, .ref 3),(12, .v none),(13, .ref 3)] 10 30 3 0 ([].map ResultVar.tmp)) ([.ref ([.int .u8 (kind:Int)]), .ref ([.int .i64 (n:Int)]), .ref (qC r), .v (.one (.int .i64 (m:Int))), .ref (qC (xP kind m))].map In.env ++ [.rows ([c])]) []:=by
 rw [Mu];dsimp only [List.map,In.env,aG,aH];have hz:¬ (m:Int)<(n:Int)→(xP kind m).num.sign=0:=fun hh=>iD.2 (h.resolve_left fun h2=>hh (by omega));apply vn bA rfl;refine vs _ rfl ?_ ?_<;>intro h1
 ·exact dI rfl rfl
 apply aA (bB _) rfl;apply vn aE rfl;refine vs _ rfl ?_ ?_<;>intro h5
 ·exact dI rfl rfl
 exact absurd (hz h1) h5
theorem ad7 (kind n m:Nat) (r:Rat) (c:List aN) (h:m<n∨xP kind m=0):vc prog (fun o=>o = .retr [] ([c])) (cK prog 81 (fun _=>none) (bC [1,1,1,1,1,0,1,0,1] (bJ f16)) [(3, .ref 1),(4, .ref 1),(5, .ref 3),(12, .v none),(13, .ref 3)] 11 40 1 0 ([].map ResultVar.tmp)) ([.ref ([.int .u8 (kind:Int)]), .ref ([.int .i64 (n:Int)]), .ref (qC r), .v (.one (.int .i64 (m:Int))), .ref (qC (xP kind m))].map In.env ++ [.rows ([c])]) []:=by
 rw [MI];dsimp only [List.map,In.env,aG,aH];have hz:¬ (m:Int)<(n:Int)→(xP kind m).num.sign=0:=fun hh=>iD.2 (h.resolve_left fun h2=>hh (by omega));apply vn bA rfl;refine vs _ rfl ?_ ?_<;>intro h1
 ·exact dI rfl rfl
 apply aA (bB _) rfl;apply vn aE rfl;refine vs _ rfl ?_ ?_<;>intro h5
 ·exact dI rfl rfl
 exact absurd (hz h1) h5
theorem aa1 (kind n m A:Nat) (r:Rat) (c:List aN) (hc:c.length=3) (hn:n≤m) (hm:m≤43) (hk6:kind≤6) (hx:xP kind m≠0) (hr:Fit A r) (hA1:1≤A) (hA:A≤1000000) (hq:rP kind m r<((1:Int):Rat)):vc prog (fun o=>o = .retr [] ([qC (Hw kind m r)])) (cK prog 81 (fun _=>none) (bC [1,1,1,1,1,0,1,0,1] (bJ f16)) [(3, .ref 1),(4, .ref 1),(5, .ref 3),(12, .v none),(13, .ref 3)] 10 30 3 1 ([].map ResultVar.tmp)) ([.ref ([.int .u8 (kind:Int)]), .ref ([.int .i64 (n:Int)]), .ref (qC r), .v (.one (.int .i64 (m:Int))), .ref (qC (xP kind m))].map In.env ++ [.rows ([c])]) []:=by
 rw [Lm];dsimp only [List.map,In.env,aG,aH];obtain ⟨a0,a1,a2,rfl⟩:=mG hc;have hxf:=rW kind hk6 m (by omega);have hb:0≤((m:Int)+1)*((m:Int)+2)∧((m:Int)+1)*((m:Int)+2)≤44*45:=⟨Int.mul_nonneg (by omega) (by omega),Int.mul_le_mul (by omega) (by omega) (by omega) (by omega)⟩
 have hpf:=kE hr m hA1;have hAm:A*m≤1000000*43:=Nat.mul_le_mul hA hm;have h1f:Fit 1 ((1:Int):Rat):=Fit.int (by omega) (by omega);have hif:Fit 64 (((m:Int)+1:Int):Rat):=Fit.int (by omega) (by omega);have hif2:Fit 64 ((((m:Int)+1)*((m:Int)+2):Int):Rat):=Fit.int (by omega) (by omega);have haf:=hP hxf;have hq1:Fit (A+A+200) (bL r (((m:Int)+1:Int):Rat)):=(fF hr hif hA1).mono (by omega);have hq2:Fit (1+64) (bL ((1:Int):Rat) ((((m:Int)+1)*((m:Int)+2):Int):Rat)):=fF h1f hif2;have hq3:Fit (A+A+200) (r*r*bL ((1:Int):Rat) ((((m:Int)+1)*((m:Int)+2):Int):Rat)):=((hr.mul hr).mul hq2).mono (by omega);apply vn bA rfl;refine vs _ rfl ?_ ?_<;>intro h1
 ·exfalso;omega
 apply aA (bB _) rfl;apply vn aE rfl;refine vs _ rfl ?_ ?_<;>intro h5
 ·exact absurd (iD.1 h5) hx
 apply vn aE rfl;dsimp only [aG,aH];refine vs _ rfl ?_ ?_<;>intro h8
 ·apply vn (aD) rfl;apply aA (dU _) rfl;apply aA (bI r _ A 64 hr hif) rfl;dsimp only [aG,aH];have hQ:rP kind m r=bL r (((m:Int)+1:Int):Rat):=by unfold rP;rw [if_pos (by omega)]
  rw [hQ] at hq;have hqf:Fit (A+A+200) (bL r (((m:Int)+1:Int):Rat)):=hq1;apply aA dG rfl;apply aA (cX (bL r (((m:Int)+1:Int):Rat)) ((1:Int):Rat) (A+A+200) 1 hqf h1f) rfl;apply vn eY rfl;refine vs _ rfl ?_ ?_<;>intro h15
  ·exact absurd (nJ.1 h15) (by grind)
  apply aA (rV (xP kind m)) rfl;dsimp only [aG,aH];apply aA (gQ r m m A hr hA1) rfl;apply aA (bF (xP kind m).abs (r^m) 300 (A*m+1) haf hpf) rfl;apply aA dG rfl;apply aA (lZ ((1:Int):Rat) (bL r (((m:Int)+1:Int):Rat)) 1 (A+A+200) h1f hqf) rfl;dsimp only [aG,aH];apply aA (bI _ _ (300+(A*m+1)) (1+(A+A+200)+1) (haf.mul hpf) (h1f.sub hqf)) rfl;rw [show bL ((xP kind m).abs*r^m) (((1:Int):Rat)-bL r (((m:Int)+1:Int):Rat))=Hw kind m r by rw [Hw,hQ]];refine lL (ts:=[[a0,a1,a2]]) (us:=[qC (Hw kind m r)]) rfl rfl (by omega) (cells:=[a0,a1,a2]) rfl rfl ?_;dsimp only [aG,aH];exact dI rfl rfl
 apply vn aE rfl;refine vs _ rfl ?_ ?_<;>intro h26
 ·apply aA (bF r r A A hr hr) rfl;apply vn (aD) rfl;apply vn (aD) rfl;dsimp only [aG,aH];apply vn (bR) rfl;apply aA (tL 1 (((m:Int)+1)*((m:Int)+2))) rfl;apply aA (bF (r*r) _ (A+A) (1+64) (hr.mul hr) hq2) rfl;dsimp only [aG,aH];have hQ:rP kind m r=r*r*bL ((1:Int):Rat) ((((m:Int)+1)*((m:Int)+2):Int):Rat):=by unfold rP;rw [if_neg (by omega),if_pos (by omega)]
  rw [hQ] at hq;have hqf:Fit (A+A+200) (r*r*bL ((1:Int):Rat) ((((m:Int)+1)*((m:Int)+2):Int):Rat)):=hq3;apply aA dG rfl;apply aA (cX (r*r*bL ((1:Int):Rat) ((((m:Int)+1)*((m:Int)+2):Int):Rat)) ((1:Int):Rat) (A+A+200) 1 hqf h1f) rfl;apply vn eY rfl;refine vs _ rfl ?_ ?_<;>intro h36
  ·exact absurd (nJ.1 h36) (by grind)
  apply aA (rV (xP kind m)) rfl;dsimp only [aG,aH];apply aA (gQ r m m A hr hA1) rfl;apply aA (bF (xP kind m).abs (r^m) 300 (A*m+1) haf hpf) rfl;apply aA dG rfl;apply aA (lZ ((1:Int):Rat) (r*r*bL ((1:Int):Rat) ((((m:Int)+1)*((m:Int)+2):Int):Rat)) 1 (A+A+200) h1f hqf) rfl;dsimp only [aG,aH];apply aA (bI _ _ (300+(A*m+1)) (1+(A+A+200)+1) (haf.mul hpf) (h1f.sub hqf)) rfl;rw [show bL ((xP kind m).abs*r^m) (((1:Int):Rat)-r*r*bL ((1:Int):Rat) ((((m:Int)+1)*((m:Int)+2):Int):Rat))=Hw kind m r by rw [Hw,hQ]];refine lL (ts:=[[a0,a1,a2]]) (us:=[qC (Hw kind m r)]) rfl rfl (by omega) (cells:=[a0,a1,a2]) rfl rfl ?_;dsimp only [aG,aH];exact dI rfl rfl
 apply vn aE rfl;refine vs _ rfl ?_ ?_<;>intro h47
 ·apply aA (bF r r A A hr hr) rfl;apply vn (aD) rfl;apply vn (aD) rfl;dsimp only [aG,aH];apply vn (bR) rfl;apply aA (tL 1 (((m:Int)+1)*((m:Int)+2))) rfl;apply aA (bF (r*r) _ (A+A) (1+64) (hr.mul hr) hq2) rfl;dsimp only [aG,aH];have hQ:rP kind m r=r*r*bL ((1:Int):Rat) ((((m:Int)+1)*((m:Int)+2):Int):Rat):=by unfold rP;rw [if_neg (by omega),if_pos (by omega)]
  rw [hQ] at hq;have hqf:Fit (A+A+200) (r*r*bL ((1:Int):Rat) ((((m:Int)+1)*((m:Int)+2):Int):Rat)):=hq3;apply aA dG rfl;apply aA (cX (r*r*bL ((1:Int):Rat) ((((m:Int)+1)*((m:Int)+2):Int):Rat)) ((1:Int):Rat) (A+A+200) 1 hqf h1f) rfl;apply vn eY rfl;refine vs _ rfl ?_ ?_<;>intro h57
  ·exact absurd (nJ.1 h57) (by grind)
  apply aA (rV (xP kind m)) rfl;dsimp only [aG,aH];apply aA (gQ r m m A hr hA1) rfl;apply aA (bF (xP kind m).abs (r^m) 300 (A*m+1) haf hpf) rfl;apply aA dG rfl;apply aA (lZ ((1:Int):Rat) (r*r*bL ((1:Int):Rat) ((((m:Int)+1)*((m:Int)+2):Int):Rat)) 1 (A+A+200) h1f hqf) rfl;dsimp only [aG,aH];apply aA (bI _ _ (300+(A*m+1)) (1+(A+A+200)+1) (haf.mul hpf) (h1f.sub hqf)) rfl;rw [show bL ((xP kind m).abs*r^m) (((1:Int):Rat)-r*r*bL ((1:Int):Rat) ((((m:Int)+1)*((m:Int)+2):Int):Rat))=Hw kind m r by rw [Hw,hQ]];refine lL (ts:=[[a0,a1,a2]]) (us:=[qC (Hw kind m r)]) rfl rfl (by omega) (cells:=[a0,a1,a2]) rfl rfl ?_;dsimp only [aG,aH];exact dI rfl rfl
 have hQ:rP kind m r=r:=by unfold rP;rw [if_neg (by omega),if_neg (by omega)]
 rw [hQ] at hq;have hqf:Fit (A+A+200) (r):=hr.mono (by omega);apply aA dG rfl;apply aA (cX (r) ((1:Int):Rat) (A+A+200) 1 hqf h1f) rfl;apply vn eY rfl;refine vs _ rfl ?_ ?_<;>intro h70
 ·exact absurd (nJ.1 h70) (by grind)
 apply aA (rV (xP kind m)) rfl;dsimp only [aG,aH];apply aA (gQ r m m A hr hA1) rfl;apply aA (bF (xP kind m).abs (r^m) 300 (A*m+1) haf hpf) rfl;apply aA dG rfl;apply aA (lZ ((1:Int):Rat) (r) 1 (A+A+200) h1f hqf) rfl;dsimp only [aG,aH];apply aA (bI _ _ (300+(A*m+1)) (1+(A+A+200)+1) (haf.mul hpf) (h1f.sub hqf)) rfl;rw [show bL ((xP kind m).abs*r^m) (((1:Int):Rat)-r)=Hw kind m r by rw [Hw,hQ]];refine lL (ts:=[[a0,a1,a2]]) (us:=[qC (Hw kind m r)]) rfl rfl (by omega) (cells:=[a0,a1,a2]) rfl rfl ?_;dsimp only [aG,aH];exact dI rfl rfl
theorem ak6 (kind n m A:Nat) (r:Rat) (c:List aN) (hc:c.length=1) (hn:n≤m) (hm:m≤43) (hk6:kind≤6) (hx:xP kind m≠0) (hr:Fit A r) (hA1:1≤A) (hA:A≤1000000) (hq:((1:Int):Rat)≤rP kind m r):vc prog (fun o=>o = .retr [] ([[.int .i64 11]])) (cK prog 81 (fun _=>none) (bC [1,1,1,1,1,0,1,0,1] (bJ f16)) [(3, .ref 1),(4, .ref 1),(5, .ref 3),(12, .v none),(13, .ref 3)] 11 40 1 1 ([].map ResultVar.tmp)) ([.ref ([.int .u8 (kind:Int)]), .ref ([.int .i64 (n:Int)]), .ref (qC r), .v (.one (.int .i64 (m:Int))), .ref (qC (xP kind m))].map In.env ++ [.rows ([c])]) []:=by
 rw [MS];dsimp only [List.map,In.env,aG,aH];obtain ⟨a0,rfl⟩:=UB hc;have hxf:=rW kind hk6 m (by omega);have hb:0≤((m:Int)+1)*((m:Int)+2)∧((m:Int)+1)*((m:Int)+2)≤44*45:=⟨Int.mul_nonneg (by omega) (by omega),Int.mul_le_mul (by omega) (by omega) (by omega) (by omega)⟩
 have hpf:=kE hr m hA1;have hAm:A*m≤1000000*43:=Nat.mul_le_mul hA hm;have h1f:Fit 1 ((1:Int):Rat):=Fit.int (by omega) (by omega);have hif:Fit 64 (((m:Int)+1:Int):Rat):=Fit.int (by omega) (by omega);have hif2:Fit 64 ((((m:Int)+1)*((m:Int)+2):Int):Rat):=Fit.int (by omega) (by omega);have haf:=hP hxf;have hq1:Fit (A+A+200) (bL r (((m:Int)+1:Int):Rat)):=(fF hr hif hA1).mono (by omega);have hq2:Fit (1+64) (bL ((1:Int):Rat) ((((m:Int)+1)*((m:Int)+2):Int):Rat)):=fF h1f hif2;have hq3:Fit (A+A+200) (r*r*bL ((1:Int):Rat) ((((m:Int)+1)*((m:Int)+2):Int):Rat)):=((hr.mul hr).mul hq2).mono (by omega);apply vn bA rfl;refine vs _ rfl ?_ ?_<;>intro h1
 ·exfalso;omega
 apply aA (bB _) rfl;apply vn aE rfl;refine vs _ rfl ?_ ?_<;>intro h5
 ·exact absurd (iD.1 h5) hx
 apply vn aE rfl;dsimp only [aG,aH];refine vs _ rfl ?_ ?_<;>intro h8
 ·apply vn (aD) rfl;apply aA (dU _) rfl;apply aA (bI r _ A 64 hr hif) rfl;dsimp only [aG,aH];have hQ:rP kind m r=bL r (((m:Int)+1:Int):Rat):=by unfold rP;rw [if_pos (by omega)]
  rw [hQ] at hq;have hqf:Fit (A+A+200) (bL r (((m:Int)+1:Int):Rat)):=hq1;apply aA dG rfl;apply aA (cX (bL r (((m:Int)+1:Int):Rat)) ((1:Int):Rat) (A+A+200) 1 hqf h1f) rfl;apply vn eY rfl;refine vs _ rfl ?_ ?_<;>intro h15
  ·refine lL (ts:=[[a0]]) (us:=[[.int .i64 11]]) rfl rfl (by omega) (cells:=[a0]) rfl rfl ?_;dsimp only [aG,aH];exact dI rfl rfl
  exact absurd (nJ.2 hq) h15
 apply vn aE rfl;refine vs _ rfl ?_ ?_<;>intro h26
 ·apply aA (bF r r A A hr hr) rfl;apply vn (aD) rfl;apply vn (aD) rfl;dsimp only [aG,aH];apply vn (bR) rfl;apply aA (tL 1 (((m:Int)+1)*((m:Int)+2))) rfl;apply aA (bF (r*r) _ (A+A) (1+64) (hr.mul hr) hq2) rfl;dsimp only [aG,aH];have hQ:rP kind m r=r*r*bL ((1:Int):Rat) ((((m:Int)+1)*((m:Int)+2):Int):Rat):=by unfold rP;rw [if_neg (by omega),if_pos (by omega)]
  rw [hQ] at hq;have hqf:Fit (A+A+200) (r*r*bL ((1:Int):Rat) ((((m:Int)+1)*((m:Int)+2):Int):Rat)):=hq3;apply aA dG rfl;apply aA (cX (r*r*bL ((1:Int):Rat) ((((m:Int)+1)*((m:Int)+2):Int):Rat)) ((1:Int):Rat) (A+A+200) 1 hqf h1f) rfl;apply vn eY rfl;refine vs _ rfl ?_ ?_<;>intro h36
  ·refine lL (ts:=[[a0]]) (us:=[[.int .i64 11]]) rfl rfl (by omega) (cells:=[a0]) rfl rfl ?_;dsimp only [aG,aH];exact dI rfl rfl
  exact absurd (nJ.2 hq) h36
 apply vn aE rfl;refine vs _ rfl ?_ ?_<;>intro h47
 ·apply aA (bF r r A A hr hr) rfl;apply vn (aD) rfl;apply vn (aD) rfl;dsimp only [aG,aH];apply vn (bR) rfl;apply aA (tL 1 (((m:Int)+1)*((m:Int)+2))) rfl;apply aA (bF (r*r) _ (A+A) (1+64) (hr.mul hr) hq2) rfl;dsimp only [aG,aH];have hQ:rP kind m r=r*r*bL ((1:Int):Rat) ((((m:Int)+1)*((m:Int)+2):Int):Rat):=by unfold rP;rw [if_neg (by omega),if_pos (by omega)]
  rw [hQ] at hq;have hqf:Fit (A+A+200) (r*r*bL ((1:Int):Rat) ((((m:Int)+1)*((m:Int)+2):Int):Rat)):=hq3;apply aA dG rfl;apply aA (cX (r*r*bL ((1:Int):Rat) ((((m:Int)+1)*((m:Int)+2):Int):Rat)) ((1:Int):Rat) (A+A+200) 1 hqf h1f) rfl;apply vn eY rfl;refine vs _ rfl ?_ ?_<;>intro h57
  ·refine lL (ts:=[[a0]]) (us:=[[.int .i64 11]]) rfl rfl (by omega) (cells:=[a0]) rfl rfl ?_;dsimp only [aG,aH];exact dI rfl rfl
  exact absurd (nJ.2 hq) h57
 have hQ:rP kind m r=r:=by unfold rP;rw [if_neg (by omega),if_neg (by omega)]
 rw [hQ] at hq;have hqf:Fit (A+A+200) (r):=hr.mono (by omega);apply aA dG rfl;apply aA (cX (r) ((1:Int):Rat) (A+A+200) 1 hqf h1f) rfl;apply vn eY rfl;refine vs _ rfl ?_ ?_<;>intro h70
 ·refine lL (ts:=[[a0]]) (us:=[[.int .i64 11]]) rfl rfl (by omega) (cells:=[a0]) rfl rfl ?_;dsimp only [aG,aH];exact dI rfl rfl
 exact absurd (nJ.2 hq) h70
open Go Go.Proofs Go.RowKit Tryz Ord
attribute [local go_sem] Oper.semAt_some
def ab6:Tr:=aC 15 [(W 0 0),(W 1 0)] [none,none] [17,18] [5,3] 53 false (aO .neq 40 22 0 4 0 4 (.split (.u 5 0) (.ret [(.agg [tN,(tE (.bool false)),tN]),(W 4 0)]) (aC 17 [(G3 2)] [none] [26] [30] 3 true (aO .leq 3 27 0 6 0 4 (.split (.u 7 0) (.ret [(.agg [tN,(tE (.bool false)),tN]),(WK 2)]) (aC 65 [(W 0 0)] [none] [30] [5] 113 true OQ))))))
theorem Ki:aK prog f16 (fun _=>none) [.v none, .v none, .v (some 3)]=ab6:=by kernel_rfl
theorem Nn (kind n:Int) (r:Rat) (h:kind<1∨6<kind):aL prog 16 [(.one (.int .u8 kind):aI),(.one (.int .i64 n):aI),(qT r:aI)] (.ret [qT 0, .one (.int .i64 2)]):=by
 refine bV func16 Ki ?_;apply aA (rA kind n h) rfl;apply vn cS rfl;refine vs _ rfl ?_ ?_<;>intro h2
 ·exact fR ⟨IX,aI.Sub.same,trivial⟩
 exact absurd (show (2:Int)≠0 by decide) h2
theorem NS (kind n:Int) (r:Rat) (h:n<0∨200<n) (h1:1≤kind:=by omega) (h6:kind≤6:=by omega):aL prog 16 [(.one (.int .u8 kind):aI),(.one (.int .i64 n):aI),(qT r:aI)] (.ret [qT 0, .one (.int .i64 3)]):=by
 refine bV func16 Ki ?_;apply aA (qZ kind n h h1 h6) rfl;apply vn cS rfl;refine vs _ rfl ?_ ?_<;>intro h2
 ·exact fR ⟨IX,aI.Sub.same,trivial⟩
 exact absurd (show (3:Int)≠0 by decide) h2
theorem Re (kind n:Nat) (r:Rat) (hr:r≤0) (k1:1≤kind:=by omega) (k6:kind≤6:=by omega) (hn:n≤43:=by omega):aL prog 16 [(.one (.int .u8 (kind:Int)):aI),(.one (.int .i64 (n:Int)):aI),(qT r:aI)] (.ret [qT 0, .one (.int .i64 2)]):=by
 refine bV func16 Ki ?_;apply aA (sJ kind n k1 k6 hn) rfl;apply vn cS rfl;refine vs _ rfl ?_ ?_<;>intro h2
 ·exact absurd rfl h2
 apply aA (bB r) rfl;apply vn gE rfl;dsimp only [aG,aH];refine vs _ rfl ?_ ?_<;>intro h6
 ·exact fR ⟨IX,aI.Sub.same,trivial⟩
 exact absurd ((fP r).2 hr) h6
theorem Ii {kind n:Nat} (h1:1≤kind) (h6:kind≤6) {M:Nat→Prop} {w:World} (hM:Fine M w) (hn:n≤43:=by omega) :
  Calls prog 15 #[.int .u8 (kind:Int), .int .i64 (n:Int)] w fun e w'=>Below w.heap.size w w'∧∃ v,e = .returned (.tuple #[v, .int .i64 0])∧v.oneCell'=true:=by
 refine ((sJ kind n h1 h6 hn).2 M w [.int .u8 (kind:Int), .int .i64 (n:Int)] hM ⟨⟨rfl,rfl⟩,⟨rfl,rfl⟩,trivial⟩).mono ?_;rintro e w' ⟨hb,us,rfl,hus⟩
 match us,hus with
 | [v,v'],hus=>
   obtain ⟨h1,⟨rfl,_⟩,_⟩:=hus;exact ⟨hb,v,rfl,(sQ (PG kind n)).one h1⟩
 | [],hus=>exact hus.elim
 | [_],hus=>exact hus.2.elim
 | _::_::_::_,hus=>exact hus.2.2.elim
theorem Ll (kind n:Nat):n≤cG kind n:=by unfold cG;split<;>omega
theorem vE:∀ k,k≤6→∀ n,n≤42→1≤k→(∀ i,i<cG k n→n≤i→xP k i=0)∧xP k (cG k n)≠0∧cG k n≤43:=by
 intro k hk n hn h1;unfold cG;by_cases h:(eC k n).q=0
 ·rw [if_pos h];refine ⟨fun i hi hni=>?_,?_,by omega⟩
  ·obtain rfl:i=n:=by omega
   rw [pG k hk i (by omega) h1];exact h
  ·rw [pG k hk (n+1) (by omega) h1];exact MR k hk n hn h
 ·rw [if_neg h];exact ⟨fun i hi hni=>by omega,by rw [pG k hk n (by omega) h1];exact h,by omega⟩
theorem Wu {M M':Nat→Prop} {W W':World} {vs:List Value} (h:aP M W mQ vs):aP M' W' mQ vs:=by
 match vs,h with
 | [a,b,c],h=>exact ⟨h.1,h.2.1,h.2.2.1,trivial⟩
 | [],h=>exact h.elim
 | [_],h=>exact h.2.elim
 | [_,_],h=>exact h.2.2.elim
 | _::_::_::_::_,h=>exact h.2.2.2.elim
set_option maxRecDepth 100000 in
set_option maxHeartbeats 1000000 in
theorem NA (kind n A:Nat) (r:Rat) (hr0:0<r) (hr:Fit A r) (hq:rP kind (cG kind n) r<((1:Int):Rat)) (h1:1≤kind:=by omega) (h6:kind≤6:=by omega) (hn:n≤42:=by omega) (hA1:1≤A:=by omega) (hA:A≤1000000:=by omega) :
  aL prog 16 [.one (.int .u8 (kind:Int)), .one (.int .i64 (n:Int)),qT r] (.ret [qT (Hw kind (cG kind n) r), .one (.int .i64 0)]):=by
 obtain ⟨hz,hne,hR43⟩:=vE kind h6 n hn h1;have hle:=Ll kind n;obtain ⟨R,hR⟩:∃ R,R=cG kind n:=⟨_,rfl⟩
 rw [←hR] at hz hne hR43 hle hq ⊢;have hS:=bB r;rw [Int.sign_eq_one_of_pos (show 0<r.num from (Int.lt_iff_le_and_ne.2 ⟨Rat.num_nonneg.2 (by grind),fun e=>by rw [Rat.num_eq_zero.1 e.symm] at hr0;exact absurd hr0 (by decide)⟩))] at hS;refine ⟨enters_of func16 (by kernel_rfl) rfl,fun M w vs hM hv=>?_⟩
 match vs,hv with
 | [],hv=>exact hv.elim
 | [_],hv=>exact hv.2.elim
 | [_,_],hv=>exact hv.2.2.elim
 | _::_::_::_::_,hv=>exact hv.2.2.2.elim
 | [w0,w1,w2],hv=>
 obtain ⟨⟨rfl,_⟩,⟨rfl,_⟩,hrs,_⟩:=hv;obtain ⟨v0,v1,v2,hpk,hr3⟩:=UG (show bX M w [qT r] [w2] from ⟨hrs,trivial⟩);obtain rfl:w2 = .agg #[v0,v1,v2]:=hpk;have hone:=hr3.one;refine (callsIn_wide (n:=1001)).1 ?_;refine callsIn_of_wp_marks func16 rfl trivial ?_ rfl;simp only [ntmps16,List.size_toArray,List.length_cons,List.length_nil,Nat.reduceAdd,Nat.reduceSub,Array.replicate_succ,Array.replicate_zero,List.push_toArray,List.append_toArray,List.nil_append,List.cons_append];obtain ⟨n0,hn0⟩:∃ n0,w.heap.size=n0:=⟨_,rfl⟩
 obtain ⟨W0,hW0⟩:∃ W0,((((w.alloc (.cells #[.int .u8 (kind:Int)] 5)).alloc (.cells #[.int .i64 (n:Int)] 3)).alloc (.cells #[v0,v1,v2] 30)).alloc (.cells #[.slice none 0 0, .bool false, .slice none 0 0] 30))=W0:=⟨_,rfl⟩
 have hs0:n0+4=W0.heap.size:=by rw [←hW0];simp [hn0]
 have hb0:Below n0 w W0:=by
  rw [←hW0];exact ((((Below.refl _ w).alloc (by omega) _).alloc (by simp;omega) _).alloc (by simp;omega) _).alloc (by simp;omega) _
 have hk0:W0.heap[n0]? = some (.cells #[.int .u8 (kind:Int)] 5 (0,0)):=by rw [←hW0,heap_alloc_old _ _ _ (by simp;omega),heap_alloc_old _ _ _ (by simp;omega),heap_alloc_old _ _ _ (by simp;omega),←hn0];exact heap_alloc_new w _
 have hc0:W0.heap[n0+1]? = some (.cells #[.int .i64 (n:Int)] 3 (0,0)):=by
  rw [←hW0,heap_alloc_old _ _ _ (by simp;omega),heap_alloc_old _ _ _ (by simp;omega)];have:=heap_alloc_new (w.alloc (.cells #[.int .u8 (kind:Int)] 5)) (.cells #[.int .i64 (n:Int)] 3);rw [World.size_alloc,hn0] at this;exact this
 have hr0':W0.heap[n0+2]? = some (.cells #[v0,v1,v2] 30 (0,0)):=by
  rw [←hW0,heap_alloc_old _ _ _ (by simp;omega)];have:=heap_alloc_new ((w.alloc (.cells #[.int .u8 (kind:Int)] 5)).alloc (.cells #[.int .i64 (n:Int)] 3)) (.cells #[v0,v1,v2] 30);rw [World.size_alloc,World.size_alloc,hn0] at this;exact this
 have ht0:W0.heap[n0+3]? = some (.cells #[.slice none 0 0, .bool false, .slice none 0 0] 30 (0,0)):=by
  rw [←hW0];have:=heap_alloc_new (((w.alloc (.cells #[.int .u8 (kind:Int)] 5)).alloc (.cells #[.int .i64 (n:Int)] 3)).alloc (.cells #[v0,v1,v2] 30)) (.cells #[.slice none 0 0, .bool false, .slice none 0 0] 30);rw [World.size_alloc,World.size_alloc,World.size_alloc,hn0] at this;exact this
 have c0:W0.cell? ⟨n0,0,none⟩=some (.int .u8 (kind:Int)):=aB hk0 rfl;have c1:W0.cell? ⟨n0+1,0,none⟩=some (.int .i64 (n:Int)):=aB hc0 rfl
 gi_wp2
 simp only [Nat.add_assoc,Nat.reduceAdd];have hlow:∀ b,M b→b<n0:=fun b hb=>by have:=hM.1 b hb;omega
 have iU:∀ W',Below n0 w W'→Fine M W':=fun W' h=>⟨fun b hb=>by have:=hM.1 b hb;have:=h.size;omega,hM.2.cR (aY.below (hn0▸h))⟩
 refine ⟨trivial,?_⟩;refine (callsIn_wide.2 (Ii h1 h6 (iU W0 hb0))).mono ?_;rintro e W1 ⟨hb1,sv,rfl,hso⟩;have hs1:=hb1.size;have hb1':Below n0 w W1:=hb0.trans (hb1.mono (by omega));have hr1:=(hb1.block (n0+2) (by omega)).trans hr0';have f0:W1.cell? ⟨n0+2,0,none⟩=some v0:=aB hr1 rfl;have f1:W1.cell? ⟨n0+2,1,none⟩=some v1:=aB hr1 rfl;have f2:W1.cell? ⟨n0+2,2,none⟩=some v2:=aB hr1 rfl;dsimp only
 gi_wp2
 refine ⟨trivial,?_⟩;refine (callsIn_wide.2 (pT hS (iU W1 hb1') (vs:=[.agg #[v0,v1,v2]]) ⟨⟨_,rfl,hr3.mono (aY.below (hn0▸hb1'))⟩,trivial⟩)).mono ?_;rintro e W2 ⟨hb2,rfl⟩;have hs2:=hb2.size;have hb2':Below n0 w W2:=hb1'.trans (hb2.mono (by omega));have hk2:=(hb2.block n0 (by omega)).trans ((hb1.block n0 (by omega)).trans hk0);have hc2:=(hb2.block (n0+1) (by omega)).trans ((hb1.block (n0+1) (by omega)).trans hc0);have hr2:=(hb2.block (n0+2) (by omega)).trans hr1;have ht2:=(hb2.block (n0+3) (by omega)).trans ((hb1.block (n0+3) (by omega)).trans ht0);obtain ⟨n2,hn2⟩:∃ n2,W2.heap.size=n2:=⟨_,rfl⟩
 obtain ⟨W3,hW3⟩:∃ W3,((W2.alloc (.cells #[.slice none 0 0, .bool false, .slice none 0 0] 30)).alloc (.cells #[.int .i64 0] 40))=W3:=⟨_,rfl⟩
 have hs3:n2+2=W3.heap.size:=by rw [←hW3];simp [hn2]
 have hb3:Below n2 W2 W3:=by
  rw [←hW3];exact ((Below.refl _ W2).alloc (by omega) _).alloc (by simp;omega) _
 have ho3:W3.heap[n2]? = some (.cells #[.slice none 0 0, .bool false, .slice none 0 0] 30 (0,0)):=by rw [←hW3,heap_alloc_old _ _ _ (by simp;omega),←hn2];exact heap_alloc_new W2 _
 have he3:W3.heap[n2+1]? = some (.cells #[.int .i64 0] 40 (0,0)):=by
  rw [←hW3];have:=heap_alloc_new (W2.alloc (.cells #[.slice none 0 0, .bool false, .slice none 0 0] 30)) (.cells #[.int .i64 0] 40);rw [World.size_alloc,hn2] at this;exact this
 have hk3:=(hb3.block n0 (by omega)).trans hk2;have e3:W3.cell? ⟨n2+1,0,none⟩=some (.int .i64 0):=aB he3 rfl;have g3:W3.frozen? ⟨n2+1,0,none⟩=false:=AZ he3 0;have hW4:=setCell_eq_setRow W3 (n2+1) 0 #[.int .i64 0] 40 (0,0) (.int .i64 0) he3;have he4:(W3.setCell ⟨n2+1,0,none⟩ (.int .i64 0)).heap[n2+1]? = some (.cells #[.int .i64 0] 40 (0,0)):=by rw [hW4];exact setRow_heap _ _ _ _ _ _ he3
 have hb4:Below n2 W3 (W3.setCell ⟨n2+1,0,none⟩ (.int .i64 0)):=by rw [hW4];exact below_setRow (Below.refl _ _) _
 have ho4:(W3.setCell ⟨n2+1,0,none⟩ (.int .i64 0)).heap[n2]? = some (.cells #[.slice none 0 0, .bool false, .slice none 0 0] 30 (0,0)):=by rw [hW4,setRow_other _ _ _ _ (by omega)];exact ho3
 have hs4:W3.heap.size=(W3.setCell ⟨n2+1,0,none⟩ (.int .i64 0)).heap.size:=by rw [hW4];simp [World.setRow]
 have c3:(W3.setCell ⟨n2+1,0,none⟩ (.int .i64 0)).cell? ⟨n0,0,none⟩=some (.int .u8 (kind:Int)):=aB ((hb4.block n0 (by omega)).trans hk3) rfl;clear hW4;dsimp only
 gi_wp2
 generalize W3.setCell ⟨n2+1,0,none⟩ (.int .i64 0)=W4 at *;have hb4':Below n0 w W4:=hb2'.trans ((hb3.mono (by omega)).trans (hb4.mono (by omega)));have hk4:=(hb4.block n0 (by omega)).trans hk3;have hc4:=(hb4.block (n0+1) (by omega)).trans ((hb3.block (n0+1) (by omega)).trans hc2);have hr4:=(hb4.block (n0+2) (by omega)).trans ((hb3.block (n0+2) (by omega)).trans hr2);have ht4:=(hb4.block (n0+3) (by omega)).trans ((hb3.block (n0+3) (by omega)).trans ht2);obtain ⟨M3,hM3⟩:∃ M3:Nat→Prop,M3=fun b=>Mg M (n0+3) b∨b=n2:=⟨_,rfl⟩
 have m3:∀ b,M3 b→b<n0∨b=n0+3∨b=n2:=fun b h=>by
  rw [hM3] at h;rcases h with (h | h) | h
  ·exact .inl (hlow b h)
  ·exact .inr (.inl h)
  ·exact .inr (.inr h)
 have hkM:aY M w M3 W4:=fun b o hb ho _=>by
  have hlt:=(eF.1 ho).1;refine ⟨fun h=>?_,(hb4'.block b (by omega)).trans ho⟩;rw [hM3] at h;rcases h with (h | h) | h
  ·exact hb h
  ·omega
  ·omega
 have hF4:Fine M3 W4:=⟨fun b hb=>by have:=m3 b hb;omega,hM.2.cR hkM⟩
 refine ⟨trivial,?_⟩;refine (callsIn_wide.2 (NN (jB kind) hF4 (vs:=[.int .u8 (kind:Int)]) ⟨⟨rfl,rfl⟩,trivial⟩)).mono ?_;rintro e W5 ⟨hb5,vp,rfl,hvp⟩;have hs5:=hb5.size;have hb5':Below n0 w W5:=hb4'.trans (hb5.mono (by omega));have hk5:=(hb5.block n0 (by omega)).trans hk4;have hc5:=(hb5.block (n0+1) (by omega)).trans hc4;have hr5:=(hb5.block (n0+2) (by omega)).trans hr4;have ht5:=(hb5.block (n0+3) (by omega)).trans ht4;have ho5:=(hb5.block n2 (by omega)).trans ho4;have he5:=(hb5.block (n2+1) (by omega)).trans he4;have hF5:Fine M3 W5:=⟨fun b hb=>by have:=hF4.1 b hb;omega,hF4.2.cR (aY.below hb5)⟩
 have hrr5:=(hr3.mono hkM).mono (aY.below hb5);have hnm:∀ j,n0≤j→j<n0+3→¬ M3 j:=fun j h1 h2 h=>by have:=m3 j h;omega
 dsimp only
 gi_wp2
 refine EG M3 kind R h1 h6 hR43 (o:=n2) (T:=30) (p1:=32) (p2:=33) (id:=0) (cs:=fun i=>if i≤R then [.exact (.slice none 0 0), .exact (.bool false), .exact (.slice none 0 0)] else qC (Hw kind R r))
  (tf:=fun i x b=>#[.int .u8 (kind:Int), .int .i64 (n:Int), .agg #[v0,v1,v2], .pointer (some ⟨n0,0,none⟩), .pointer (some ⟨n0+1,0,none⟩), .pointer (some ⟨n0+2,0,none⟩), .pointer (some ⟨n0+3,0,none⟩), .int .i64 0,sv, .int .i64 0, .pointer (some ⟨n2,0,none⟩), .pointer (some ⟨n2+1,0,none⟩), .int .i64 (i:Int), .pointer (some ⟨b,0,none⟩),undef,undef, .tuple #[sv, .int .i64 0], .int .u8 (kind:Int), .int .i64 (n:Int), .tuple #[sv, .int .i64 0],sv, .int .i64 0, .int .i64 0, .bool false,undef,undef, .agg #[v0,v1,v2], .int .i64 1, .bool false,undef, .int .u8 (kind:Int), .func (.func 117) #[] #[vp], .int .i64 (i:Int),x,undef,undef,undef,undef,undef,undef,undef,undef,undef,undef,undef,undef,undef,undef,undef,undef,undef,undef,undef,undef,undef,undef,undef,undef,undef,undef,undef,undef,undef,undef,undef,undef,undef,undef,undef,undef,undef,undef,undef,undef,undef,undef,undef,undef,undef,undef,undef])
  hF5 hvp rfl (by rw [hM3];exact .inr rfl) (cur0:=#[.slice none 0 0, .bool false, .slice none 0 0]) ho5 (by rw [if_pos (eS _)];exact ⟨⟨rfl,rfl⟩,⟨rfl,rfl⟩,⟨rfl,rfl⟩,trivial⟩) ?_ ?_ ?_ ?_
 ·intro M' W vs h;rw [if_pos (eS _)] at h ⊢;exact Wu h
 ·intro l i u0 u1 u2 W K hone' hK
  gi_wp2
  obtain ⟨W',hW',e'⟩:=iI (W:=W) (hone' u0 (by simp)) (hone' u1 (by simp)) (hone' u2 (by simp));rw [e'];rw [hW'] at hK
  gi_wp2
  exact hK
 ·intro i hi l g W cur b x Q hq' hgw hFW hkp hcu hcr hp hQ;have hkeepb:∀ j,n0≤j→j<n0+3→¬ Mg M3 g j:=fun j h1 h2 h=>h.elim (hnm j h1 h2) (by omega);have hkv:(aN.cJ [.int .u8 (kind:Int)]).rep (Mg M3 g) W (.pointer (some ⟨n0,0,none⟩)):=⟨n0,0,#[.int .u8 (kind:Int)],5,(0,0),rfl,hkeepb n0 (by omega) (by omega),(hkp _ _ (hnm n0 (by omega) (by omega)) hk5 rfl).2,⟨rfl,rfl⟩,trivial⟩
  have hnv:(aN.cJ [.int .i64 (n:Int)]).rep (Mg M3 g) W (.pointer (some ⟨n0+1,0,none⟩)):=⟨n0+1,0,#[.int .i64 (n:Int)],3,(0,0),rfl,hkeepb _ (by omega) (by omega),(hkp _ _ (hnm _ (by omega) (by omega)) hc5 rfl).2,⟨rfl,rfl⟩,trivial⟩
  have hrv:(aN.cJ (qC r)).rep (Mg M3 g) W (.pointer (some ⟨n0+2,0,none⟩)):=⟨n0+2,0,#[v0,v1,v2],30,(0,0),rfl,hkeepb _ (by omega) (by omega),(hkp _ _ (hnm _ (by omega) (by omega)) hr5 rfl).2,by simpa using hrr5.mono hkp⟩
  rw [if_pos hi] at hcr;by_cases hlt:i<R
  ·rw [if_pos hlt,if_pos (show i+1≤R by omega)] at hQ
   refine gU (N:=81) (t0:=10) (T:=30) (n:=3) (want:=0) (g:=n2) (cur:=cur) (ins:=[(3, .ref 1),(4, .ref 1),(5, .ref 3),(12, .v none),(13, .ref 3)]) (xs:=[.ref [.int .u8 (kind:Int)], .ref [.int .i64 (n:Int)], .ref (qC r), .v (.one (.int .i64 (i:Int))), .ref (qC (xP kind i))]) fo ⟨rfl,rfl,rfl,rfl,rfl,trivial⟩
    (ar5 kind n i r [.exact (.slice none 0 0), .exact (.bool false), .exact (.slice none 0 0)] (by rcases Nat.lt_or_ge i n with h | h<;>first | exact .inl h | exact .inr (hz i hlt h))) (by kernel_rfl) (by kernel_rfl) hq' hFW (.inl (by rw [hM3];exact .inr rfl)) rfl rfl rfl (by omega) ⟨hkv,hnv,hrv,⟨rfl,rfl⟩,hp,trivial⟩ rfl hcu hcr ?_
   intro a' W' us cur' hg _ _ _ hc' _ hr';exact hQ a' W' cur' hg hc' hr'
  ·obtain rfl:i=R:=by omega
   rw [if_neg hlt,if_neg (show ¬ i+1≤i by omega)] at hQ
   refine gU (N:=81) (t0:=10) (T:=30) (n:=3) (want:=1) (g:=n2) (cur:=cur) (ins:=[(3, .ref 1),(4, .ref 1),(5, .ref 3),(12, .v none),(13, .ref 3)]) (xs:=[.ref [.int .u8 (kind:Int)], .ref [.int .i64 (n:Int)], .ref (qC r), .v (.one (.int .i64 (i:Int))), .ref (qC (xP kind i))]) fo ⟨rfl,rfl,rfl,rfl,rfl,trivial⟩
    (aa1 kind n i A r [.exact (.slice none 0 0), .exact (.bool false), .exact (.slice none 0 0)] rfl hle hR43 h6 hne hr hA1 hA hq) (by kernel_rfl) (by kernel_rfl) hq' hFW (.inl (by rw [hM3];exact .inr rfl)) rfl rfl rfl (by omega) ⟨hkv,hnv,hrv,⟨rfl,rfl⟩,hp,trivial⟩ rfl hcu hcr ?_
   intro a' W' us cur' hg _ _ _ hc' _ hr';exact hQ a' W' cur' hg hc' hr'
 ·intro W cur g hgw hos htape hout hsz hblk hD hcu hcr;rw [if_neg (by omega)] at hcr;have ht6:=(hblk (n0+3) (by omega) (by omega)).trans ht5
  obtain ⟨x0,x1,x2,ez,hX,hE,hxr⟩:∃ x0 x1 x2 ez,W.heap[n2]? = some (.cells #[x0,x1,x2] 30 (0,0))∧W.heap[n2+1]? = some (.cells #[.int .i64 ez] 40 (0,0))∧ez=0∧aP (Mg M3 g) W (qC (Hw kind R r)) [x0,x1,x2]:=by
   obtain ⟨x0,x1,x2,hcc⟩:=mG (show cur.toList.length=3 from hcr.length.symm);obtain rfl:cur = #[x0,x1,x2]:=by rw [←Array.toArray_toList (xs:=cur),hcc]
   exact ⟨x0,x1,x2,0,hcu,(hblk (n2+1) (by omega) (by omega)).trans he5,rfl,hcr⟩
  obtain ⟨rfl,hxr⟩:=hxr;have hxo:=hxr.one;have gen:∀ (W6:World),Below W5.heap.size W W6→W6.heap[n0+3]? = some (.cells #[x0,x1,x2] 30 (0,0))→True:=fun _ _ _=>trivial;rename_i K hK;refine (show Exit.inBlock 0 (Exit.then K _) (.exit 0) _ _ from hK _ _ ?_);clear hK K gen;refine wpIn_seq_k fun K hK=>wpIn_region_any (by kernel_rfl) ?_;obtain ⟨Wd,hWd⟩:∃ Wd:World,{ W with drawn:=W.drawn+1 } = Wd:=⟨_,rfl⟩
  have hd:Wd.heap=W.heap∧Wd.os=W.os∧Wd.tape=W.tape∧Wd.output=W.output:=by rw [←hWd];exact ⟨rfl,rfl,rfl,rfl⟩
  rw [hWd];clear hWd;have hXd:Wd.heap[n2]? = some (.cells #[x0,x1,x2] 30 (0,0)):=by rw [hd.1];exact hX
  have hEd:Wd.heap[n2+1]? = some (.cells #[.int .i64 0] 40 (0,0)):=by rw [hd.1];exact hE
  have hTd:Wd.heap[n0+3]? = some (.cells #[.slice none 0 0, .bool false, .slice none 0 0] 30 (0,0)):=by rw [hd.1];exact ht6
  have k0:Wd.cell? ⟨n2,0,none⟩=some x0:=aB hXd rfl;have k1:Wd.cell? ⟨n2,1,none⟩=some x1:=aB hXd rfl;have k2:Wd.cell? ⟨n2,2,none⟩=some x2:=aB hXd rfl;have k3:Wd.cell? ⟨n2+1,0,none⟩=some (.int .i64 0):=aB hEd rfl;have hst:=IM (P:=prog) hTd (hxo x0 (by simp)) (hxo x1 (by simp)) (hxo x2 (by simp));obtain ⟨W6,hW6⟩:∃ W6,Wd.setRow (n0+3) #[x0,x1,x2]=W6:=⟨_,rfl⟩
  have h66:W6.heap[n0+3]? = some (.cells #[x0,x1,x2] 30 (0,0)):=by rw [←hW6];exact setRow_heap _ _ _ _ _ _ hTd
  have h6o:∀ j,j≠n0+3→W6.heap[j]? = W.heap[j]?:=fun j hj=>by rw [←hW6,setRow_other _ _ _ _ hj,hd.1]
  have h6s:W6.heap.size=W.heap.size:=by rw [←hW6,←hd.1];simp [World.setRow]
  have h6w:W6.os=W.os∧W6.tape=W.tape∧W6.output=W.output:=by rw [←hW6];exact hd.2
  rw [hW6] at hst;clear hW6;have k6:W6.cell? ⟨n2+1,0,none⟩=some (.int .i64 0):=aB ((h6o _ (by omega)).trans hE) rfl;refine wpAnyIn_ready (rs:=[0,1]) (by kernel_rfl) (by simp) ?_;refine AllReadyIn.cons rfl (fun K2 hK2=>?_) (AllReadyIn.cons rfl (fun K2 hK2=>?_) AllReadyIn.nil)
  ·go_simp
   refine hK2 _ _ ?_;clear hK2 K2;refine wpAnyIn_ready (rs:=[1,2]) (by kernel_rfl) (by simp) ?_;refine AllReadyIn.cons rfl (fun K2 hK2=>?_) (AllReadyIn.cons rfl (fun K2 hK2=>?_) AllReadyIn.nil)
   ·go_simp
    refine hK2 _ _ ?_;clear hK2 K2;refine wpAnyIn_ready (rs:=[2]) (by kernel_rfl) (by simp) ?_;refine AllReadyIn.cons rfl (fun K2 hK2=>?_) AllReadyIn.nil
    go_simp
    try rw [hst]
    try dsimp only [Result.andThen_ok]
    try go_simp
    refine hK2 _ _ ?_;clear hK2 K2;refine wpAnyIn_ready (rs:=[3]) (by kernel_rfl) (by simp) ?_;refine AllReadyIn.cons rfl (fun K2 hK2=>?_) AllReadyIn.nil
    go_simp
    refine hK2 _ _ ?_;clear hK2 K2;refine wpAnyIn_done (by kernel_rfl) ?_ _;refine hK _ _ ?_
    gi_wp2
    refine ⟨by simp, .inl ⟨_,_,rfl,run_takeDeferred ((h6o _ (by omega)).trans hD),?_⟩⟩;have hot8:∀ j,j≠W5.heap.size→(W6.putObj W5.heap.size (.deferred none)).heap[j]? = W6.heap[j]?:=fun j hj=>World.putObj_heap_other hj;have hs8:(W6.putObj W5.heap.size (.deferred none)).heap.size=W6.heap.size:=World.putObj_size;have ho8:(W6.putObj W5.heap.size (.deferred none)).os=W6.os∧(W6.putObj W5.heap.size (.deferred none)).tape=W6.tape∧(W6.putObj W5.heap.size (.deferred none)).output=W6.output:=⟨rfl,rfl,rfl⟩
    generalize W6.putObj W5.heap.size (.deferred none)=W8 at *;have h88:=(hot8 (n0+3) (by omega)).trans h66;have z0:W8.cell? ⟨n0+3,0,none⟩=some x0:=aB h88 rfl;have z1:W8.cell? ⟨n0+3,1,none⟩=some x1:=aB h88 rfl;have z2:W8.cell? ⟨n0+3,2,none⟩=some x2:=aB h88 rfl;refine ⟨.tuple #[.agg #[x0,x1,x2], .int .i64 0],?_,⟨ho8.1.trans (h6w.1.trans (hos.trans hb5'.os)),ho8.2.1.trans (h6w.2.1.trans (htape.trans hb5'.tape)),ho8.2.2.trans (h6w.2.2.trans (hout.trans hb5'.output)),by omega,fun j hj=>(hot8 j (by omega)).trans ((h6o j (by omega)).trans ((hblk j (by omega) (by omega)).trans (hb5'.block j (by omega))))⟩,[.agg #[x0,x1,x2], .int .i64 0],rfl,⟨_,rfl,hxr.mono fun b x hb hx hxc=>⟨fun h=>hb (.inl (by rw [hM3];exact .inl (.inl h))),(hot8 b fun e=>by subst e;rw [hD] at hx;cases hx;cases hxc).trans ((h6o b fun e=>hb (.inl (by rw [hM3,e];exact .inl (.inr rfl)))).trans hx)⟩⟩,⟨rfl,rfl⟩,trivial⟩;simp [results,show f16.results = #[.cell 6 30, .tmp 7] from rfl,go_sem,z0,z1,z2]
   ·go_simp
    try rw [hst]
    try dsimp only [Result.andThen_ok]
    try go_simp
    refine hK2 _ _ ?_;clear hK2 K2;refine wpAnyIn_ready (rs:=[1]) (by kernel_rfl) (by simp) ?_;refine AllReadyIn.cons rfl (fun K2 hK2=>?_) AllReadyIn.nil
    go_simp
    refine hK2 _ _ ?_;clear hK2 K2;refine wpAnyIn_ready (rs:=[3]) (by kernel_rfl) (by simp) ?_;refine AllReadyIn.cons rfl (fun K2 hK2=>?_) AllReadyIn.nil
    go_simp
    refine hK2 _ _ ?_;clear hK2 K2;refine wpAnyIn_done (by kernel_rfl) ?_ _;refine hK _ _ ?_
    gi_wp2
    refine ⟨by simp, .inl ⟨_,_,rfl,run_takeDeferred ((h6o _ (by omega)).trans hD),?_⟩⟩;have hot8:∀ j,j≠W5.heap.size→(W6.putObj W5.heap.size (.deferred none)).heap[j]? = W6.heap[j]?:=fun j hj=>World.putObj_heap_other hj;have hs8:(W6.putObj W5.heap.size (.deferred none)).heap.size=W6.heap.size:=World.putObj_size;have ho8:(W6.putObj W5.heap.size (.deferred none)).os=W6.os∧(W6.putObj W5.heap.size (.deferred none)).tape=W6.tape∧(W6.putObj W5.heap.size (.deferred none)).output=W6.output:=⟨rfl,rfl,rfl⟩
    generalize W6.putObj W5.heap.size (.deferred none)=W8 at *;have h88:=(hot8 (n0+3) (by omega)).trans h66;have z0:W8.cell? ⟨n0+3,0,none⟩=some x0:=aB h88 rfl;have z1:W8.cell? ⟨n0+3,1,none⟩=some x1:=aB h88 rfl;have z2:W8.cell? ⟨n0+3,2,none⟩=some x2:=aB h88 rfl;refine ⟨.tuple #[.agg #[x0,x1,x2], .int .i64 0],?_,⟨ho8.1.trans (h6w.1.trans (hos.trans hb5'.os)),ho8.2.1.trans (h6w.2.1.trans (htape.trans hb5'.tape)),ho8.2.2.trans (h6w.2.2.trans (hout.trans hb5'.output)),by omega,fun j hj=>(hot8 j (by omega)).trans ((h6o j (by omega)).trans ((hblk j (by omega) (by omega)).trans (hb5'.block j (by omega))))⟩,[.agg #[x0,x1,x2], .int .i64 0],rfl,⟨_,rfl,hxr.mono fun b x hb hx hxc=>⟨fun h=>hb (.inl (by rw [hM3];exact .inl (.inl h))),(hot8 b fun e=>by subst e;rw [hD] at hx;cases hx;cases hxc).trans ((h6o b fun e=>hb (.inl (by rw [hM3,e];exact .inl (.inr rfl)))).trans hx)⟩⟩,⟨rfl,rfl⟩,trivial⟩;simp [results,show f16.results = #[.cell 6 30, .tmp 7] from rfl,go_sem,z0,z1,z2]
  ·go_simp
   refine hK2 _ _ ?_;clear hK2 K2;refine wpAnyIn_ready (rs:=[0]) (by kernel_rfl) (by simp) ?_;refine AllReadyIn.cons rfl (fun K2 hK2=>?_) AllReadyIn.nil
   go_simp
   refine hK2 _ _ ?_;clear hK2 K2;refine wpAnyIn_ready (rs:=[2]) (by kernel_rfl) (by simp) ?_;refine AllReadyIn.cons rfl (fun K2 hK2=>?_) AllReadyIn.nil
   go_simp
   try rw [hst]
   try dsimp only [Result.andThen_ok]
   try go_simp
   refine hK2 _ _ ?_;clear hK2 K2;refine wpAnyIn_ready (rs:=[3]) (by kernel_rfl) (by simp) ?_;refine AllReadyIn.cons rfl (fun K2 hK2=>?_) AllReadyIn.nil
   go_simp
   refine hK2 _ _ ?_;clear hK2 K2;refine wpAnyIn_done (by kernel_rfl) ?_ _;refine hK _ _ ?_
   gi_wp2
   refine ⟨by simp, .inl ⟨_,_,rfl,run_takeDeferred ((h6o _ (by omega)).trans hD),?_⟩⟩;have hot8:∀ j,j≠W5.heap.size→(W6.putObj W5.heap.size (.deferred none)).heap[j]? = W6.heap[j]?:=fun j hj=>World.putObj_heap_other hj;have hs8:(W6.putObj W5.heap.size (.deferred none)).heap.size=W6.heap.size:=World.putObj_size;have ho8:(W6.putObj W5.heap.size (.deferred none)).os=W6.os∧(W6.putObj W5.heap.size (.deferred none)).tape=W6.tape∧(W6.putObj W5.heap.size (.deferred none)).output=W6.output:=⟨rfl,rfl,rfl⟩
   generalize W6.putObj W5.heap.size (.deferred none)=W8 at *;have h88:=(hot8 (n0+3) (by omega)).trans h66;have z0:W8.cell? ⟨n0+3,0,none⟩=some x0:=aB h88 rfl;have z1:W8.cell? ⟨n0+3,1,none⟩=some x1:=aB h88 rfl;have z2:W8.cell? ⟨n0+3,2,none⟩=some x2:=aB h88 rfl;refine ⟨.tuple #[.agg #[x0,x1,x2], .int .i64 0],?_,⟨ho8.1.trans (h6w.1.trans (hos.trans hb5'.os)),ho8.2.1.trans (h6w.2.1.trans (htape.trans hb5'.tape)),ho8.2.2.trans (h6w.2.2.trans (hout.trans hb5'.output)),by omega,fun j hj=>(hot8 j (by omega)).trans ((h6o j (by omega)).trans ((hblk j (by omega) (by omega)).trans (hb5'.block j (by omega))))⟩,[.agg #[x0,x1,x2], .int .i64 0],rfl,⟨_,rfl,hxr.mono fun b x hb hx hxc=>⟨fun h=>hb (.inl (by rw [hM3];exact .inl (.inl h))),(hot8 b fun e=>by subst e;rw [hD] at hx;cases hx;cases hxc).trans ((h6o b fun e=>hb (.inl (by rw [hM3,e];exact .inl (.inr rfl)))).trans hx)⟩⟩,⟨rfl,rfl⟩,trivial⟩;simp [results,show f16.results = #[.cell 6 30, .tmp 7] from rfl,go_sem,z0,z1,z2]
set_option maxRecDepth 100000 in
set_option maxHeartbeats 1000000 in
theorem Jw (kind n A:Nat) (r:Rat) (hr0:0<r) (hr:Fit A r) (hq:((1:Int):Rat)≤rP kind (cG kind n) r) (h1:1≤kind:=by omega) (h6:kind≤6:=by omega) (hn:n≤42:=by omega) (hA1:1≤A:=by omega) (hA:A≤1000000:=by omega) :
  aL prog 16 [.one (.int .u8 (kind:Int)), .one (.int .i64 (n:Int)),qT r] (.ret [qT 0, .one (.int .i64 11)]):=by
 obtain ⟨hz,hne,hR43⟩:=vE kind h6 n hn h1;have hle:=Ll kind n;obtain ⟨R,hR⟩:∃ R,R=cG kind n:=⟨_,rfl⟩
 rw [←hR] at hz hne hR43 hle hq;have hS:=bB r;rw [Int.sign_eq_one_of_pos (show 0<r.num from (Int.lt_iff_le_and_ne.2 ⟨Rat.num_nonneg.2 (by grind),fun e=>by rw [Rat.num_eq_zero.1 e.symm] at hr0;exact absurd hr0 (by decide)⟩))] at hS;refine ⟨enters_of func16 (by kernel_rfl) rfl,fun M w vs hM hv=>?_⟩
 match vs,hv with
 | [],hv=>exact hv.elim
 | [_],hv=>exact hv.2.elim
 | [_,_],hv=>exact hv.2.2.elim
 | _::_::_::_::_,hv=>exact hv.2.2.2.elim
 | [w0,w1,w2],hv=>
 obtain ⟨⟨rfl,_⟩,⟨rfl,_⟩,hrs,_⟩:=hv;obtain ⟨v0,v1,v2,hpk,hr3⟩:=UG (show bX M w [qT r] [w2] from ⟨hrs,trivial⟩);obtain rfl:w2 = .agg #[v0,v1,v2]:=hpk;have hone:=hr3.one;refine (callsIn_wide (n:=1001)).1 ?_;refine callsIn_of_wp_marks func16 rfl trivial ?_ rfl;simp only [ntmps16,List.size_toArray,List.length_cons,List.length_nil,Nat.reduceAdd,Nat.reduceSub,Array.replicate_succ,Array.replicate_zero,List.push_toArray,List.append_toArray,List.nil_append,List.cons_append];obtain ⟨n0,hn0⟩:∃ n0,w.heap.size=n0:=⟨_,rfl⟩
 obtain ⟨W0,hW0⟩:∃ W0,((((w.alloc (.cells #[.int .u8 (kind:Int)] 5)).alloc (.cells #[.int .i64 (n:Int)] 3)).alloc (.cells #[v0,v1,v2] 30)).alloc (.cells #[.slice none 0 0, .bool false, .slice none 0 0] 30))=W0:=⟨_,rfl⟩
 have hs0:n0+4=W0.heap.size:=by rw [←hW0];simp [hn0]
 have hb0:Below n0 w W0:=by
  rw [←hW0];exact ((((Below.refl _ w).alloc (by omega) _).alloc (by simp;omega) _).alloc (by simp;omega) _).alloc (by simp;omega) _
 have hk0:W0.heap[n0]? = some (.cells #[.int .u8 (kind:Int)] 5 (0,0)):=by rw [←hW0,heap_alloc_old _ _ _ (by simp;omega),heap_alloc_old _ _ _ (by simp;omega),heap_alloc_old _ _ _ (by simp;omega),←hn0];exact heap_alloc_new w _
 have hc0:W0.heap[n0+1]? = some (.cells #[.int .i64 (n:Int)] 3 (0,0)):=by
  rw [←hW0,heap_alloc_old _ _ _ (by simp;omega),heap_alloc_old _ _ _ (by simp;omega)];have:=heap_alloc_new (w.alloc (.cells #[.int .u8 (kind:Int)] 5)) (.cells #[.int .i64 (n:Int)] 3);rw [World.size_alloc,hn0] at this;exact this
 have hr0':W0.heap[n0+2]? = some (.cells #[v0,v1,v2] 30 (0,0)):=by
  rw [←hW0,heap_alloc_old _ _ _ (by simp;omega)];have:=heap_alloc_new ((w.alloc (.cells #[.int .u8 (kind:Int)] 5)).alloc (.cells #[.int .i64 (n:Int)] 3)) (.cells #[v0,v1,v2] 30);rw [World.size_alloc,World.size_alloc,hn0] at this;exact this
 have ht0:W0.heap[n0+3]? = some (.cells #[.slice none 0 0, .bool false, .slice none 0 0] 30 (0,0)):=by
  rw [←hW0];have:=heap_alloc_new (((w.alloc (.cells #[.int .u8 (kind:Int)] 5)).alloc (.cells #[.int .i64 (n:Int)] 3)).alloc (.cells #[v0,v1,v2] 30)) (.cells #[.slice none 0 0, .bool false, .slice none 0 0] 30);rw [World.size_alloc,World.size_alloc,World.size_alloc,hn0] at this;exact this
 have c0:W0.cell? ⟨n0,0,none⟩=some (.int .u8 (kind:Int)):=aB hk0 rfl;have c1:W0.cell? ⟨n0+1,0,none⟩=some (.int .i64 (n:Int)):=aB hc0 rfl
 gi_wp2
 simp only [Nat.add_assoc,Nat.reduceAdd];have hlow:∀ b,M b→b<n0:=fun b hb=>by have:=hM.1 b hb;omega
 have iU:∀ W',Below n0 w W'→Fine M W':=fun W' h=>⟨fun b hb=>by have:=hM.1 b hb;have:=h.size;omega,hM.2.cR (aY.below (hn0▸h))⟩
 refine ⟨trivial,?_⟩;refine (callsIn_wide.2 (Ii h1 h6 (iU W0 hb0))).mono ?_;rintro e W1 ⟨hb1,sv,rfl,hso⟩;have hs1:=hb1.size;have hb1':Below n0 w W1:=hb0.trans (hb1.mono (by omega));have hr1:=(hb1.block (n0+2) (by omega)).trans hr0';have f0:W1.cell? ⟨n0+2,0,none⟩=some v0:=aB hr1 rfl;have f1:W1.cell? ⟨n0+2,1,none⟩=some v1:=aB hr1 rfl;have f2:W1.cell? ⟨n0+2,2,none⟩=some v2:=aB hr1 rfl;dsimp only
 gi_wp2
 refine ⟨trivial,?_⟩;refine (callsIn_wide.2 (pT hS (iU W1 hb1') (vs:=[.agg #[v0,v1,v2]]) ⟨⟨_,rfl,hr3.mono (aY.below (hn0▸hb1'))⟩,trivial⟩)).mono ?_;rintro e W2 ⟨hb2,rfl⟩;have hs2:=hb2.size;have hb2':Below n0 w W2:=hb1'.trans (hb2.mono (by omega));have hk2:=(hb2.block n0 (by omega)).trans ((hb1.block n0 (by omega)).trans hk0);have hc2:=(hb2.block (n0+1) (by omega)).trans ((hb1.block (n0+1) (by omega)).trans hc0);have hr2:=(hb2.block (n0+2) (by omega)).trans hr1;have ht2:=(hb2.block (n0+3) (by omega)).trans ((hb1.block (n0+3) (by omega)).trans ht0);obtain ⟨n2,hn2⟩:∃ n2,W2.heap.size=n2:=⟨_,rfl⟩
 obtain ⟨W3,hW3⟩:∃ W3,((W2.alloc (.cells #[.slice none 0 0, .bool false, .slice none 0 0] 30)).alloc (.cells #[.int .i64 0] 40))=W3:=⟨_,rfl⟩
 have hs3:n2+2=W3.heap.size:=by rw [←hW3];simp [hn2]
 have hb3:Below n2 W2 W3:=by
  rw [←hW3];exact ((Below.refl _ W2).alloc (by omega) _).alloc (by simp;omega) _
 have ho3:W3.heap[n2]? = some (.cells #[.slice none 0 0, .bool false, .slice none 0 0] 30 (0,0)):=by rw [←hW3,heap_alloc_old _ _ _ (by simp;omega),←hn2];exact heap_alloc_new W2 _
 have he3:W3.heap[n2+1]? = some (.cells #[.int .i64 0] 40 (0,0)):=by
  rw [←hW3];have:=heap_alloc_new (W2.alloc (.cells #[.slice none 0 0, .bool false, .slice none 0 0] 30)) (.cells #[.int .i64 0] 40);rw [World.size_alloc,hn2] at this;exact this
 have hk3:=(hb3.block n0 (by omega)).trans hk2;have e3:W3.cell? ⟨n2+1,0,none⟩=some (.int .i64 0):=aB he3 rfl;have g3:W3.frozen? ⟨n2+1,0,none⟩=false:=AZ he3 0;have hW4:=setCell_eq_setRow W3 (n2+1) 0 #[.int .i64 0] 40 (0,0) (.int .i64 0) he3;have he4:(W3.setCell ⟨n2+1,0,none⟩ (.int .i64 0)).heap[n2+1]? = some (.cells #[.int .i64 0] 40 (0,0)):=by rw [hW4];exact setRow_heap _ _ _ _ _ _ he3
 have hb4:Below n2 W3 (W3.setCell ⟨n2+1,0,none⟩ (.int .i64 0)):=by rw [hW4];exact below_setRow (Below.refl _ _) _
 have ho4:(W3.setCell ⟨n2+1,0,none⟩ (.int .i64 0)).heap[n2]? = some (.cells #[.slice none 0 0, .bool false, .slice none 0 0] 30 (0,0)):=by rw [hW4,setRow_other _ _ _ _ (by omega)];exact ho3
 have hs4:W3.heap.size=(W3.setCell ⟨n2+1,0,none⟩ (.int .i64 0)).heap.size:=by rw [hW4];simp [World.setRow]
 have c3:(W3.setCell ⟨n2+1,0,none⟩ (.int .i64 0)).cell? ⟨n0,0,none⟩=some (.int .u8 (kind:Int)):=aB ((hb4.block n0 (by omega)).trans hk3) rfl;clear hW4;dsimp only
 gi_wp2
 generalize W3.setCell ⟨n2+1,0,none⟩ (.int .i64 0)=W4 at *;have hb4':Below n0 w W4:=hb2'.trans ((hb3.mono (by omega)).trans (hb4.mono (by omega)));have hk4:=(hb4.block n0 (by omega)).trans hk3;have hc4:=(hb4.block (n0+1) (by omega)).trans ((hb3.block (n0+1) (by omega)).trans hc2);have hr4:=(hb4.block (n0+2) (by omega)).trans ((hb3.block (n0+2) (by omega)).trans hr2);have ht4:=(hb4.block (n0+3) (by omega)).trans ((hb3.block (n0+3) (by omega)).trans ht2);obtain ⟨M3,hM3⟩:∃ M3:Nat→Prop,M3=fun b=>Mg M (n0+3) b∨b=(n2+1):=⟨_,rfl⟩
 have m3:∀ b,M3 b→b<n0∨b=n0+3∨b=(n2+1):=fun b h=>by
  rw [hM3] at h;rcases h with (h | h) | h
  ·exact .inl (hlow b h)
  ·exact .inr (.inl h)
  ·exact .inr (.inr h)
 have hkM:aY M w M3 W4:=fun b o hb ho _=>by
  have hlt:=(eF.1 ho).1;refine ⟨fun h=>?_,(hb4'.block b (by omega)).trans ho⟩;rw [hM3] at h;rcases h with (h | h) | h
  ·exact hb h
  ·omega
  ·omega
 have hF4:Fine M3 W4:=⟨fun b hb=>by have:=m3 b hb;omega,hM.2.cR hkM⟩
 refine ⟨trivial,?_⟩;refine (callsIn_wide.2 (NN (jB kind) hF4 (vs:=[.int .u8 (kind:Int)]) ⟨⟨rfl,rfl⟩,trivial⟩)).mono ?_;rintro e W5 ⟨hb5,vp,rfl,hvp⟩;have hs5:=hb5.size;have hb5':Below n0 w W5:=hb4'.trans (hb5.mono (by omega));have hk5:=(hb5.block n0 (by omega)).trans hk4;have hc5:=(hb5.block (n0+1) (by omega)).trans hc4;have hr5:=(hb5.block (n0+2) (by omega)).trans hr4;have ht5:=(hb5.block (n0+3) (by omega)).trans ht4;have ho5:=(hb5.block n2 (by omega)).trans ho4;have he5:=(hb5.block (n2+1) (by omega)).trans he4;have hF5:Fine M3 W5:=⟨fun b hb=>by have:=hF4.1 b hb;omega,hF4.2.cR (aY.below hb5)⟩
 have hrr5:=(hr3.mono hkM).mono (aY.below hb5);have hnm:∀ j,n0≤j→j<n0+3→¬ M3 j:=fun j h1 h2 h=>by have:=m3 j h;omega
 dsimp only
 gi_wp2
 refine EG M3 kind R h1 h6 hR43 (o:=(n2+1)) (T:=40) (p1:=32) (p2:=33) (id:=0) (cs:=fun i=>if i≤R then [.exact (.int .i64 0)] else [.int .i64 11])
  (tf:=fun i x b=>#[.int .u8 (kind:Int), .int .i64 (n:Int), .agg #[v0,v1,v2], .pointer (some ⟨n0,0,none⟩), .pointer (some ⟨n0+1,0,none⟩), .pointer (some ⟨n0+2,0,none⟩), .pointer (some ⟨n0+3,0,none⟩), .int .i64 0,sv, .int .i64 0, .pointer (some ⟨n2,0,none⟩), .pointer (some ⟨n2+1,0,none⟩), .int .i64 (i:Int), .pointer (some ⟨b,0,none⟩),undef,undef, .tuple #[sv, .int .i64 0], .int .u8 (kind:Int), .int .i64 (n:Int), .tuple #[sv, .int .i64 0],sv, .int .i64 0, .int .i64 0, .bool false,undef,undef, .agg #[v0,v1,v2], .int .i64 1, .bool false,undef, .int .u8 (kind:Int), .func (.func 117) #[] #[vp], .int .i64 (i:Int),x,undef,undef,undef,undef,undef,undef,undef,undef,undef,undef,undef,undef,undef,undef,undef,undef,undef,undef,undef,undef,undef,undef,undef,undef,undef,undef,undef,undef,undef,undef,undef,undef,undef,undef,undef,undef,undef,undef,undef,undef,undef,undef,undef,undef,undef,undef,undef])
  hF5 hvp rfl (by rw [hM3];exact .inr rfl) (cur0:=#[.int .i64 0]) he5 (by rw [if_pos (eS _)];exact ⟨⟨rfl,rfl⟩,trivial⟩) ?_ ?_ ?_ ?_
 ·intro M' W vs h;rw [if_pos (eS _)] at h ⊢;exact OD h
 ·intro l i u0 u1 u2 W K hone' hK
  gi_wp2
  obtain ⟨W',hW',e'⟩:=iI (W:=W) (hone' u0 (by simp)) (hone' u1 (by simp)) (hone' u2 (by simp));rw [e'];rw [hW'] at hK
  gi_wp2
  exact hK
 ·intro i hi l g W cur b x Q hq' hgw hFW hkp hcu hcr hp hQ;have hkeepb:∀ j,n0≤j→j<n0+3→¬ Mg M3 g j:=fun j h1 h2 h=>h.elim (hnm j h1 h2) (by omega);have hkv:(aN.cJ [.int .u8 (kind:Int)]).rep (Mg M3 g) W (.pointer (some ⟨n0,0,none⟩)):=⟨n0,0,#[.int .u8 (kind:Int)],5,(0,0),rfl,hkeepb n0 (by omega) (by omega),(hkp _ _ (hnm n0 (by omega) (by omega)) hk5 rfl).2,⟨rfl,rfl⟩,trivial⟩
  have hnv:(aN.cJ [.int .i64 (n:Int)]).rep (Mg M3 g) W (.pointer (some ⟨n0+1,0,none⟩)):=⟨n0+1,0,#[.int .i64 (n:Int)],3,(0,0),rfl,hkeepb _ (by omega) (by omega),(hkp _ _ (hnm _ (by omega) (by omega)) hc5 rfl).2,⟨rfl,rfl⟩,trivial⟩
  have hrv:(aN.cJ (qC r)).rep (Mg M3 g) W (.pointer (some ⟨n0+2,0,none⟩)):=⟨n0+2,0,#[v0,v1,v2],30,(0,0),rfl,hkeepb _ (by omega) (by omega),(hkp _ _ (hnm _ (by omega) (by omega)) hr5 rfl).2,by simpa using hrr5.mono hkp⟩
  rw [if_pos hi] at hcr;by_cases hlt:i<R
  ·rw [if_pos hlt,if_pos (show i+1≤R by omega)] at hQ
   refine gU (N:=81) (t0:=11) (T:=40) (n:=1) (want:=0) (g:=(n2+1)) (cur:=cur) (ins:=[(3, .ref 1),(4, .ref 1),(5, .ref 3),(12, .v none),(13, .ref 3)]) (xs:=[.ref [.int .u8 (kind:Int)], .ref [.int .i64 (n:Int)], .ref (qC r), .v (.one (.int .i64 (i:Int))), .ref (qC (xP kind i))]) fo ⟨rfl,rfl,rfl,rfl,rfl,trivial⟩
    (ad7 kind n i r [.exact (.int .i64 0)] (by rcases Nat.lt_or_ge i n with h | h<;>first | exact .inl h | exact .inr (hz i hlt h))) (by kernel_rfl) (by kernel_rfl) hq' hFW (.inl (by rw [hM3];exact .inr rfl)) rfl rfl rfl (by omega) ⟨hkv,hnv,hrv,⟨rfl,rfl⟩,hp,trivial⟩ rfl hcu hcr ?_
   intro a' W' us cur' hg _ _ _ hc' _ hr';exact hQ a' W' cur' hg hc' hr'
  ·obtain rfl:i=R:=by omega
   rw [if_neg hlt,if_neg (show ¬ i+1≤i by omega)] at hQ
   refine gU (N:=81) (t0:=11) (T:=40) (n:=1) (want:=1) (g:=(n2+1)) (cur:=cur) (ins:=[(3, .ref 1),(4, .ref 1),(5, .ref 3),(12, .v none),(13, .ref 3)]) (xs:=[.ref [.int .u8 (kind:Int)], .ref [.int .i64 (n:Int)], .ref (qC r), .v (.one (.int .i64 (i:Int))), .ref (qC (xP kind i))]) fo ⟨rfl,rfl,rfl,rfl,rfl,trivial⟩
    (ak6 kind n i A r [.exact (.int .i64 0)] rfl hle hR43 h6 hne hr hA1 hA hq) (by kernel_rfl) (by kernel_rfl) hq' hFW (.inl (by rw [hM3];exact .inr rfl)) rfl rfl rfl (by omega) ⟨hkv,hnv,hrv,⟨rfl,rfl⟩,hp,trivial⟩ rfl hcu hcr ?_
   intro a' W' us cur' hg _ _ _ hc' _ hr';exact hQ a' W' cur' hg hc' hr'
 ·intro W cur g hgw hos htape hout hsz hblk hD hcu hcr;rw [if_neg (by omega)] at hcr;have ht6:=(hblk (n0+3) (by omega) (by omega)).trans ht5
  obtain ⟨x0,x1,x2,ez,hX,hE,hxr⟩:∃ x0 x1 x2 ez,W.heap[n2]? = some (.cells #[x0,x1,x2] 30 (0,0))∧W.heap[n2+1]? = some (.cells #[.int .i64 ez] 40 (0,0))∧ez=11∧aP (Mg M3 g) W (qC 0) [x0,x1,x2]:=by
   obtain ⟨u,hu⟩:=UB (show cur.toList.length=1 from hcr.length.symm);obtain rfl:cur = #[u]:=by rw [←Array.toArray_toList (xs:=cur),hu]
   obtain ⟨rfl,_⟩:u = .int .i64 11∧_:=hcr.1;exact ⟨_,_,_,11,(hblk n2 (by omega) (by omega)).trans ho5,hcu,rfl,MO ⟨⟨rfl,rfl⟩,⟨rfl,rfl⟩,⟨rfl,rfl⟩,trivial⟩⟩
  obtain ⟨rfl,hxr⟩:=hxr;have hxo:=hxr.one;have gen:∀ (W6:World),Below W5.heap.size W W6→W6.heap[n0+3]? = some (.cells #[x0,x1,x2] 30 (0,0))→True:=fun _ _ _=>trivial;rename_i K hK;refine (show Exit.inBlock 0 (Exit.then K _) (.exit 0) _ _ from hK _ _ ?_);clear hK K gen;refine wpIn_seq_k fun K hK=>wpIn_region_any (by kernel_rfl) ?_;obtain ⟨Wd,hWd⟩:∃ Wd:World,{ W with drawn:=W.drawn+1 } = Wd:=⟨_,rfl⟩
  have hd:Wd.heap=W.heap∧Wd.os=W.os∧Wd.tape=W.tape∧Wd.output=W.output:=by rw [←hWd];exact ⟨rfl,rfl,rfl,rfl⟩
  rw [hWd];clear hWd;have hXd:Wd.heap[n2]? = some (.cells #[x0,x1,x2] 30 (0,0)):=by rw [hd.1];exact hX
  have hEd:Wd.heap[n2+1]? = some (.cells #[.int .i64 11] 40 (0,0)):=by rw [hd.1];exact hE
  have hTd:Wd.heap[n0+3]? = some (.cells #[.slice none 0 0, .bool false, .slice none 0 0] 30 (0,0)):=by rw [hd.1];exact ht6
  have k0:Wd.cell? ⟨n2,0,none⟩=some x0:=aB hXd rfl;have k1:Wd.cell? ⟨n2,1,none⟩=some x1:=aB hXd rfl;have k2:Wd.cell? ⟨n2,2,none⟩=some x2:=aB hXd rfl;have k3:Wd.cell? ⟨n2+1,0,none⟩=some (.int .i64 11):=aB hEd rfl;have hst:=IM (P:=prog) hTd (hxo x0 (by simp)) (hxo x1 (by simp)) (hxo x2 (by simp));obtain ⟨W6,hW6⟩:∃ W6,Wd.setRow (n0+3) #[x0,x1,x2]=W6:=⟨_,rfl⟩
  have h66:W6.heap[n0+3]? = some (.cells #[x0,x1,x2] 30 (0,0)):=by rw [←hW6];exact setRow_heap _ _ _ _ _ _ hTd
  have h6o:∀ j,j≠n0+3→W6.heap[j]? = W.heap[j]?:=fun j hj=>by rw [←hW6,setRow_other _ _ _ _ hj,hd.1]
  have h6s:W6.heap.size=W.heap.size:=by rw [←hW6,←hd.1];simp [World.setRow]
  have h6w:W6.os=W.os∧W6.tape=W.tape∧W6.output=W.output:=by rw [←hW6];exact hd.2
  rw [hW6] at hst;clear hW6;have k6:W6.cell? ⟨n2+1,0,none⟩=some (.int .i64 11):=aB ((h6o _ (by omega)).trans hE) rfl;refine wpAnyIn_ready (rs:=[0,1]) (by kernel_rfl) (by simp) ?_;refine AllReadyIn.cons rfl (fun K2 hK2=>?_) (AllReadyIn.cons rfl (fun K2 hK2=>?_) AllReadyIn.nil)
  ·go_simp
   refine hK2 _ _ ?_;clear hK2 K2;refine wpAnyIn_ready (rs:=[1,2]) (by kernel_rfl) (by simp) ?_;refine AllReadyIn.cons rfl (fun K2 hK2=>?_) (AllReadyIn.cons rfl (fun K2 hK2=>?_) AllReadyIn.nil)
   ·go_simp
    refine hK2 _ _ ?_;clear hK2 K2;refine wpAnyIn_ready (rs:=[2]) (by kernel_rfl) (by simp) ?_;refine AllReadyIn.cons rfl (fun K2 hK2=>?_) AllReadyIn.nil
    go_simp
    try rw [hst]
    try dsimp only [Result.andThen_ok]
    try go_simp
    refine hK2 _ _ ?_;clear hK2 K2;refine wpAnyIn_ready (rs:=[3]) (by kernel_rfl) (by simp) ?_;refine AllReadyIn.cons rfl (fun K2 hK2=>?_) AllReadyIn.nil
    go_simp
    refine hK2 _ _ ?_;clear hK2 K2;refine wpAnyIn_done (by kernel_rfl) ?_ _;refine hK _ _ ?_
    gi_wp2
    refine ⟨by simp, .inl ⟨_,_,rfl,run_takeDeferred ((h6o _ (by omega)).trans hD),?_⟩⟩;have hot8:∀ j,j≠W5.heap.size→(W6.putObj W5.heap.size (.deferred none)).heap[j]? = W6.heap[j]?:=fun j hj=>World.putObj_heap_other hj;have hs8:(W6.putObj W5.heap.size (.deferred none)).heap.size=W6.heap.size:=World.putObj_size;have ho8:(W6.putObj W5.heap.size (.deferred none)).os=W6.os∧(W6.putObj W5.heap.size (.deferred none)).tape=W6.tape∧(W6.putObj W5.heap.size (.deferred none)).output=W6.output:=⟨rfl,rfl,rfl⟩
    generalize W6.putObj W5.heap.size (.deferred none)=W8 at *;have h88:=(hot8 (n0+3) (by omega)).trans h66;have z0:W8.cell? ⟨n0+3,0,none⟩=some x0:=aB h88 rfl;have z1:W8.cell? ⟨n0+3,1,none⟩=some x1:=aB h88 rfl;have z2:W8.cell? ⟨n0+3,2,none⟩=some x2:=aB h88 rfl;refine ⟨.tuple #[.agg #[x0,x1,x2], .int .i64 11],?_,⟨ho8.1.trans (h6w.1.trans (hos.trans hb5'.os)),ho8.2.1.trans (h6w.2.1.trans (htape.trans hb5'.tape)),ho8.2.2.trans (h6w.2.2.trans (hout.trans hb5'.output)),by omega,fun j hj=>(hot8 j (by omega)).trans ((h6o j (by omega)).trans ((hblk j (by omega) (by omega)).trans (hb5'.block j (by omega))))⟩,[.agg #[x0,x1,x2], .int .i64 11],rfl,⟨_,rfl,hxr.mono fun b x hb hx hxc=>⟨fun h=>hb (.inl (by rw [hM3];exact .inl (.inl h))),(hot8 b fun e=>by subst e;rw [hD] at hx;cases hx;cases hxc).trans ((h6o b fun e=>hb (.inl (by rw [hM3,e];exact .inl (.inr rfl)))).trans hx)⟩⟩,⟨rfl,rfl⟩,trivial⟩;simp [results,show f16.results = #[.cell 6 30, .tmp 7] from rfl,go_sem,z0,z1,z2]
   ·go_simp
    try rw [hst]
    try dsimp only [Result.andThen_ok]
    try go_simp
    refine hK2 _ _ ?_;clear hK2 K2;refine wpAnyIn_ready (rs:=[1]) (by kernel_rfl) (by simp) ?_;refine AllReadyIn.cons rfl (fun K2 hK2=>?_) AllReadyIn.nil
    go_simp
    refine hK2 _ _ ?_;clear hK2 K2;refine wpAnyIn_ready (rs:=[3]) (by kernel_rfl) (by simp) ?_;refine AllReadyIn.cons rfl (fun K2 hK2=>?_) AllReadyIn.nil
    go_simp
    refine hK2 _ _ ?_;clear hK2 K2;refine wpAnyIn_done (by kernel_rfl) ?_ _;refine hK _ _ ?_
    gi_wp2
    refine ⟨by simp, .inl ⟨_,_,rfl,run_takeDeferred ((h6o _ (by omega)).trans hD),?_⟩⟩;have hot8:∀ j,j≠W5.heap.size→(W6.putObj W5.heap.size (.deferred none)).heap[j]? = W6.heap[j]?:=fun j hj=>World.putObj_heap_other hj;have hs8:(W6.putObj W5.heap.size (.deferred none)).heap.size=W6.heap.size:=World.putObj_size;have ho8:(W6.putObj W5.heap.size (.deferred none)).os=W6.os∧(W6.putObj W5.heap.size (.deferred none)).tape=W6.tape∧(W6.putObj W5.heap.size (.deferred none)).output=W6.output:=⟨rfl,rfl,rfl⟩
    generalize W6.putObj W5.heap.size (.deferred none)=W8 at *;have h88:=(hot8 (n0+3) (by omega)).trans h66;have z0:W8.cell? ⟨n0+3,0,none⟩=some x0:=aB h88 rfl;have z1:W8.cell? ⟨n0+3,1,none⟩=some x1:=aB h88 rfl;have z2:W8.cell? ⟨n0+3,2,none⟩=some x2:=aB h88 rfl;refine ⟨.tuple #[.agg #[x0,x1,x2], .int .i64 11],?_,⟨ho8.1.trans (h6w.1.trans (hos.trans hb5'.os)),ho8.2.1.trans (h6w.2.1.trans (htape.trans hb5'.tape)),ho8.2.2.trans (h6w.2.2.trans (hout.trans hb5'.output)),by omega,fun j hj=>(hot8 j (by omega)).trans ((h6o j (by omega)).trans ((hblk j (by omega) (by omega)).trans (hb5'.block j (by omega))))⟩,[.agg #[x0,x1,x2], .int .i64 11],rfl,⟨_,rfl,hxr.mono fun b x hb hx hxc=>⟨fun h=>hb (.inl (by rw [hM3];exact .inl (.inl h))),(hot8 b fun e=>by subst e;rw [hD] at hx;cases hx;cases hxc).trans ((h6o b fun e=>hb (.inl (by rw [hM3,e];exact .inl (.inr rfl)))).trans hx)⟩⟩,⟨rfl,rfl⟩,trivial⟩;simp [results,show f16.results = #[.cell 6 30, .tmp 7] from rfl,go_sem,z0,z1,z2]
  ·go_simp
   refine hK2 _ _ ?_;clear hK2 K2;refine wpAnyIn_ready (rs:=[0]) (by kernel_rfl) (by simp) ?_;refine AllReadyIn.cons rfl (fun K2 hK2=>?_) AllReadyIn.nil
   go_simp
   refine hK2 _ _ ?_;clear hK2 K2;refine wpAnyIn_ready (rs:=[2]) (by kernel_rfl) (by simp) ?_;refine AllReadyIn.cons rfl (fun K2 hK2=>?_) AllReadyIn.nil
   go_simp
   try rw [hst]
   try dsimp only [Result.andThen_ok]
   try go_simp
   refine hK2 _ _ ?_;clear hK2 K2;refine wpAnyIn_ready (rs:=[3]) (by kernel_rfl) (by simp) ?_;refine AllReadyIn.cons rfl (fun K2 hK2=>?_) AllReadyIn.nil
   go_simp
   refine hK2 _ _ ?_;clear hK2 K2;refine wpAnyIn_done (by kernel_rfl) ?_ _;refine hK _ _ ?_
   gi_wp2
   refine ⟨by simp, .inl ⟨_,_,rfl,run_takeDeferred ((h6o _ (by omega)).trans hD),?_⟩⟩;have hot8:∀ j,j≠W5.heap.size→(W6.putObj W5.heap.size (.deferred none)).heap[j]? = W6.heap[j]?:=fun j hj=>World.putObj_heap_other hj;have hs8:(W6.putObj W5.heap.size (.deferred none)).heap.size=W6.heap.size:=World.putObj_size;have ho8:(W6.putObj W5.heap.size (.deferred none)).os=W6.os∧(W6.putObj W5.heap.size (.deferred none)).tape=W6.tape∧(W6.putObj W5.heap.size (.deferred none)).output=W6.output:=⟨rfl,rfl,rfl⟩
   generalize W6.putObj W5.heap.size (.deferred none)=W8 at *;have h88:=(hot8 (n0+3) (by omega)).trans h66;have z0:W8.cell? ⟨n0+3,0,none⟩=some x0:=aB h88 rfl;have z1:W8.cell? ⟨n0+3,1,none⟩=some x1:=aB h88 rfl;have z2:W8.cell? ⟨n0+3,2,none⟩=some x2:=aB h88 rfl;refine ⟨.tuple #[.agg #[x0,x1,x2], .int .i64 11],?_,⟨ho8.1.trans (h6w.1.trans (hos.trans hb5'.os)),ho8.2.1.trans (h6w.2.1.trans (htape.trans hb5'.tape)),ho8.2.2.trans (h6w.2.2.trans (hout.trans hb5'.output)),by omega,fun j hj=>(hot8 j (by omega)).trans ((h6o j (by omega)).trans ((hblk j (by omega) (by omega)).trans (hb5'.block j (by omega))))⟩,[.agg #[x0,x1,x2], .int .i64 11],rfl,⟨_,rfl,hxr.mono fun b x hb hx hxc=>⟨fun h=>hb (.inl (by rw [hM3];exact .inl (.inl h))),(hot8 b fun e=>by subst e;rw [hD] at hx;cases hx;cases hxc).trans ((h6o b fun e=>hb (.inl (by rw [hM3,e];exact .inl (.inr rfl)))).trans hx)⟩⟩,⟨rfl,rfl⟩,trivial⟩;simp [results,show f16.results = #[.cell 6 30, .tmp 7] from rfl,go_sem,z0,z1,z2]
end Go.Sy
