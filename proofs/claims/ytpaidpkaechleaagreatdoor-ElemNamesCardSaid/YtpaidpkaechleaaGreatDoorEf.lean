/- Part. -/
import Derived.Test.YtpaidpkaechleaaGreatDoorEe
set_option linter.all false
namespace Go.Sy
open Go Go.Proofs Go.RowKit Tryz Ord
attribute [local go_sem] Oper.semAt_some
section
variable {F:Fence} {nF:Nat}
theorem ap3 {ops:Array Oper} {rest:List Oper} {o:Oper} {a:Act} {Q:Exit→Act→World→Prop} {w:World} (hgd:o.guard=none) (s x:Operand)
  (ho:o.op = .call { callee:=.builtin .append,args:=#[s,x],argTypes:=#[52,52] }) (base:Nat) (v:Value) (k:Nat) (xs:List Value) (hs:a.eval s=v) (hown:w.ownsRow base 30 3 v k xs) (b c:Nat) (u0 u1 u2:Value) {fz:Nat×Nat}
  (hb:w.heap[b]? = some (.cells #[u0,u1,u2] 30 fz)) (hx:a.eval x = .slice (some ⟨b,0,none⟩) 1 c) (h1:∀ u ∈ [u0,u1,u2],u.oneCell'=true) (hk:k<1099511627776) (hbase:base≤w.heap.size)
  (h:∀ v' w',w'.ownsRow base 30 3 v' (k+1) (xs ++ [u0,u1,u2])→w.grownBy w' v.ownBlock→(v'.ownBlock=v.ownBlock∨v'.ownBlock=some w.heap.size)→wpListIn F nF prog ops Q rest (a.put o.dst v') w') :
  wpListIn F nF prog ops Q (o::rest) a w:=by
 obtain ⟨ie,hu,hie,hies,hieb⟩:=cW Ll;obtain ⟨ie',zv,hi,hz,hzc,_,hzs⟩:=eY (show lT prog 30=some [.slice none 0 0, .bool false, .slice none 0 0] by kernel_rfl);rw [hie] at hi;simp only [aJ] at hi;subst hi;refine wpListIn_append_own_at w hgd s x 52 ho base 30 ie zv 3 56 hu hie hz hies hieb (by rw [hzs,hies]) (by decide) v k xs hs hown ⟨b,0,none⟩ 1 c [u0,u1,u2] hx rfl ?_ h1 (by simp only [maxLen];omega) (by omega) hbase (fun v' w' h2 h3 _ h5=>h v' w' h2 h3 h5);intro j u hj
 match j,hj with
 | 0,hj=>simp at hj;subst hj;exact aB hb rfl
 | 1,hj=>simp at hj;subst hj;exact aB hb rfl
 | 2,hj=>simp at hj;subst hj;exact aB hb rfl
end
def SZ (kind k:Nat):List Rat:=(List.range k).map (xP kind)
theorem RR (kind k:Nat):SZ kind (k+1)=SZ kind k ++ [xP kind k]:=by rw [SZ,List.range_succ,List.map_append];rfl
theorem VG (kind k:Nat):(SZ kind k).length=k:=by simp [SZ]
abbrev pN (M:Nat→Prop) (n0:Nat) (vo:Value) (b:Nat):Prop:=M b∨vo.ownBlock=some b∨b=n0+1
structure tC (M:Nat→Prop) (w:World) (n0 D l:Nat) (lo:Obj) (kind n g k:Nat) (vo vp:Value) (W:World):Prop where
 wb:Below n0 w W
 big:n0+2≤D∧D<l∧l<W.heap.size
 hD:W.heap[D]? = some (.deferred (some []))
 hl:W.heap[l]? = some lo
 hN:W.heap[n0]? = some (.cells #[.int .i64 (n:Int)] 3 (0,0))
 hO:W.heap[n0+1]? = some (.cells #[vo] 52 (0,0))
 ro:∃ xs,W.ownsRow (n0+2) 30 3 vo k xs∧aM (Mg (pN M n0 vo) g) W (rQ (SZ kind k)).flatten xs
 p:(aL.bI [.int .u8 (kind:Int)]).rep (Mg (pN M n0 vo) g) W vp
 dis:vo.ownBlock≠some g
theorem tC.Mz {M:Nat→Prop} {w:World} {n0 D l:Nat} {lo:Obj} {kind n g k:Nat} {vo vp:Value} {W:World} (I:tC M w n0 D l lo kind n g k vo vp W) (hlo:lo.isCells=false):∀ b,vo.ownBlock=some b→n0+2≤b∧b<W.heap.size∧b≠D∧b≠l:=fun b hb=>by
 obtain ⟨xs,hro,_⟩:=I.ro;have h:=hro.lt b hb;refine ⟨h.1,h.2,?_,?_⟩
 ·rintro rfl;rcases hro.2 with ⟨e,_⟩ | ⟨g',cap,cur,e,_,hh,_⟩
  ·rw [e] at hb;cases hb
  ·rw [e] at hb;simp only [Value.ownBlock,aJ] at hb;subst hb;rw [I.hD] at hh;cases hh
 ·rintro rfl;rcases hro.2 with ⟨e,_⟩ | ⟨g',cap,cur,e,_,hh,_⟩
  ·rw [e] at hb;cases hb
  ·rw [e] at hb;simp only [Value.ownBlock,aJ] at hb;subst hb;rw [I.hl] at hh;cases hh;cases hlo
theorem tC.grown {M:Nat→Prop} {w:World} {n0 D l:Nat} {lo:Obj} {kind n g k:Nat} {vo vp:Value} {W W':World} (I:tC M w n0 D l lo kind n g k vo vp W) (hlo:lo.isCells=false) (hg:l<g) (hb:W.grownBy W' (some g)):tC M w n0 D l lo kind n g k vo vp W':=by
 have h:∀ j,j<W.heap.size→j≠g→W'.heap[j]? = W.heap[j]?:=fun j hj hne=>hb.block j hj fun e=>hne (Option.some.inj e);obtain ⟨xs,hro,hrr⟩:=I.ro;have hbig:=I.big;have hk:=oF (M:=Mg (pN M n0 vo) g) (.inr rfl) hb;have hs:=hb.size;exact ⟨I.wb.trans ⟨hb.os,hb.tape,hb.output,hb.size,fun j hj=>h j (by omega) (by omega)⟩,⟨hbig.1,hbig.2.1,by omega⟩,(h _ (by omega) (by omega)).trans I.hD,(h _ (by omega) (by omega)).trans I.hl,(h _ (by omega) (by omega)).trans I.hN,(h _ (by omega) (by omega)).trans I.hO,⟨xs,gV hro fun b e=>h b (hro.lt b e).2 fun e'=>I.dis (e'▸e),hrr.mono hk⟩,aL.mono _ hk I.p,I.dis⟩
theorem tC.gG {M:Nat→Prop} {w:World} {n0 D l:Nat} {lo:Obj} {kind n g k:Nat} {vo vp:Value} {W:World} (I:tC M w n0 D l lo kind n g k vo vp W) (hw:w.heap.size=n0) (hM:Fine M w) (hg:l<g) (hgl:g<W.heap.size):¬ pN M n0 vo g∧Fine (Mg (pN M n0 vo) g) W:=by
 obtain ⟨xs,hro,_⟩:=I.ro;have hbig:=I.big;have hlow:∀ b,M b→b<n0:=fun b hb=>by have:=hM.1 b hb;omega
 refine ⟨?_,fun b hb=>?_,hM.2.cE fun b o hb ho _=>?_⟩
 ·rintro (h | h | h)
  ·have:=hlow g h;omega
  ·exact I.dis h
  ·omega
 ·rcases hb with (h | h | h) | h
  ·have:=hlow b h;omega
  ·exact (hro.lt b h).2
  ·omega
  ·omega
 ·have hlt:=(dS.1 ho).1;refine ⟨?_,(I.wb.block b (by omega)).trans ho⟩;rintro ((h | h | h) | h)
  ·exact hb h
  ·have:=(hro.lt b h).1;omega
  ·omega
  ·omega
noncomputable def cY:Code×Code:=match f15.body with
 | some (.seq _ (.seq _ (.seq _ (.seq (.seq _ (.block _ (.rangeFunc _ _ a b))) _))))=>(a,b)
 | _=>(.skip, .skip)
theorem tC.loop {M:Nat→Prop} {w:World} {n0 D l:Nat} {lo lo':Obj} {kind n g k:Nat} {vo vp:Value} {W:World} (I:tC M w n0 D l lo kind n g k vo vp W) (hlo:lo.isCells=false):tC M w n0 D l lo' kind n g k vo vp (W.putObj l lo'):=by
 have hp:∀ j,j≠l→(W.putObj l lo').heap[j]? = W.heap[j]?:=fun j hj=>World.putObj_heap_other hj;obtain ⟨xs,hro,hrr⟩:=I.ro;have hbig:=I.big;have hk:aR (Mg (pN M n0 vo) g) W (Mg (pN M n0 vo) g) (W.putObj l lo'):=fun b x hb hx hxc=>⟨hb,(hp b fun e=>by subst e;rw [I.hl] at hx;cases hx;rw [hlo] at hxc;cases hxc).trans hx⟩
 exact ⟨I.wb.trans ⟨rfl,rfl,rfl,by simp [World.putObj_size],fun j hj=>hp j (by omega)⟩,⟨hbig.1,hbig.2.1,by simp only [World.putObj_size];exact hbig.2.2⟩,(hp _ (by omega)).trans I.hD,World.putObj_heap_same hbig.2.2,(hp _ (by omega)).trans I.hN,(hp _ (by omega)).trans I.hO,⟨xs,gV hro fun b e=>hp b (I.Mz hlo b e).2.2.2,hrr.mono hk⟩,aL.mono _ hk I.p,I.dis⟩
theorem tC.new {M:Nat→Prop} {w:World} {n0 D l:Nat} {lo:Obj} {kind n g k:Nat} {vo vp:Value} {W W':World} (I:tC M w n0 D l lo kind n g k vo vp W) (hb:Below W.heap.size W W'):tC M w n0 D l lo kind n g k vo vp W':=by
 obtain ⟨xs,hro,hrr⟩:=I.ro;have hbig:=I.big;have hs:=hb.size;have hk:aR (Mg (pN M n0 vo) g) W (Mg (pN M n0 vo) g) W':=aR.below hb;exact ⟨I.wb.trans (hb.mono (by omega)),⟨hbig.1,hbig.2.1,by omega⟩,(hb.block _ (by omega)).trans I.hD,(hb.block _ hbig.2.2).trans I.hl,(hb.block _ (by omega)).trans I.hN,(hb.block _ (by omega)).trans I.hO,⟨xs,gV hro fun b e=>hb.block b (hro.lt b e).2,hrr.mono hk⟩,aL.mono _ hk I.p,I.dis⟩
def an1 (M:Nat→Prop) (w:World) (n0 D l fn:Nat) (tm:Array Value) (kind n g k:Nat) (vo vp:Value) (W:World) (b:Bool) (c:Option Code) (W':World):Prop:=W.heap.size≤W'.heap.size∧W'.heap[g]? = W.heap[g]? ∧ ((k<n∧b=true∧∃ vo',aR (Mg (pN M n0 vo) g) W (Mg (pN M n0 vo') g) W'∧tC M w n0 D l (.loop (dY fn tm #[25,26] cY.1 cY.2 D .ready none)) kind n g (k+1) vo' vp W') ∨
   (k=n∧b=false∧tC M w n0 D l (.loop (dY fn tm #[25,26] cY.1 cY.2 D .done (some (.exit 1)))) kind n g k vo vp W'))
set_option maxRecDepth 100000 in
set_option maxHeartbeats 1000000 in
theorem OO (M:Nat→Prop) (w:World) (n0 D l fn:Nat) (tm:Array Value) (htm:tm.size=35) (t3:tm.getD 3 Go.undef = .pointer (some ⟨n0,0,none⟩)) (t6:tm.getD 6 Go.undef = .pointer (some ⟨n0+1,0,none⟩))
  (kind n g k:Nat) (hkn:k≤n) (hn:n≤43) (vo vp u0 u1 u2:Value) (W:World) (hgl:g<W.heap.size)
  (I:tC M w n0 D l (.loop (dY fn tm #[25,26] cY.1 cY.2 D .ready none)) kind n g k vo vp W)
  (hu:aM (Mg (pN M n0 vo) g) W (qC (xP kind k)) [u0,u1,u2]) (mm:Nat) (hlg:l<g:=by omega) :
  YieldAt Fence.wide mm prog l #[.int .i64 (k:Int), .agg #[u0,u1,u2]] W fun e W'=>W.heap.size≤W'.heap.size∧W'.heap[g]? = W.heap[g]? ∧
   ((k<n∧e = .returned (.bool true)∧∃ vo',aR (Mg (pN M n0 vo) g) W (Mg (pN M n0 vo') g) W'∧tC M w n0 D l (.loop (dY fn tm #[25,26] cY.1 cY.2 D .ready none)) kind n g (k+1) vo' vp W') ∨
    (k=n∧e = .returned (.bool false)∧tC M w n0 D l (.loop (dY fn tm #[25,26] cY.1 cY.2 D .done (some (.exit 1)))) kind n g k vo vp W')):=by
 have et:=Pb htm;rw [t3,t6] at et;generalize tm.getD 0 Go.undef=x0 at et;generalize tm.getD 1 Go.undef=x1 at et;generalize tm.getD 2 Go.undef=x2 at et;generalize tm.getD 4 Go.undef=x4 at et;generalize tm.getD 5 Go.undef=x5 at et;generalize tm.getD 7 Go.undef=x7 at et;generalize tm.getD 8 Go.undef=x8 at et;generalize tm.getD 9 Go.undef=x9 at et;generalize tm.getD 10 Go.undef=x10 at et;generalize tm.getD 11 Go.undef=x11 at et;generalize tm.getD 12 Go.undef=x12 at et;generalize tm.getD 13 Go.undef=x13 at et;generalize tm.getD 14 Go.undef=x14 at et;generalize tm.getD 15 Go.undef=x15 at et;generalize tm.getD 16 Go.undef=x16 at et;generalize tm.getD 17 Go.undef=x17 at et;generalize tm.getD 18 Go.undef=x18 at et;generalize tm.getD 19 Go.undef=x19 at et;generalize tm.getD 20 Go.undef=x20 at et;generalize tm.getD 21 Go.undef=x21 at et;generalize tm.getD 22 Go.undef=x22 at et;generalize tm.getD 23 Go.undef=x23 at et;generalize tm.getD 24 Go.undef=x24 at et;generalize tm.getD 25 Go.undef=x25 at et;generalize tm.getD 26 Go.undef=x26 at et;generalize tm.getD 27 Go.undef=x27 at et;generalize tm.getD 28 Go.undef=x28 at et;generalize tm.getD 29 Go.undef=x29 at et;generalize tm.getD 30 Go.undef=x30 at et;generalize tm.getD 31 Go.undef=x31 at et;generalize tm.getD 32 Go.undef=x32 at et;generalize tm.getD 33 Go.undef=x33 at et;generalize tm.getD 34 Go.undef=x34 at et;subst et;clear t3 t6 htm
 obtain ⟨fnr,tmr,asr,bdr,hy,hRd⟩:=yM (F:=Fence.wide) (m:=mm) (P:=prog) (args:=#[.int .i64 (k:Int), .agg #[u0,u1,u2]]) (R:=an1 M w n0 D l fn #[x0,x1,x2, .pointer (some ⟨n0,0,none⟩),x4,x5, .pointer (some ⟨n0+1,0,none⟩),x7,x8,x9,x10,x11,x12,x13,x14,x15,x16,x17,x18,x19,x20,x21,x22,x23,x24,x25,x26,x27,x28,x29,x30,x31,x32,x33,x34] kind n g k vo vp W) I.hl rfl trivial (by
  rw [show ∀ (t:Array Value),(#[25,26].zip #[Value.int .i64 (k:Int),Value.agg #[u0,u1,u2]]).foldl (fun t (p,v)=>t.setIfInBounds p v) t=(t.setIfInBounds 25 (.int .i64 (k:Int))).setIfInBounds 26 (.agg #[u0,u1,u2]) from fun t=>by simp];have hone:=hu.one;dsimp only [cY,f15]
  gi_wp2
  obtain ⟨W2,hW2,e2⟩:=gQ (W:=W) (hone u0 (by simp)) (hone u1 (by simp)) (hone u2 (by simp));rw [e2];have hself:=pQ W u0 u1 u2;have hbel:=jG W u0 u1 u2;have hs2:=kH W u0 u1 u2;rw [hW2] at hself hbel hs2;clear hW2 e2;have I2:=I.new hbel
  gi_wp2
  refine ⟨I2.hl,?_⟩;have hbig:=I2.big;generalize hW3:W2.putObj l _=W3;have I3:tC M w n0 D l (.loop (dY fn #[x0,x1,x2, .pointer (some ⟨n0,0,none⟩),x4,x5, .pointer (some ⟨n0+1,0,none⟩),x7,x8,x9,x10,x11,x12,x13,x14,x15,x16,x17,x18,x19,x20,x21,x22,x23,x24,x25,x26,x27,x28,x29,x30,x31,x32,x33,x34] #[25,26] cY.1 cY.2 D .busy none)) kind n g k vo vp W3:=by rw [←hW3];exact I2.loop rfl
  have hput:∀ j,j≠l→W3.heap[j]? = W2.heap[j]?:=fun j hj=>by rw [←hW3];exact World.putObj_heap_other hj
  have hs3:W3.heap.size=W2.heap.size:=by rw [←hW3];exact World.putObj_size
  have hk3:aR (Mg (pN M n0 vo) g) W2 (Mg (pN M n0 vo) g) W3:=fun b x hb hx hxc=>⟨hb,(hput b fun e=>by subst e;rw [I2.hl] at hx;cases hx;cases hxc).trans hx⟩
  have hx3:W3.heap[W.heap.size]? = some (.cells #[u0,u1,u2] 30 (0,0)):=(hput _ (by have:=I.big;omega)).trans hself;have hg3:W3.heap[g]? = W.heap[g]?:=(hput g (by omega)).trans (hbel.block g hgl);clear hW3;have hu3:=(hu.mono (aR.below hbel)).mono hk3;replace hs2:W.heap.size<W2.heap.size:=by omega
  replace hs3:W2.heap.size≤W3.heap.size:=by omega
  have cN:W3.cell? ⟨n0,0,none⟩=some (.int .i64 (n:Int)):=aB I3.hN rfl;have cO:W3.cell? ⟨n0+1,0,none⟩=some vo:=aB I3.hO rfl;have cx0:W3.cell? ⟨W.heap.size,0,none⟩=some u0:=aB hx3 rfl;have cx1:W3.cell? ⟨W.heap.size,1,none⟩=some u1:=aB hx3 rfl;have cx2:W3.cell? ⟨W.heap.size,2,none⟩=some u2:=aB hx3 rfl;have fO:W3.frozen? ⟨n0+1,0,none⟩=false:=zQ I3.hO 0;obtain ⟨xo,hro,hrr⟩:=I3.ro;have hvo1:vo.oneCell'=true:=by rcases hro.2 with ⟨e,_⟩ | ⟨g,cap,cur,e,_⟩<;>rw [e]<;>rfl
  by_cases hkn':k=n
  ·subst hkn';have hsx:W.heap.size≤(W3.putObj l (.loop (dY fn #[x0,x1,x2, .pointer (some ⟨n0,0,none⟩),x4,x5, .pointer (some ⟨n0+1,0,none⟩),x7,x8,x9,x10,x11,x12,x13,x14,x15,x16,x17,x18,x19,x20,x21,x22,x23,x24,x25,x26,x27,x28,x29,x30,x31,x32,x33,x34] #[25,26] cY.1 cY.2 D (.done) (some (.exit 1))))).heap.size:=by simp only [World.putObj_size];omega
   have hgx:(W3.putObj l (.loop (dY fn #[x0,x1,x2, .pointer (some ⟨n0,0,none⟩),x4,x5, .pointer (some ⟨n0+1,0,none⟩),x7,x8,x9,x10,x11,x12,x13,x14,x15,x16,x17,x18,x19,x20,x21,x22,x23,x24,x25,x26,x27,x28,x29,x30,x31,x32,x33,x34] #[25,26] cY.1 cY.2 D (.done) (some (.exit 1))))).heap[g]? = W.heap[g]?:=(World.putObj_heap_other (by omega)).trans hg3
   gi_wp2
   refine ⟨I3.hl,?_⟩;show _∧_∧_;exact ⟨hsx,hgx, .inr ⟨rfl,rfl,I3.loop rfl⟩⟩
  ·have hki:¬ (k:Int)=(n:Int):=by omega
   have hkk:k<1099511627776:=by omega
   have hbase:n0+2≤(W3.alloc (.cells #[u0,u1,u2] 30)).heap.size:=by rw [World.size_alloc];omega
   have hfacts:∀ (v':Value) (W4:World),(W3.alloc (.cells #[u0,u1,u2] 30)).grownBy W4 vo.ownBlock→W4.ownsRow (n0+2) 30 3 v' (k+1) (xo ++ [u0,u1,u2])→W4.heap[n0+1]? = some (.cells #[vo] 52 (0,0))∧∃ g cap,v' = .slice (some ⟨g,0,none⟩) (k+1) cap:=fun v' W4 hg hv=>by
    have hne:∀ j,j<n0+2→some j≠vo.ownBlock:=fun j hj e=>by have:=I3.Mz rfl j e.symm;omega
    exact ⟨(hg.block _ (by rw [World.size_alloc];omega) (hne _ (by omega))).trans ((heap_alloc_old _ _ _ (by omega)).trans I3.hO),ownsRow_succ hv⟩
   gi_wp2_with (gi_at_builtin;refine ap3 rfl _ _ rfl (n0+2) vo k xo rfl (hro.alloc _) W3.heap.size 1 u0 u1 u2 (heap_alloc_new W3 _) rfl hone hkk hbase ?_;intro v' W4 hv4 hg4 hat4;obtain ⟨hO4,g4,cap4,rfl⟩:=hfacts v' W4 hg4 hv4;have cO4:W4.cell? ⟨n0+1,0,none⟩=some vo:=aB hO4 rfl;have fO4:W4.frozen? ⟨n0+1,0,none⟩=false:=zQ hO4 0)
   generalize hv4e:Value.slice (some ⟨g4,0,none⟩) (k+1) cap4=v4 at *;have hl4:∀ j,j<W3.heap.size→vo.ownBlock≠some j→W4.heap[j]? = W3.heap[j]?:=fun j hj hne=>(hg4.block j (by rw [World.size_alloc];omega) fun e=>hne e.symm).trans (heap_alloc_old _ _ _ hj);have hs4:W3.heap.size+1≤W4.heap.size:=by have:=hg4.size;rw [World.size_alloc] at this;exact this
   have hW5:=setCell_eq_setRow W4 (n0+1) 0 #[vo] 52 (0,0) v4 hO4;obtain ⟨W5,hW5'⟩:∃ W5,W4.setCell ⟨n0+1,0,none⟩ v4=W5:=⟨_,rfl⟩
   rw [hW5'] at hW5 ⊢;have hO5:W5.heap[n0+1]? = some (.cells #[v4] 52 (0,0)):=by rw [hW5];exact setRow_heap _ _ _ _ _ _ hO4
   have h5:∀ j,j≠n0+1→W5.heap[j]? = W4.heap[j]?:=fun j hj=>by rw [hW5];exact setRow_other _ _ _ _ hj
   have hs5:W5.heap.size=W4.heap.size:=by rw [hW5];simp [World.setRow]
   have ho5:W5.os=W4.os∧W5.tape=W4.tape∧W5.output=W4.output:=by rw [hW5];exact ⟨rfl,rfl,rfl⟩
   clear hW5 hW5';have hall:∀ j,j<W3.heap.size→j≠n0+1→vo.ownBlock≠some j→W5.heap[j]? = W3.heap[j]?:=fun j hj h1 h2=>(h5 j h1).trans (hl4 j hj h2);have hnb:=I3.Mz rfl;have hb3:=I3.big;have hvD:vo.ownBlock≠some D:=fun e=>(hnb D e).2.2.1 rfl;have hvl:vo.ownBlock≠some l:=fun e=>(hnb l e).2.2.2 rfl
   have hkeep:aR (Mg (pN M n0 vo) g) W3 (Mg (pN M n0 v4) g) W5:=fun b o hb ho _=>by
    have hlt:=(dS.1 ho).1;refine ⟨?_,(hall b hlt (fun e=>hb (.inl (.inr (.inr e)))) (fun e=>hb (.inl (.inr (.inl e))))).trans ho⟩;rintro ((h | h | h) | h)
    ·exact hb (.inl (.inl h))
    ·rcases hat4 with e | e
     ·rw [e] at h;exact hb (.inl (.inr (.inl h)))
     ·rw [e] at h;simp only [World.size_alloc,aJ] at h;omega
    ·exact hb (.inl (.inr (.inr h)))
    ·exact hb (.inr h)
   have hv4b:=hv4.lt;have hv4l:∀ b,v4.ownBlock=some b→b≠n0+1:=fun b hb=>by have:=(hv4b b hb).1;omega
   have hdis4:v4.ownBlock≠some g:=fun e=>by
    rcases hat4 with e2 | e2
    ·rw [e2] at e;exact I3.dis e
    ·rw [e2] at e;simp only [World.size_alloc,aJ] at e;omega
   have I5:tC M w n0 D l (.loop (dY fn #[x0,x1,x2, .pointer (some ⟨n0,0,none⟩),x4,x5, .pointer (some ⟨n0+1,0,none⟩),x7,x8,x9,x10,x11,x12,x13,x14,x15,x16,x17,x18,x19,x20,x21,x22,x23,x24,x25,x26,x27,x28,x29,x30,x31,x32,x33,x34] #[25,26] cY.1 cY.2 D .busy none)) kind n g (k+1) v4 vp W5:=⟨I3.wb.trans ⟨by rw [ho5.1];exact hg4.os,by rw [ho5.2.1];exact hg4.tape,by rw [ho5.2.2];exact hg4.output,by omega,fun j hj=>hall j (by omega) (by omega) (fun e=>by have:=hnb j e;omega)⟩,⟨hb3.1,hb3.2.1,by omega⟩,(hall D (by omega) (by omega) hvD).trans I3.hD,(hall l (by omega) (by omega) hvl).trans I3.hl,(hall n0 (by omega) (by omega) (fun e=>by have:=hnb n0 e;omega)).trans I3.hN,hO5,
    ⟨xo ++ [u0,u1,u2],gV hv4 fun b hb=>h5 b (hv4l b hb),by
     rw [RR,rQ,List.map_append,List.flatten_append];have e:([xP kind k].map qC).flatten=qC (xP kind k):=by simp
     rw [e];exact (hrr.mono hkeep).append (hu3.mono hkeep)⟩,aL.mono _ hkeep I3.p,hdis4⟩
   refine ⟨I5.hl,?_⟩;show _∧_∧_;have I6:tC M w n0 D l (.loop (dY fn #[x0,x1,x2, .pointer (some ⟨n0,0,none⟩),x4,x5, .pointer (some ⟨n0+1,0,none⟩),x7,x8,x9,x10,x11,x12,x13,x14,x15,x16,x17,x18,x19,x20,x21,x22,x23,x24,x25,x26,x27,x28,x29,x30,x31,x32,x33,x34] #[25,26] cY.1 cY.2 D .ready none)) kind n g (k+1) v4 vp (W5.putObj l (.loop (dY fn #[x0,x1,x2, .pointer (some ⟨n0,0,none⟩),x4,x5, .pointer (some ⟨n0+1,0,none⟩),x7,x8,x9,x10,x11,x12,x13,x14,x15,x16,x17,x18,x19,x20,x21,x22,x23,x24,x25,x26,x27,x28,x29,x30,x31,x32,x33,x34] #[25,26] cY.1 cY.2 D .ready none))):=I5.loop rfl;have hk5:aR (Mg (pN M n0 v4) g) W5 (Mg (pN M n0 v4) g) (W5.putObj l (.loop (dY fn #[x0,x1,x2, .pointer (some ⟨n0,0,none⟩),x4,x5, .pointer (some ⟨n0+1,0,none⟩),x7,x8,x9,x10,x11,x12,x13,x14,x15,x16,x17,x18,x19,x20,x21,x22,x23,x24,x25,x26,x27,x28,x29,x30,x31,x32,x33,x34] #[25,26] cY.1 cY.2 D .ready none))):=fun b x hb hx hxc=>⟨hb,(World.putObj_heap_other (fun e=>by subst e;rw [I5.hl] at hx;cases hx;cases hxc)).trans hx⟩
   refine ⟨by rw [World.putObj_size];omega,(World.putObj_heap_other (by omega)).trans ((hall g (by omega) (by omega) I3.dis).trans hg3), .inl ⟨by omega,rfl,v4,(((aR.below hbel).trans hk3).trans hkeep).trans hk5,I6⟩⟩)
 refine ⟨fnr,tmr,asr,bdr,hy,hRd.mono ?_⟩;rintro e W' ⟨b,c,rfl,hr⟩;unfold an1 at hr;obtain ⟨k1,k2,(⟨h1,rfl,h2⟩ | ⟨h1,rfl,h2⟩)⟩:=hr
 ·exact ⟨k1,k2, .inl ⟨h1,rfl,h2⟩⟩
 ·exact ⟨k1,k2, .inr ⟨h1,rfl,h2⟩⟩
end Go.Sy
namespace Go.Sy
open Go Go.Proofs Go.RowKit Tryz Ord
attribute [local go_sem] Oper.semAt_some
def aa0:Tr:=.ret [(.one (.dZ 117 [(.ref 0 [(.u 0 0)])]))]
theorem sM:aN prog f65 (fun _=>none) [.v none]=aa0:=by kernel_rfl
theorem iD (kind:Nat):aD prog 65 [(.one (.int .u8 (kind:Int)):aE)] (.ret [.one (.dZ 117 [.bI [.int .u8 (kind:Int)]])]):=by
 refine bU func65 sM ?_;exact aK rfl
theorem Mh {f:FuncId} {args:List aE} {h:FuncId} {cs:List aL} (hd:aD prog f args (.ret [.one (.dZ h [.bI cs])])) {M:Nat→Prop} {w:World} {vs:List Value} (hM:Fine M w) (hv:bR M w args vs) :
  Calls prog f vs.toArray w fun e w'=>Below w.heap.size w w'∧∃ vp,e = .returned (.func (.func h) #[] #[vp])∧(aL.bI cs).rep M w' vp:=by
 refine (hd.2 M w vs hM hv).mono ?_;rintro e w' ⟨hb,us,rfl,hus⟩
 match us,hus with
 | [],hus=>exact hus.elim
 | _::_::_,hus=>exact hus.2.elim
 | [it],hus=>
   obtain ⟨⟨cvs,rfl,hcv⟩,_⟩:=hus
   match cvs,hcv with
   | [],hcv=>exact hcv.elim
   | _::_::_,hcv=>exact hcv.2.elim
   | [vp],hcv=>exact ⟨hb,vp,rfl,hcv.1⟩
set_option maxRecDepth 100000 in
set_option maxHeartbeats 1000000 in
theorem GR (kind n:Nat) (h1:1≤kind:=by omega) (h6:kind≤6:=by omega) (hn:n≤43:=by omega):aD prog 15 [.one (.int .u8 (kind:Int)), .one (.int .i64 (n:Int))] (.ret [.one (sQ (SZ kind n)), .one (.int .i64 0)]):=by
 refine ⟨enters_of func15 (by kernel_rfl) rfl,fun M w vs hM hv=>?_⟩
 match vs,hv with
 | [],hv=>exact hv.elim
 | [_],hv=>exact hv.2.elim
 | _::_::_::_,hv=>exact hv.2.2.elim
 | [w0,w1],hv=>
 obtain ⟨⟨rfl,_⟩,⟨rfl,_⟩,_⟩:=hv;refine (callsIn_wide (n:=1001)).1 ?_;refine callsIn_of_wp_marks func15 rfl trivial ?_ rfl;simp only [ntmps15,List.size_toArray,List.length_cons,List.length_nil,Nat.reduceAdd,Nat.reduceSub,Array.replicate_succ,Array.replicate_zero,List.push_toArray,List.append_toArray,List.nil_append,List.cons_append];have k1:¬ ((kind:Int)<1):=by omega
 have k2:¬ ((6:Int)<(kind:Int)):=by omega
 have k3:¬ ((n:Int)<0):=by omega
 have k4:¬ ((200:Int)<(n:Int)):=by omega
 obtain ⟨n0,hn0⟩:∃ n0,w.heap.size=n0:=⟨_,rfl⟩
 have cn:(w.alloc (.cells #[.int .i64 (n:Int)] 3)).cell? ⟨n0,0,none⟩=some (.int .i64 (n:Int)):=by rw [←hn0];exact aB (heap_alloc_new w _) rfl
 gi_wp2
 obtain ⟨W0,hW0⟩:∃ W0,((w.alloc (.cells #[.int .i64 (n:Int)] 3)).alloc (.cells #[.slice none 0 0] 52))=W0:=⟨_,rfl⟩
 have hs0:W0.heap.size=n0+2:=by rw [←hW0];simp [hn0]
 have hb0:Below n0 w W0:=by
  rw [←hW0];exact ((Below.refl _ w).alloc (by omega) _).alloc (by simp;omega) _
 have hN0:W0.heap[n0]? = some (.cells #[.int .i64 (n:Int)] 3 (0,0)):=by rw [←hW0,heap_alloc_old _ _ _ (by simp;omega),←hn0];exact heap_alloc_new w _
 have hO0:W0.heap[n0+1]? = some (.cells #[.slice none 0 0] 52 (0,0)):=by
  rw [←hW0];have:=heap_alloc_new (w.alloc (.cells #[.int .i64 (n:Int)] 3)) (.cells #[.slice none 0 0] 52);rw [World.size_alloc,hn0] at this;exact this
 rw [hW0];clear hW0 cn;have hlow:∀ b,M b→b<n0:=fun b hb=>by have:=hM.1 b hb;omega
 have hk1:aR M w (pN M n0 (.slice none 0 0)) W0:=fun b o hb ho _=>by
  have hlt:=(dS.1 ho).1;exact ⟨fun h=>by (rcases h with h | h | h<;>first | exact hb h | omega | cases h),(hb0.block b (by omega)).trans ho⟩
 have hM0:Fine (pN M n0 (.slice none 0 0)) W0:=⟨fun b hb=>by (rcases hb with h | h | h<;>first | (have:=hlow b h;omega) | omega | cases h),hM.2.cE hk1⟩
 refine ⟨trivial,?_⟩;refine (callsIn_wide.2 (Mh (iD kind) hM0 (vs:=[.int .u8 (kind:Int)]) ⟨⟨rfl,rfl⟩,trivial⟩)).mono ?_;rintro e W1 ⟨hb1,vp,rfl,hvp⟩;have hs1:=hb1.size;have hN1:=(hb1.block n0 (by omega)).trans hN0;have hO1:=(hb1.block (n0+1) (by omega)).trans hO0;dsimp only
 gi_wp2
 refine Bw rfl (by omega) (gf:=117) (lb:=#[vp]) rfl trivial (enters_of func117 (by kernel_rfl) rfl) ?_;intro fn D l W2 hfn hD hl hsz2 hb2 hK2 hL2;subst hD hl;obtain ⟨tm,htm,t3,t6,hLr⟩:∃ tm:Array Value,tm.size=35∧tm.getD 3 Go.undef = .pointer (some ⟨n0,0,none⟩)∧tm.getD 6 Go.undef = .pointer (some ⟨n0+1,0,none⟩)∧W2.heap[(W1.heap.size+1)]? = some (.loop (dY fn tm #[25,26] cY.1 cY.2 W1.heap.size .ready none)):=⟨_,rfl,rfl,rfl,hL2⟩
 have htl:=congrArg Loop.tmps (Obj.loop.inj (Option.some.inj (hL2.symm.trans hLr)));dsimp only at htl;have hk2:aR (pN M n0 (.slice none 0 0)) W1 (pN M n0 (.slice none 0 0)) W2:=aR.below hb2;have hM2:Fine (pN M n0 (.slice none 0 0)) W2:=⟨fun b hb=>by have:=hM0.1 b hb;omega,(hM0.2.cE (aR.below hb1)).cE hk2⟩
 refine (Kn (σ:=Value) (fun vo=>pN M n0 vo) (.slice none 0 0) kind n h1 h6 hn (W1.heap.size+1) vp ((W1.heap.size+1)+1) (fun g i vo W=>tC M w n0 W1.heap.size (W1.heap.size+1) (.loop (dY fn tm #[25,26] cY.1 cY.2 W1.heap.size .ready none)) kind n g i vo vp W) (fun W=>∃ g vo,(W1.heap.size+1)<g∧tC M w n0 W1.heap.size (W1.heap.size+1) (.loop (dY fn tm #[25,26] cY.1 cY.2 W1.heap.size .done (some (.exit 1)))) kind n g n vo vp W)
  (fun g i vo W W' hg I hb=>I.grown rfl (by omega) hb) (fun g i vo W hg hgl I=>⟨(I.gG hn0 hM (by omega) hgl).1,(I.gG hn0 hM (by omega) hgl).2,I.p⟩) ?hY W2 (by omega) hM2 ?h0).mono ?_
 case h0=>
  intro g W' hb hg hgl;have hs:=hb.size
  have hk3:aR (pN M n0 (.slice none 0 0)) W2 (Mg (pN M n0 (.slice none 0 0)) g) W':=fun b o hb' ho _=>by
   have hlt:=(dS.1 ho).1;exact ⟨fun h=>h.elim hb' (by omega),(hb.block b hlt).trans ho⟩
  exact ⟨hb0.trans ((hb1.mono (by omega)).trans ((hb2.mono (by omega)).trans (hb.mono (by omega)))),⟨by omega,by omega,by omega⟩,(hb.block _ (by omega)).trans hK2,(hb.block _ (by omega)).trans hLr,(hb.block _ (by omega)).trans ((hb2.block _ (by omega)).trans hN1),(hb.block _ (by omega)).trans ((hb2.block _ (by omega)).trans hO1),⟨[],World.ownsRow_nil _ _ _ _,trivial⟩,aL.mono _ hk3 (aL.mono _ hk2 hvp),by intro h;cases h⟩
 case hY=>
  intro g i vo W u0 u1 u2 hi hg hgl I hu;obtain ⟨fnr,tmr,asr,bdr,hy,hRd⟩:=OO M w n0 W1.heap.size (W1.heap.size+1) fn tm htm t3 t6 kind n g i hi hn vo vp u0 u1 u2 W hgl I hu 999;refine ⟨fnr,tmr,asr,bdr,hy,hRd.mono ?_⟩;rintro e W' ⟨k1,k2,(⟨h1,rfl,vo',h2,h3⟩ | ⟨rfl,rfl,h2⟩)⟩
  ·exact ⟨k1,k2, .inl ⟨h1,rfl,vo',h2,h3⟩⟩
  ·exact ⟨k1,k2, .inr ⟨rfl,rfl,g,vo,by omega,h2⟩⟩
 ·rintro e W3 ⟨hv,g,vo,hlg,I⟩;have hl3:=I.hl;rw [←htl] at hl3;refine ⟨hv, .inr ⟨.exit 1,hl3,wpIn_exit ?_⟩⟩;generalize hW4:W3.putObj (W1.heap.size+1) _=W4;have I4:tC M w n0 W1.heap.size (W1.heap.size+1) (.loop (dY fn tm #[25,26] cY.1 cY.2 W1.heap.size .exhausted (some (.exit 1)))) kind n g n vo vp W4:=by rw [←hW4,←htl];exact I.loop rfl
  clear hW4;have cO:W4.cell? ⟨n0+1,0,none⟩=some vo:=aB I4.hO rfl;dsimp only
  gi_wp2
  have hbig:=I4.big;refine ⟨by simp, .inl ⟨_,_,rfl,run_takeDeferred I4.hD,?_⟩⟩;have hot8:∀ j,j≠W1.heap.size→(W4.putObj W1.heap.size (.deferred none)).heap[j]? = W4.heap[j]?:=fun j hj=>World.putObj_heap_other hj;have hs8:(W4.putObj W1.heap.size (.deferred none)).heap.size=W4.heap.size:=World.putObj_size;have ho8:(W4.putObj W1.heap.size (.deferred none)).os=W4.os∧(W4.putObj W1.heap.size (.deferred none)).tape=W4.tape∧(W4.putObj W1.heap.size (.deferred none)).output=W4.output:=⟨rfl,rfl,rfl⟩
  generalize W4.putObj W1.heap.size (.deferred none)=W8 at *;obtain ⟨xs,hro,hrr⟩:=I4.ro;have hnb:=I4.Mz rfl;have hro8:W8.ownsRow (n0+2) 30 3 vo n xs:=gV hro fun b hb=>hot8 b (hnb b hb).2.2.1;have hrr8:aM (pN M n0 vo) W8 (rQ (SZ kind n)).flatten xs:=hrr.mono fun b o hb ho hoc=>⟨fun h=>hb (.inl h),(hot8 b fun e=>by subst e;rw [I4.hD] at ho;cases ho;cases hoc).trans ho⟩
  have hrep:(sQ (SZ kind n)).rep M W8 vo:=Np (by rw [dL,VG];exact hro8) (fun b hb hm=>by have:=hnb b hb;have:=hlow b hm;omega) (by intro u hu;obtain ⟨_,_,rfl⟩:=yH.1 hu;rfl) (hrr8.mono fun b o hb ho _=>⟨fun h=>hb (.inl h),ho⟩);refine ⟨.tuple #[vo, .int .i64 0],?_,⟨ho8.1.trans I4.wb.os,ho8.2.1.trans I4.wb.tape,ho8.2.2.trans I4.wb.output,by have:=I4.wb.size;omega,fun j hj=>(hot8 j (by omega)).trans (I4.wb.block j (by omega))⟩,[vo, .int .i64 0],rfl,hrep,⟨rfl,rfl⟩,trivial⟩;simp [results,show f15.results = #[.tmp 4, .tmp 5] from rfl,go_sem]
end Go.Sy
namespace Go.Sy
open Go Go.Proofs Tryz Ord
theorem SF {α:Type} {c:List α} (h:c.length=1):∃ a0,c = [a0]:=by
 match c,h with
 | [a0],_=>exact ⟨a0,rfl⟩
theorem mL {a b:Rat}:dM a b≥0↔b≤a:=by
 unfold dM;by_cases h1:a<b
 ·rw [if_pos h1];exact ⟨fun h=>by omega,fun h=>by grind⟩
 ·rw [if_neg h1];by_cases h2:b<a
  ·rw [if_pos h2];exact ⟨fun _=>by grind,fun _=>by omega⟩
  ·rw [if_neg h2];exact ⟨fun _=>by grind,fun _=>by omega⟩
def DY (kind m:Nat) (r:Rat):Rat:=if kind=1 then aZ r (((m:Int)+1:Int):Rat) else if kind=3∨kind=4 then r*r*aZ ((1:Int):Rat) ((((m:Int)+1)*((m:Int)+2):Int):Rat) else r
def JL (kind m:Nat) (r:Rat):Rat:=aZ ((xP kind m).abs*r^m) (((1:Int):Rat)-DY kind m r)
def Fh:Tr:=.retr [] 5
def Ee:Tr:=.retr [] 5
def Ai:Tr:=.fail 0
def BS:Tr:=.fail 1033
def zG:Tr:=.need (.strow 5 3 (.k (.int .i64 (0))) 0 [(.u 21 0),(.u 21 1),(.u 21 2)]) (.store 30 (.tmp 10) (.tmp 78)) 0 false BS
def vE:Tr:=.need (.call 66 [(.agg [(U 18 0),(U 18 1),(U 18 2)]),(.agg [(U 20 0),(U 20 1),(U 20 2)])] [(some 3)]) (.call ⟨.value (.func 66),#[(.tmp 74),(.tmp 77)],#[30,30]⟩) 30 true zG
def wQ:Tr:=.need (.call 72 [(.agg [(U 19 0),(U 19 1),(U 19 2)]),(.agg [(U 12 0),(U 12 1),(U 12 2)])] [(some 3)]) (.call ⟨.value (.func 72),#[(.tmp 75),(.tmp 76)],#[30,30]⟩) 30 true vE
def wN:Tr:=.need (.call 69 [] [(some 3)]) (.call ⟨.value (.func 69),#[],#[]⟩) 30 false wQ
def Ba:Tr:=.need (.call 32 [(.agg [(U 16 0),(U 16 1),(U 16 2)]),(.agg [(U 17 0),(U 17 1),(U 17 2)])] [(some 3)]) (.call ⟨.value (.func 32),#[(.tmp 70),(.tmp 73)],#[30,30]⟩) 30 false wN
def Ak:Tr:=.need (.call 71 [(.agg [(U 2 0),(U 2 1),(U 2 2)]),(W 3 0)] [(some 3)]) (.call ⟨.value (.func 71),#[(.tmp 71),(.tmp 72)],#[30,3]⟩) 30 false Ba
def Am:Tr:=.need (.call 70 [(.agg [(U 4 0),(U 4 1),(U 4 2)])] [(some 3)]) (.call ⟨.value (.func 70),#[(.tmp 69)],#[30]⟩) 30 false Ak
def tW:Tr:=.split (.u 15 0) Ai Am
def CN:Tr:=.need (.prim [(W 14 0),(WK (0))] none) (.binOp .geq 3 (.tmp 67) (.const (I3 (0))) 3) 4 false tW
def uU:Tr:=.need (.call 68 [(.agg [(U 12 0),(U 12 1),(U 12 2)]),(.agg [(U 13 0),(U 13 1),(U 13 2)])] [none]) (.call ⟨.value (.func 68),#[(.tmp 65),(.tmp 66)],#[30,30]⟩) 3 true CN
def uZ:Tr:=.need (.call 69 [] [(some 3)]) (.call ⟨.value (.func 69),#[],#[]⟩) 30 false uU
def zL:Tr:=.need (.call 66 [(.agg [(U 2 0),(U 2 1),(U 2 2)]),(.agg [(U 11 0),(U 11 1),(U 11 2)])] [(some 3)]) (.call ⟨.value (.func 66),#[(.tmp 47),(.tmp 50)],#[30,30]⟩) 30 true uZ
def zU:Tr:=.need (.call 22 [(W 10 0)] [(some 3)]) (.call ⟨.value (.func 22),#[(.tmp 49)],#[2]⟩) 30 true zL
def EZ:Tr:=.need (.prim [(W 3 0),(WK (1))] none) (.binOp .add 2 (.tmp 48) (.const (I3 (1))) 2) 2 false zU
def Bp:Tr:=.fail 0
def Au:Tr:=.fail 1033
def zT:Tr:=.need (.strow 5 3 (.k (.int .i64 (0))) 0 [(.u 25 0),(.u 25 1),(.u 25 2)]) (.store 30 (.tmp 10) (.tmp 78)) 0 false Au
def wV:Tr:=.need (.call 66 [(.agg [(U 22 0),(U 22 1),(U 22 2)]),(.agg [(U 24 0),(U 24 1),(U 24 2)])] [(some 3)]) (.call ⟨.value (.func 66),#[(.tmp 74),(.tmp 77)],#[30,30]⟩) 30 true zT
def AH:Tr:=.need (.call 72 [(.agg [(U 23 0),(U 23 1),(U 23 2)]),(.agg [(U 16 0),(U 16 1),(U 16 2)])] [(some 3)]) (.call ⟨.value (.func 72),#[(.tmp 75),(.tmp 76)],#[30,30]⟩) 30 true wV
def yP:Tr:=.need (.call 69 [] [(some 3)]) (.call ⟨.value (.func 69),#[],#[]⟩) 30 false AH
def AD:Tr:=.need (.call 32 [(.agg [(U 20 0),(U 20 1),(U 20 2)]),(.agg [(U 21 0),(U 21 1),(U 21 2)])] [(some 3)]) (.call ⟨.value (.func 32),#[(.tmp 70),(.tmp 73)],#[30,30]⟩) 30 false yP
def yS:Tr:=.need (.call 71 [(.agg [(U 2 0),(U 2 1),(U 2 2)]),(W 3 0)] [(some 3)]) (.call ⟨.value (.func 71),#[(.tmp 71),(.tmp 72)],#[30,3]⟩) 30 false AD
def wC:Tr:=.need (.call 70 [(.agg [(U 4 0),(U 4 1),(U 4 2)])] [(some 3)]) (.call ⟨.value (.func 70),#[(.tmp 69)],#[30]⟩) 30 false yS
def AJ:Tr:=.split (.u 19 0) Bp wC
def vQ:Tr:=.need (.prim [(W 18 0),(WK (0))] none) (.binOp .geq 3 (.tmp 67) (.const (I3 (0))) 3) 4 false AJ
def vB:Tr:=.need (.call 68 [(.agg [(U 16 0),(U 16 1),(U 16 2)]),(.agg [(U 17 0),(U 17 1),(U 17 2)])] [none]) (.call ⟨.value (.func 68),#[(.tmp 65),(.tmp 66)],#[30,30]⟩) 3 true vQ
def vY:Tr:=.need (.call 69 [] [(some 3)]) (.call ⟨.value (.func 69),#[],#[]⟩) 30 false vB
def uN:Tr:=.need (.call 32 [(.agg [(U 11 0),(U 11 1),(U 11 2)]),(.agg [(U 15 0),(U 15 1),(U 15 2)])] [(some 3)]) (.call ⟨.value (.func 32),#[(.tmp 57),(.tmp 63)],#[30,30]⟩) 30 true vY
def AO:Tr:=.need (.call 67 [(WK (1)),(W 14 0)] [(some 3)]) (.call ⟨.value (.func 67),#[(.const (I3 (1))),(.tmp 62)],#[2,2]⟩) 30 true uN
def zW:Tr:=.need (.prim [(W 12 0),(W 13 0)] none) (.binOp .mul 2 (.tmp 59) (.tmp 61) 2) 2 false AO
def DC:Tr:=.need (.prim [(W 3 0),(WK (2))] none) (.binOp .add 2 (.tmp 60) (.const (I3 (2))) 2) 2 false zW
def uO:Tr:=.need (.prim [(W 3 0),(WK (1))] none) (.binOp .add 2 (.tmp 58) (.const (I3 (1))) 2) 2 false DC
def Bh:Tr:=.need (.call 32 [(.agg [(U 2 0),(U 2 1),(U 2 2)]),(.agg [(U 2 0),(U 2 1),(U 2 2)])] [(some 3)]) (.call ⟨.value (.func 32),#[(.tmp 55),(.tmp 56)],#[30,30]⟩) 30 false uO
def wW:Tr:=.fail 0
def DL:Tr:=.fail 1033
def vZ:Tr:=.need (.strow 5 3 (.k (.int .i64 (0))) 0 [(.u 26 0),(.u 26 1),(.u 26 2)]) (.store 30 (.tmp 10) (.tmp 78)) 0 false DL
def uE:Tr:=.need (.call 66 [(.agg [(U 23 0),(U 23 1),(U 23 2)]),(.agg [(U 25 0),(U 25 1),(U 25 2)])] [(some 3)]) (.call ⟨.value (.func 66),#[(.tmp 74),(.tmp 77)],#[30,30]⟩) 30 true vZ
def Cd:Tr:=.need (.call 72 [(.agg [(U 24 0),(U 24 1),(U 24 2)]),(.agg [(U 17 0),(U 17 1),(U 17 2)])] [(some 3)]) (.call ⟨.value (.func 72),#[(.tmp 75),(.tmp 76)],#[30,30]⟩) 30 true uE
def uD:Tr:=.need (.call 69 [] [(some 3)]) (.call ⟨.value (.func 69),#[],#[]⟩) 30 false Cd
def wO:Tr:=.need (.call 32 [(.agg [(U 21 0),(U 21 1),(U 21 2)]),(.agg [(U 22 0),(U 22 1),(U 22 2)])] [(some 3)]) (.call ⟨.value (.func 32),#[(.tmp 70),(.tmp 73)],#[30,30]⟩) 30 false uD
def tQ:Tr:=.need (.call 71 [(.agg [(U 2 0),(U 2 1),(U 2 2)]),(W 3 0)] [(some 3)]) (.call ⟨.value (.func 71),#[(.tmp 71),(.tmp 72)],#[30,3]⟩) 30 false wO
def Da:Tr:=.need (.call 70 [(.agg [(U 4 0),(U 4 1),(U 4 2)])] [(some 3)]) (.call ⟨.value (.func 70),#[(.tmp 69)],#[30]⟩) 30 false tQ
def Aj:Tr:=.split (.u 20 0) wW Da
def Bv:Tr:=.need (.prim [(W 19 0),(WK (0))] none) (.binOp .geq 3 (.tmp 67) (.const (I3 (0))) 3) 4 false Aj
def CC:Tr:=.need (.call 68 [(.agg [(U 17 0),(U 17 1),(U 17 2)]),(.agg [(U 18 0),(U 18 1),(U 18 2)])] [none]) (.call ⟨.value (.func 68),#[(.tmp 65),(.tmp 66)],#[30,30]⟩) 3 true Bv
def vN:Tr:=.need (.call 69 [] [(some 3)]) (.call ⟨.value (.func 69),#[],#[]⟩) 30 false CC
def yL:Tr:=.need (.call 32 [(.agg [(U 12 0),(U 12 1),(U 12 2)]),(.agg [(U 16 0),(U 16 1),(U 16 2)])] [(some 3)]) (.call ⟨.value (.func 32),#[(.tmp 57),(.tmp 63)],#[30,30]⟩) 30 true vN
def xZ:Tr:=.need (.call 67 [(WK (1)),(W 15 0)] [(some 3)]) (.call ⟨.value (.func 67),#[(.const (I3 (1))),(.tmp 62)],#[2,2]⟩) 30 true yL
def yC:Tr:=.need (.prim [(W 13 0),(W 14 0)] none) (.binOp .mul 2 (.tmp 59) (.tmp 61) 2) 2 false xZ
def Ca:Tr:=.need (.prim [(W 3 0),(WK (2))] none) (.binOp .add 2 (.tmp 60) (.const (I3 (2))) 2) 2 false yC
def BJ:Tr:=.need (.prim [(W 3 0),(WK (1))] none) (.binOp .add 2 (.tmp 58) (.const (I3 (1))) 2) 2 false Ca
def Cv:Tr:=.need (.call 32 [(.agg [(U 2 0),(U 2 1),(U 2 2)]),(.agg [(U 2 0),(U 2 1),(U 2 2)])] [(some 3)]) (.call ⟨.value (.func 32),#[(.tmp 55),(.tmp 56)],#[30,30]⟩) 30 false BJ
def wP:Tr:=.fail 0
def wS:Tr:=.fail 1033
def yO:Tr:=.need (.strow 5 3 (.k (.int .i64 (0))) 0 [(.u 20 0),(.u 20 1),(.u 20 2)]) (.store 30 (.tmp 10) (.tmp 78)) 0 false wS
def BM:Tr:=.need (.call 66 [(.agg [(U 17 0),(U 17 1),(U 17 2)]),(.agg [(U 19 0),(U 19 1),(U 19 2)])] [(some 3)]) (.call ⟨.value (.func 66),#[(.tmp 74),(.tmp 77)],#[30,30]⟩) 30 true yO
def uW:Tr:=.need (.call 72 [(.agg [(U 18 0),(U 18 1),(U 18 2)]),(.agg [(U 2 0),(U 2 1),(U 2 2)])] [(some 3)]) (.call ⟨.value (.func 72),#[(.tmp 75),(.tmp 76)],#[30,30]⟩) 30 true BM
def tV:Tr:=.need (.call 69 [] [(some 3)]) (.call ⟨.value (.func 69),#[],#[]⟩) 30 false uW
def CP:Tr:=.need (.call 32 [(.agg [(U 15 0),(U 15 1),(U 15 2)]),(.agg [(U 16 0),(U 16 1),(U 16 2)])] [(some 3)]) (.call ⟨.value (.func 32),#[(.tmp 70),(.tmp 73)],#[30,30]⟩) 30 false tV
def Ad:Tr:=.need (.call 71 [(.agg [(U 2 0),(U 2 1),(U 2 2)]),(W 3 0)] [(some 3)]) (.call ⟨.value (.func 71),#[(.tmp 71),(.tmp 72)],#[30,3]⟩) 30 false CP
def wF:Tr:=.need (.call 70 [(.agg [(U 4 0),(U 4 1),(U 4 2)])] [(some 3)]) (.call ⟨.value (.func 70),#[(.tmp 69)],#[30]⟩) 30 false Ad
def CK:Tr:=.split (.u 14 0) wP wF
def AR:Tr:=.need (.prim [(W 13 0),(WK (0))] none) (.binOp .geq 3 (.tmp 67) (.const (I3 (0))) 3) 4 false CK
def wR:Tr:=.need (.call 68 [(.agg [(U 2 0),(U 2 1),(U 2 2)]),(.agg [(U 12 0),(U 12 1),(U 12 2)])] [none]) (.call ⟨.value (.func 68),#[(.tmp 65),(.tmp 66)],#[30,30]⟩) 3 true AR
def Dj:Tr:=.need (.call 69 [] [(some 3)]) (.call ⟨.value (.func 69),#[],#[]⟩) 30 false wR
def Af:Tr:=.split (.u 11 0) Cv Dj
def Cn:Tr:=.need (.prim [(W 0 0),(.one (.c (.k (.int .u8 (4)))))] none) (.binOp .eql 5 (.tmp 44) (.const (.int .u8 (4))) 5) 4 false Af
def yJ:Tr:=.split (.u 10 0) Bh Cn
def DE:Tr:=.need (.prim [(W 0 0),(.one (.c (.k (.int .u8 (3)))))] none) (.binOp .eql 5 (.tmp 44) (.const (.int .u8 (3))) 5) 4 false yJ
def FB:Tr:=.split (.u 9 0) EZ DE
def Eo:Tr:=.need (.prim [(W 0 0),(.one (.c (.k (.int .u8 (1)))))] none) (.binOp .eql 5 (.tmp 44) (.const (.int .u8 (1))) 5) 4 false FB
def FT:Tr:=.split (.u 8 0) Ee Eo
def Ev:Tr:=.need (.prim [(W 7 0),(WK (0))] none) (.binOp .eql 3 (.tmp 39) (.const (I3 (0))) 3) 4 false FT
def Ga:Tr:=.need (.call 17 [(.agg [(U 4 0),(U 4 1),(U 4 2)])] [none]) (.call ⟨.value (.func 17),#[(.tmp 38)],#[30]⟩) 3 false Ev
def Gm:Tr:=.split (.u 6 0) Fh Ga
def Ez:Tr:=.need (.prim [(W 3 0),(W 1 0)] none) (.binOp .lss 3 (.tmp 34) (.tmp 35) 3) 4 false Gm
theorem Lb:cC prog 81 (fun _=>none) (bC [1,1,1,1,1,0,1,0,1] (bH f16)) [(3, .ref 1),(4, .ref 1),(5, .ref 3),(12, .v none),(13, .ref 3)] 10 30 3 0 ([].map ResultVar.tmp)=Ez:=by kernel_rfl
def Fs:Tr:=.fail 1034
def Gc:Tr:=.fail 1034
def AV:Tr:=.fail 0
def Cb:Tr:=.retr [] 22
def xO:Tr:=.need (.strow 5 3 (.k (.int .i64 (0))) 0 [(.u 21 0),(.u 21 1),(.u 21 2)]) (.store 30 (.tmp 10) (.tmp 78)) 0 false Cb
def xE:Tr:=.need (.call 66 [(.agg [(U 18 0),(U 18 1),(U 18 2)]),(.agg [(U 20 0),(U 20 1),(U 20 2)])] [(some 3)]) (.call ⟨.value (.func 66),#[(.tmp 74),(.tmp 77)],#[30,30]⟩) 30 true xO
def CD:Tr:=.need (.call 72 [(.agg [(U 19 0),(U 19 1),(U 19 2)]),(.agg [(U 12 0),(U 12 1),(U 12 2)])] [(some 3)]) (.call ⟨.value (.func 72),#[(.tmp 75),(.tmp 76)],#[30,30]⟩) 30 true xE
def DK:Tr:=.need (.call 69 [] [(some 3)]) (.call ⟨.value (.func 69),#[],#[]⟩) 30 false CD
def BO:Tr:=.need (.call 32 [(.agg [(U 16 0),(U 16 1),(U 16 2)]),(.agg [(U 17 0),(U 17 1),(U 17 2)])] [(some 3)]) (.call ⟨.value (.func 32),#[(.tmp 70),(.tmp 73)],#[30,30]⟩) 30 false DK
def vP:Tr:=.need (.call 71 [(.agg [(U 2 0),(U 2 1),(U 2 2)]),(W 3 0)] [(some 3)]) (.call ⟨.value (.func 71),#[(.tmp 71),(.tmp 72)],#[30,3]⟩) 30 false BO
def zN:Tr:=.need (.call 70 [(.agg [(U 4 0),(U 4 1),(U 4 2)])] [(some 3)]) (.call ⟨.value (.func 70),#[(.tmp 69)],#[30]⟩) 30 false vP
def tP:Tr:=.split (.u 15 0) AV zN
def yG:Tr:=.need (.prim [(W 14 0),(WK (0))] none) (.binOp .geq 3 (.tmp 67) (.const (I3 (0))) 3) 4 false tP
def xR:Tr:=.need (.call 68 [(.agg [(U 12 0),(U 12 1),(U 12 2)]),(.agg [(U 13 0),(U 13 1),(U 13 2)])] [none]) (.call ⟨.value (.func 68),#[(.tmp 65),(.tmp 66)],#[30,30]⟩) 3 true yG
def yR:Tr:=.need (.call 69 [] [(some 3)]) (.call ⟨.value (.func 69),#[],#[]⟩) 30 false xR
def Ay:Tr:=.need (.call 66 [(.agg [(U 2 0),(U 2 1),(U 2 2)]),(.agg [(U 11 0),(U 11 1),(U 11 2)])] [(some 3)]) (.call ⟨.value (.func 66),#[(.tmp 47),(.tmp 50)],#[30,30]⟩) 30 true yR
def Dy:Tr:=.need (.call 22 [(W 10 0)] [(some 3)]) (.call ⟨.value (.func 22),#[(.tmp 49)],#[2]⟩) 30 true Ay
def FZ:Tr:=.need (.prim [(W 3 0),(WK (1))] none) (.binOp .add 2 (.tmp 48) (.const (I3 (1))) 2) 2 false Dy
def Bm:Tr:=.fail 0
def Du:Tr:=.retr [] 26
def tX:Tr:=.need (.strow 5 3 (.k (.int .i64 (0))) 0 [(.u 25 0),(.u 25 1),(.u 25 2)]) (.store 30 (.tmp 10) (.tmp 78)) 0 false Du
def AB:Tr:=.need (.call 66 [(.agg [(U 22 0),(U 22 1),(U 22 2)]),(.agg [(U 24 0),(U 24 1),(U 24 2)])] [(some 3)]) (.call ⟨.value (.func 66),#[(.tmp 74),(.tmp 77)],#[30,30]⟩) 30 true tX
def vL:Tr:=.need (.call 72 [(.agg [(U 23 0),(U 23 1),(U 23 2)]),(.agg [(U 16 0),(U 16 1),(U 16 2)])] [(some 3)]) (.call ⟨.value (.func 72),#[(.tmp 75),(.tmp 76)],#[30,30]⟩) 30 true AB
def yD:Tr:=.need (.call 69 [] [(some 3)]) (.call ⟨.value (.func 69),#[],#[]⟩) 30 false vL
def Cj:Tr:=.need (.call 32 [(.agg [(U 20 0),(U 20 1),(U 20 2)]),(.agg [(U 21 0),(U 21 1),(U 21 2)])] [(some 3)]) (.call ⟨.value (.func 32),#[(.tmp 70),(.tmp 73)],#[30,30]⟩) 30 false yD
def Cc:Tr:=.need (.call 71 [(.agg [(U 2 0),(U 2 1),(U 2 2)]),(W 3 0)] [(some 3)]) (.call ⟨.value (.func 71),#[(.tmp 71),(.tmp 72)],#[30,3]⟩) 30 false Cj
def Co:Tr:=.need (.call 70 [(.agg [(U 4 0),(U 4 1),(U 4 2)])] [(some 3)]) (.call ⟨.value (.func 70),#[(.tmp 69)],#[30]⟩) 30 false Cc
def Dw:Tr:=.split (.u 19 0) Bm Co
def uF:Tr:=.need (.prim [(W 18 0),(WK (0))] none) (.binOp .geq 3 (.tmp 67) (.const (I3 (0))) 3) 4 false Dw
def BF:Tr:=.need (.call 68 [(.agg [(U 16 0),(U 16 1),(U 16 2)]),(.agg [(U 17 0),(U 17 1),(U 17 2)])] [none]) (.call ⟨.value (.func 68),#[(.tmp 65),(.tmp 66)],#[30,30]⟩) 3 true uF
def tU:Tr:=.need (.call 69 [] [(some 3)]) (.call ⟨.value (.func 69),#[],#[]⟩) 30 false BF
def zP:Tr:=.need (.call 32 [(.agg [(U 11 0),(U 11 1),(U 11 2)]),(.agg [(U 15 0),(U 15 1),(U 15 2)])] [(some 3)]) (.call ⟨.value (.func 32),#[(.tmp 57),(.tmp 63)],#[30,30]⟩) 30 true tU
def vJ:Tr:=.need (.call 67 [(WK (1)),(W 14 0)] [(some 3)]) (.call ⟨.value (.func 67),#[(.const (I3 (1))),(.tmp 62)],#[2,2]⟩) 30 true zP
def xC:Tr:=.need (.prim [(W 12 0),(W 13 0)] none) (.binOp .mul 2 (.tmp 59) (.tmp 61) 2) 2 false vJ
def DN:Tr:=.need (.prim [(W 3 0),(WK (2))] none) (.binOp .add 2 (.tmp 60) (.const (I3 (2))) 2) 2 false xC
def Dt:Tr:=.need (.prim [(W 3 0),(WK (1))] none) (.binOp .add 2 (.tmp 58) (.const (I3 (1))) 2) 2 false DN
def CW:Tr:=.need (.call 32 [(.agg [(U 2 0),(U 2 1),(U 2 2)]),(.agg [(U 2 0),(U 2 1),(U 2 2)])] [(some 3)]) (.call ⟨.value (.func 32),#[(.tmp 55),(.tmp 56)],#[30,30]⟩) 30 false Dt
def BR:Tr:=.fail 0
def wM:Tr:=.retr [] 27
def DI:Tr:=.need (.strow 5 3 (.k (.int .i64 (0))) 0 [(.u 26 0),(.u 26 1),(.u 26 2)]) (.store 30 (.tmp 10) (.tmp 78)) 0 false wM
def wT:Tr:=.need (.call 66 [(.agg [(U 23 0),(U 23 1),(U 23 2)]),(.agg [(U 25 0),(U 25 1),(U 25 2)])] [(some 3)]) (.call ⟨.value (.func 66),#[(.tmp 74),(.tmp 77)],#[30,30]⟩) 30 true DI
def uG:Tr:=.need (.call 72 [(.agg [(U 24 0),(U 24 1),(U 24 2)]),(.agg [(U 17 0),(U 17 1),(U 17 2)])] [(some 3)]) (.call ⟨.value (.func 72),#[(.tmp 75),(.tmp 76)],#[30,30]⟩) 30 true wT
def BQ:Tr:=.need (.call 69 [] [(some 3)]) (.call ⟨.value (.func 69),#[],#[]⟩) 30 false uG
def Ax:Tr:=.need (.call 32 [(.agg [(U 21 0),(U 21 1),(U 21 2)]),(.agg [(U 22 0),(U 22 1),(U 22 2)])] [(some 3)]) (.call ⟨.value (.func 32),#[(.tmp 70),(.tmp 73)],#[30,30]⟩) 30 false BQ
def Bg:Tr:=.need (.call 71 [(.agg [(U 2 0),(U 2 1),(U 2 2)]),(W 3 0)] [(some 3)]) (.call ⟨.value (.func 71),#[(.tmp 71),(.tmp 72)],#[30,3]⟩) 30 false Ax
def Cu:Tr:=.need (.call 70 [(.agg [(U 4 0),(U 4 1),(U 4 2)])] [(some 3)]) (.call ⟨.value (.func 70),#[(.tmp 69)],#[30]⟩) 30 false Bg
def zO:Tr:=.split (.u 20 0) BR Cu
def Cx:Tr:=.need (.prim [(W 19 0),(WK (0))] none) (.binOp .geq 3 (.tmp 67) (.const (I3 (0))) 3) 4 false zO
def Cf:Tr:=.need (.call 68 [(.agg [(U 17 0),(U 17 1),(U 17 2)]),(.agg [(U 18 0),(U 18 1),(U 18 2)])] [none]) (.call ⟨.value (.func 68),#[(.tmp 65),(.tmp 66)],#[30,30]⟩) 3 true Cx
def Aw:Tr:=.need (.call 69 [] [(some 3)]) (.call ⟨.value (.func 69),#[],#[]⟩) 30 false Cf
def AM:Tr:=.need (.call 32 [(.agg [(U 12 0),(U 12 1),(U 12 2)]),(.agg [(U 16 0),(U 16 1),(U 16 2)])] [(some 3)]) (.call ⟨.value (.func 32),#[(.tmp 57),(.tmp 63)],#[30,30]⟩) 30 true Aw
def CY:Tr:=.need (.call 67 [(WK (1)),(W 15 0)] [(some 3)]) (.call ⟨.value (.func 67),#[(.const (I3 (1))),(.tmp 62)],#[2,2]⟩) 30 true AM
def DF:Tr:=.need (.prim [(W 13 0),(W 14 0)] none) (.binOp .mul 2 (.tmp 59) (.tmp 61) 2) 2 false CY
def vX:Tr:=.need (.prim [(W 3 0),(WK (2))] none) (.binOp .add 2 (.tmp 60) (.const (I3 (2))) 2) 2 false DF
def wI:Tr:=.need (.prim [(W 3 0),(WK (1))] none) (.binOp .add 2 (.tmp 58) (.const (I3 (1))) 2) 2 false vX
def xU:Tr:=.need (.call 32 [(.agg [(U 2 0),(U 2 1),(U 2 2)]),(.agg [(U 2 0),(U 2 1),(U 2 2)])] [(some 3)]) (.call ⟨.value (.func 32),#[(.tmp 55),(.tmp 56)],#[30,30]⟩) 30 false wI
def Bk:Tr:=.fail 0
def Ar:Tr:=.retr [] 21
def vO:Tr:=.need (.strow 5 3 (.k (.int .i64 (0))) 0 [(.u 20 0),(.u 20 1),(.u 20 2)]) (.store 30 (.tmp 10) (.tmp 78)) 0 false Ar
def wA:Tr:=.need (.call 66 [(.agg [(U 17 0),(U 17 1),(U 17 2)]),(.agg [(U 19 0),(U 19 1),(U 19 2)])] [(some 3)]) (.call ⟨.value (.func 66),#[(.tmp 74),(.tmp 77)],#[30,30]⟩) 30 true vO
def Br:Tr:=.need (.call 72 [(.agg [(U 18 0),(U 18 1),(U 18 2)]),(.agg [(U 2 0),(U 2 1),(U 2 2)])] [(some 3)]) (.call ⟨.value (.func 72),#[(.tmp 75),(.tmp 76)],#[30,30]⟩) 30 true wA
def wE:Tr:=.need (.call 69 [] [(some 3)]) (.call ⟨.value (.func 69),#[],#[]⟩) 30 false Br
def BA:Tr:=.need (.call 32 [(.agg [(U 15 0),(U 15 1),(U 15 2)]),(.agg [(U 16 0),(U 16 1),(U 16 2)])] [(some 3)]) (.call ⟨.value (.func 32),#[(.tmp 70),(.tmp 73)],#[30,30]⟩) 30 false wE
def Bq:Tr:=.need (.call 71 [(.agg [(U 2 0),(U 2 1),(U 2 2)]),(W 3 0)] [(some 3)]) (.call ⟨.value (.func 71),#[(.tmp 71),(.tmp 72)],#[30,3]⟩) 30 false BA
def CE:Tr:=.need (.call 70 [(.agg [(U 4 0),(U 4 1),(U 4 2)])] [(some 3)]) (.call ⟨.value (.func 70),#[(.tmp 69)],#[30]⟩) 30 false Bq
def DD:Tr:=.split (.u 14 0) Bk CE
def xD:Tr:=.need (.prim [(W 13 0),(WK (0))] none) (.binOp .geq 3 (.tmp 67) (.const (I3 (0))) 3) 4 false DD
def Bz:Tr:=.need (.call 68 [(.agg [(U 2 0),(U 2 1),(U 2 2)]),(.agg [(U 12 0),(U 12 1),(U 12 2)])] [none]) (.call ⟨.value (.func 68),#[(.tmp 65),(.tmp 66)],#[30,30]⟩) 3 true xD
def BW:Tr:=.need (.call 69 [] [(some 3)]) (.call ⟨.value (.func 69),#[],#[]⟩) 30 false Bz
def DH:Tr:=.split (.u 11 0) xU BW
def wJ:Tr:=.need (.prim [(W 0 0),(.one (.c (.k (.int .u8 (4)))))] none) (.binOp .eql 5 (.tmp 44) (.const (.int .u8 (4))) 5) 4 false DH
def tJ:Tr:=.split (.u 10 0) CW wJ
def uH:Tr:=.need (.prim [(W 0 0),(.one (.c (.k (.int .u8 (3)))))] none) (.binOp .eql 5 (.tmp 44) (.const (.int .u8 (3))) 5) 4 false tJ
def Gn:Tr:=.split (.u 9 0) FZ uH
def FH:Tr:=.need (.prim [(W 0 0),(.one (.c (.k (.int .u8 (1)))))] none) (.binOp .eql 5 (.tmp 44) (.const (.int .u8 (1))) 5) 4 false Gn
def Fb:Tr:=.split (.u 8 0) Gc FH
def DZ:Tr:=.need (.prim [(W 7 0),(WK (0))] none) (.binOp .eql 3 (.tmp 39) (.const (I3 (0))) 3) 4 false Fb
def Fp:Tr:=.need (.call 17 [(.agg [(U 4 0),(U 4 1),(U 4 2)])] [none]) (.call ⟨.value (.func 17),#[(.tmp 38)],#[30]⟩) 3 false DZ
def El:Tr:=.split (.u 6 0) Fs Fp
def Fv:Tr:=.need (.prim [(W 3 0),(W 1 0)] none) (.binOp .lss 3 (.tmp 34) (.tmp 35) 3) 4 false El
theorem Kd:cC prog 81 (fun _=>none) (bC [1,1,1,1,1,0,1,0,1] (bH f16)) [(3, .ref 1),(4, .ref 1),(5, .ref 3),(12, .v none),(13, .ref 3)] 10 30 3 1 ([].map ResultVar.tmp)=Fv:=by kernel_rfl
def Fa:Tr:=.retr [] 5
def ET:Tr:=.retr [] 5
def tR:Tr:=.fail 1033
def Az:Tr:=.need (.strow 5 1 (.k (.int .i64 (0))) 0 [(.k (.int .i64 (11)))]) (.store 40 (.tmp 11) (.const (I3 (11)))) 0 false tR
def xG:Tr:=.fail 10
def BU:Tr:=.need (.call 66 [(.agg [(U 18 0),(U 18 1),(U 18 2)]),(.agg [(U 20 0),(U 20 1),(U 20 2)])] [(some 3)]) (.call ⟨.value (.func 66),#[(.tmp 74),(.tmp 77)],#[30,30]⟩) 30 true xG
def tS:Tr:=.need (.call 72 [(.agg [(U 19 0),(U 19 1),(U 19 2)]),(.agg [(U 12 0),(U 12 1),(U 12 2)])] [(some 3)]) (.call ⟨.value (.func 72),#[(.tmp 75),(.tmp 76)],#[30,30]⟩) 30 true BU
def DJ:Tr:=.need (.call 69 [] [(some 3)]) (.call ⟨.value (.func 69),#[],#[]⟩) 30 false tS
def Ap:Tr:=.need (.call 32 [(.agg [(U 16 0),(U 16 1),(U 16 2)]),(.agg [(U 17 0),(U 17 1),(U 17 2)])] [(some 3)]) (.call ⟨.value (.func 32),#[(.tmp 70),(.tmp 73)],#[30,30]⟩) 30 false DJ
def Ci:Tr:=.need (.call 71 [(.agg [(U 2 0),(U 2 1),(U 2 2)]),(W 3 0)] [(some 3)]) (.call ⟨.value (.func 71),#[(.tmp 71),(.tmp 72)],#[30,3]⟩) 30 false Ap
def Aa:Tr:=.need (.call 70 [(.agg [(U 4 0),(U 4 1),(U 4 2)])] [(some 3)]) (.call ⟨.value (.func 70),#[(.tmp 69)],#[30]⟩) 30 false Ci
def BD:Tr:=.split (.u 15 0) Az Aa
def Dc:Tr:=.need (.prim [(W 14 0),(WK (0))] none) (.binOp .geq 3 (.tmp 67) (.const (I3 (0))) 3) 4 false BD
def xY:Tr:=.need (.call 68 [(.agg [(U 12 0),(U 12 1),(U 12 2)]),(.agg [(U 13 0),(U 13 1),(U 13 2)])] [none]) (.call ⟨.value (.func 68),#[(.tmp 65),(.tmp 66)],#[30,30]⟩) 3 true Dc
def Ch:Tr:=.need (.call 69 [] [(some 3)]) (.call ⟨.value (.func 69),#[],#[]⟩) 30 false xY
def BN:Tr:=.need (.call 66 [(.agg [(U 2 0),(U 2 1),(U 2 2)]),(.agg [(U 11 0),(U 11 1),(U 11 2)])] [(some 3)]) (.call ⟨.value (.func 66),#[(.tmp 47),(.tmp 50)],#[30,30]⟩) 30 true Ch
def yY:Tr:=.need (.call 22 [(W 10 0)] [(some 3)]) (.call ⟨.value (.func 22),#[(.tmp 49)],#[2]⟩) 30 true BN
def ED:Tr:=.need (.prim [(W 3 0),(WK (1))] none) (.binOp .add 2 (.tmp 48) (.const (I3 (1))) 2) 2 false yY
def yU:Tr:=.fail 1033
def Cl:Tr:=.need (.strow 5 1 (.k (.int .i64 (0))) 0 [(.k (.int .i64 (11)))]) (.store 40 (.tmp 11) (.const (I3 (11)))) 0 false yU
def Dv:Tr:=.fail 10
def Cr:Tr:=.need (.call 66 [(.agg [(U 22 0),(U 22 1),(U 22 2)]),(.agg [(U 24 0),(U 24 1),(U 24 2)])] [(some 3)]) (.call ⟨.value (.func 66),#[(.tmp 74),(.tmp 77)],#[30,30]⟩) 30 true Dv
def DG:Tr:=.need (.call 72 [(.agg [(U 23 0),(U 23 1),(U 23 2)]),(.agg [(U 16 0),(U 16 1),(U 16 2)])] [(some 3)]) (.call ⟨.value (.func 72),#[(.tmp 75),(.tmp 76)],#[30,30]⟩) 30 true Cr
def AQ:Tr:=.need (.call 69 [] [(some 3)]) (.call ⟨.value (.func 69),#[],#[]⟩) 30 false DG
def CS:Tr:=.need (.call 32 [(.agg [(U 20 0),(U 20 1),(U 20 2)]),(.agg [(U 21 0),(U 21 1),(U 21 2)])] [(some 3)]) (.call ⟨.value (.func 32),#[(.tmp 70),(.tmp 73)],#[30,30]⟩) 30 false AQ
def An:Tr:=.need (.call 71 [(.agg [(U 2 0),(U 2 1),(U 2 2)]),(W 3 0)] [(some 3)]) (.call ⟨.value (.func 71),#[(.tmp 71),(.tmp 72)],#[30,3]⟩) 30 false CS
def Cq:Tr:=.need (.call 70 [(.agg [(U 4 0),(U 4 1),(U 4 2)])] [(some 3)]) (.call ⟨.value (.func 70),#[(.tmp 69)],#[30]⟩) 30 false An
def uT:Tr:=.split (.u 19 0) Cl Cq
def CJ:Tr:=.need (.prim [(W 18 0),(WK (0))] none) (.binOp .geq 3 (.tmp 67) (.const (I3 (0))) 3) 4 false uT
def CH:Tr:=.need (.call 68 [(.agg [(U 16 0),(U 16 1),(U 16 2)]),(.agg [(U 17 0),(U 17 1),(U 17 2)])] [none]) (.call ⟨.value (.func 68),#[(.tmp 65),(.tmp 66)],#[30,30]⟩) 3 true CJ
def Be:Tr:=.need (.call 69 [] [(some 3)]) (.call ⟨.value (.func 69),#[],#[]⟩) 30 false CH
def zR:Tr:=.need (.call 32 [(.agg [(U 11 0),(U 11 1),(U 11 2)]),(.agg [(U 15 0),(U 15 1),(U 15 2)])] [(some 3)]) (.call ⟨.value (.func 32),#[(.tmp 57),(.tmp 63)],#[30,30]⟩) 30 true Be
def CX:Tr:=.need (.call 67 [(WK (1)),(W 14 0)] [(some 3)]) (.call ⟨.value (.func 67),#[(.const (I3 (1))),(.tmp 62)],#[2,2]⟩) 30 true zR
def CG:Tr:=.need (.prim [(W 12 0),(W 13 0)] none) (.binOp .mul 2 (.tmp 59) (.tmp 61) 2) 2 false CX
def zH:Tr:=.need (.prim [(W 3 0),(WK (2))] none) (.binOp .add 2 (.tmp 60) (.const (I3 (2))) 2) 2 false CG
def xN:Tr:=.need (.prim [(W 3 0),(WK (1))] none) (.binOp .add 2 (.tmp 58) (.const (I3 (1))) 2) 2 false zH
def vD:Tr:=.need (.call 32 [(.agg [(U 2 0),(U 2 1),(U 2 2)]),(.agg [(U 2 0),(U 2 1),(U 2 2)])] [(some 3)]) (.call ⟨.value (.func 32),#[(.tmp 55),(.tmp 56)],#[30,30]⟩) 30 false xN
def yT:Tr:=.fail 1033
def uX:Tr:=.need (.strow 5 1 (.k (.int .i64 (0))) 0 [(.k (.int .i64 (11)))]) (.store 40 (.tmp 11) (.const (I3 (11)))) 0 false yT
def xB:Tr:=.fail 10
def Cs:Tr:=.need (.call 66 [(.agg [(U 23 0),(U 23 1),(U 23 2)]),(.agg [(U 25 0),(U 25 1),(U 25 2)])] [(some 3)]) (.call ⟨.value (.func 66),#[(.tmp 74),(.tmp 77)],#[30,30]⟩) 30 true xB
def DS:Tr:=.need (.call 72 [(.agg [(U 24 0),(U 24 1),(U 24 2)]),(.agg [(U 17 0),(U 17 1),(U 17 2)])] [(some 3)]) (.call ⟨.value (.func 72),#[(.tmp 75),(.tmp 76)],#[30,30]⟩) 30 true Cs
def BI:Tr:=.need (.call 69 [] [(some 3)]) (.call ⟨.value (.func 69),#[],#[]⟩) 30 false DS
def wZ:Tr:=.need (.call 32 [(.agg [(U 21 0),(U 21 1),(U 21 2)]),(.agg [(U 22 0),(U 22 1),(U 22 2)])] [(some 3)]) (.call ⟨.value (.func 32),#[(.tmp 70),(.tmp 73)],#[30,30]⟩) 30 false BI
def Cm:Tr:=.need (.call 71 [(.agg [(U 2 0),(U 2 1),(U 2 2)]),(W 3 0)] [(some 3)]) (.call ⟨.value (.func 71),#[(.tmp 71),(.tmp 72)],#[30,3]⟩) 30 false wZ
def vK:Tr:=.need (.call 70 [(.agg [(U 4 0),(U 4 1),(U 4 2)])] [(some 3)]) (.call ⟨.value (.func 70),#[(.tmp 69)],#[30]⟩) 30 false Cm
def vT:Tr:=.split (.u 20 0) uX vK
def Al:Tr:=.need (.prim [(W 19 0),(WK (0))] none) (.binOp .geq 3 (.tmp 67) (.const (I3 (0))) 3) 4 false vT
def vV:Tr:=.need (.call 68 [(.agg [(U 17 0),(U 17 1),(U 17 2)]),(.agg [(U 18 0),(U 18 1),(U 18 2)])] [none]) (.call ⟨.value (.func 68),#[(.tmp 65),(.tmp 66)],#[30,30]⟩) 3 true Al
def BZ:Tr:=.need (.call 69 [] [(some 3)]) (.call ⟨.value (.func 69),#[],#[]⟩) 30 false vV
def tG:Tr:=.need (.call 32 [(.agg [(U 12 0),(U 12 1),(U 12 2)]),(.agg [(U 16 0),(U 16 1),(U 16 2)])] [(some 3)]) (.call ⟨.value (.func 32),#[(.tmp 57),(.tmp 63)],#[30,30]⟩) 30 true BZ
def AN:Tr:=.need (.call 67 [(WK (1)),(W 15 0)] [(some 3)]) (.call ⟨.value (.func 67),#[(.const (I3 (1))),(.tmp 62)],#[2,2]⟩) 30 true tG
def De:Tr:=.need (.prim [(W 13 0),(W 14 0)] none) (.binOp .mul 2 (.tmp 59) (.tmp 61) 2) 2 false AN
def AA:Tr:=.need (.prim [(W 3 0),(WK (2))] none) (.binOp .add 2 (.tmp 60) (.const (I3 (2))) 2) 2 false De
def wG:Tr:=.need (.prim [(W 3 0),(WK (1))] none) (.binOp .add 2 (.tmp 58) (.const (I3 (1))) 2) 2 false AA
def Aq:Tr:=.need (.call 32 [(.agg [(U 2 0),(U 2 1),(U 2 2)]),(.agg [(U 2 0),(U 2 1),(U 2 2)])] [(some 3)]) (.call ⟨.value (.func 32),#[(.tmp 55),(.tmp 56)],#[30,30]⟩) 30 false wG
def Dm:Tr:=.fail 1033
def xI:Tr:=.need (.strow 5 1 (.k (.int .i64 (0))) 0 [(.k (.int .i64 (11)))]) (.store 40 (.tmp 11) (.const (I3 (11)))) 0 false Dm
def Ck:Tr:=.fail 10
def Ds:Tr:=.need (.call 66 [(.agg [(U 17 0),(U 17 1),(U 17 2)]),(.agg [(U 19 0),(U 19 1),(U 19 2)])] [(some 3)]) (.call ⟨.value (.func 66),#[(.tmp 74),(.tmp 77)],#[30,30]⟩) 30 true Ck
def Ct:Tr:=.need (.call 72 [(.agg [(U 18 0),(U 18 1),(U 18 2)]),(.agg [(U 2 0),(U 2 1),(U 2 2)])] [(some 3)]) (.call ⟨.value (.func 72),#[(.tmp 75),(.tmp 76)],#[30,30]⟩) 30 true Ds
def uY:Tr:=.need (.call 69 [] [(some 3)]) (.call ⟨.value (.func 69),#[],#[]⟩) 30 false Ct
def tM:Tr:=.need (.call 32 [(.agg [(U 15 0),(U 15 1),(U 15 2)]),(.agg [(U 16 0),(U 16 1),(U 16 2)])] [(some 3)]) (.call ⟨.value (.func 32),#[(.tmp 70),(.tmp 73)],#[30,30]⟩) 30 false uY
def Cz:Tr:=.need (.call 71 [(.agg [(U 2 0),(U 2 1),(U 2 2)]),(W 3 0)] [(some 3)]) (.call ⟨.value (.func 71),#[(.tmp 71),(.tmp 72)],#[30,3]⟩) 30 false tM
def uC:Tr:=.need (.call 70 [(.agg [(U 4 0),(U 4 1),(U 4 2)])] [(some 3)]) (.call ⟨.value (.func 70),#[(.tmp 69)],#[30]⟩) 30 false Cz
def BL:Tr:=.split (.u 14 0) xI uC
def zA:Tr:=.need (.prim [(W 13 0),(WK (0))] none) (.binOp .geq 3 (.tmp 67) (.const (I3 (0))) 3) 4 false BL
def uM:Tr:=.need (.call 68 [(.agg [(U 2 0),(U 2 1),(U 2 2)]),(.agg [(U 12 0),(U 12 1),(U 12 2)])] [none]) (.call ⟨.value (.func 68),#[(.tmp 65),(.tmp 66)],#[30,30]⟩) 3 true zA
def vH:Tr:=.need (.call 69 [] [(some 3)]) (.call ⟨.value (.func 69),#[],#[]⟩) 30 false uM
def wH:Tr:=.split (.u 11 0) Aq vH
def vC:Tr:=.need (.prim [(W 0 0),(.one (.c (.k (.int .u8 (4)))))] none) (.binOp .eql 5 (.tmp 44) (.const (.int .u8 (4))) 5) 4 false wH
def wB:Tr:=.split (.u 10 0) vD vC
def zK:Tr:=.need (.prim [(W 0 0),(.one (.c (.k (.int .u8 (3)))))] none) (.binOp .eql 5 (.tmp 44) (.const (.int .u8 (3))) 5) 4 false wB
def Fi:Tr:=.split (.u 9 0) ED zK
def Gj:Tr:=.need (.prim [(W 0 0),(.one (.c (.k (.int .u8 (1)))))] none) (.binOp .eql 5 (.tmp 44) (.const (.int .u8 (1))) 5) 4 false Fi
def Fq:Tr:=.split (.u 8 0) ET Gj
def Ff:Tr:=.need (.prim [(W 7 0),(WK (0))] none) (.binOp .eql 3 (.tmp 39) (.const (I3 (0))) 3) 4 false Fq
def Et:Tr:=.need (.call 17 [(.agg [(U 4 0),(U 4 1),(U 4 2)])] [none]) (.call ⟨.value (.func 17),#[(.tmp 38)],#[30]⟩) 3 false Ff
def Eg:Tr:=.split (.u 6 0) Fa Et
def EI:Tr:=.need (.prim [(W 3 0),(W 1 0)] none) (.binOp .lss 3 (.tmp 34) (.tmp 35) 3) 4 false Eg
theorem Lo:cC prog 81 (fun _=>none) (bC [1,1,1,1,1,0,1,0,1] (bH f16)) [(3, .ref 1),(4, .ref 1),(5, .ref 3),(12, .v none),(13, .ref 3)] 11 40 1 0 ([].map ResultVar.tmp)=EI:=by kernel_rfl
def Fm:Tr:=.fail 1034
def Fw:Tr:=.fail 1034
def BV:Tr:=.retr [] 16
def Bt:Tr:=.need (.strow 5 1 (.k (.int .i64 (0))) 0 [(.k (.int .i64 (11)))]) (.store 40 (.tmp 11) (.const (I3 (11)))) 0 false BV
def Cy:Tr:=.fail 10
def AU:Tr:=.need (.call 66 [(.agg [(U 18 0),(U 18 1),(U 18 2)]),(.agg [(U 20 0),(U 20 1),(U 20 2)])] [(some 3)]) (.call ⟨.value (.func 66),#[(.tmp 74),(.tmp 77)],#[30,30]⟩) 30 true Cy
def BT:Tr:=.need (.call 72 [(.agg [(U 19 0),(U 19 1),(U 19 2)]),(.agg [(U 12 0),(U 12 1),(U 12 2)])] [(some 3)]) (.call ⟨.value (.func 72),#[(.tmp 75),(.tmp 76)],#[30,30]⟩) 30 true AU
def uI:Tr:=.need (.call 69 [] [(some 3)]) (.call ⟨.value (.func 69),#[],#[]⟩) 30 false BT
def zM:Tr:=.need (.call 32 [(.agg [(U 16 0),(U 16 1),(U 16 2)]),(.agg [(U 17 0),(U 17 1),(U 17 2)])] [(some 3)]) (.call ⟨.value (.func 32),#[(.tmp 70),(.tmp 73)],#[30,30]⟩) 30 false uI
def yI:Tr:=.need (.call 71 [(.agg [(U 2 0),(U 2 1),(U 2 2)]),(W 3 0)] [(some 3)]) (.call ⟨.value (.func 71),#[(.tmp 71),(.tmp 72)],#[30,3]⟩) 30 false zM
def uL:Tr:=.need (.call 70 [(.agg [(U 4 0),(U 4 1),(U 4 2)])] [(some 3)]) (.call ⟨.value (.func 70),#[(.tmp 69)],#[30]⟩) 30 false yI
def CI:Tr:=.split (.u 15 0) Bt uL
def xH:Tr:=.need (.prim [(W 14 0),(WK (0))] none) (.binOp .geq 3 (.tmp 67) (.const (I3 (0))) 3) 4 false CI
def zE:Tr:=.need (.call 68 [(.agg [(U 12 0),(U 12 1),(U 12 2)]),(.agg [(U 13 0),(U 13 1),(U 13 2)])] [none]) (.call ⟨.value (.func 68),#[(.tmp 65),(.tmp 66)],#[30,30]⟩) 3 true xH
def zF:Tr:=.need (.call 69 [] [(some 3)]) (.call ⟨.value (.func 69),#[],#[]⟩) 30 false zE
def Cp:Tr:=.need (.call 66 [(.agg [(U 2 0),(U 2 1),(U 2 2)]),(.agg [(U 11 0),(U 11 1),(U 11 2)])] [(some 3)]) (.call ⟨.value (.func 66),#[(.tmp 47),(.tmp 50)],#[30,30]⟩) 30 true zF
def yE:Tr:=.need (.call 22 [(W 10 0)] [(some 3)]) (.call ⟨.value (.func 22),#[(.tmp 49)],#[2]⟩) 30 true Cp
def Ey:Tr:=.need (.prim [(W 3 0),(WK (1))] none) (.binOp .add 2 (.tmp 48) (.const (I3 (1))) 2) 2 false yE
def CM:Tr:=.retr [] 20
def AP:Tr:=.need (.strow 5 1 (.k (.int .i64 (0))) 0 [(.k (.int .i64 (11)))]) (.store 40 (.tmp 11) (.const (I3 (11)))) 0 false CM
def uV:Tr:=.fail 10
def Ah:Tr:=.need (.call 66 [(.agg [(U 22 0),(U 22 1),(U 22 2)]),(.agg [(U 24 0),(U 24 1),(U 24 2)])] [(some 3)]) (.call ⟨.value (.func 66),#[(.tmp 74),(.tmp 77)],#[30,30]⟩) 30 true uV
def yK:Tr:=.need (.call 72 [(.agg [(U 23 0),(U 23 1),(U 23 2)]),(.agg [(U 16 0),(U 16 1),(U 16 2)])] [(some 3)]) (.call ⟨.value (.func 72),#[(.tmp 75),(.tmp 76)],#[30,30]⟩) 30 true Ah
def yQ:Tr:=.need (.call 69 [] [(some 3)]) (.call ⟨.value (.func 69),#[],#[]⟩) 30 false yK
def CQ:Tr:=.need (.call 32 [(.agg [(U 20 0),(U 20 1),(U 20 2)]),(.agg [(U 21 0),(U 21 1),(U 21 2)])] [(some 3)]) (.call ⟨.value (.func 32),#[(.tmp 70),(.tmp 73)],#[30,30]⟩) 30 false yQ
def Db:Tr:=.need (.call 71 [(.agg [(U 2 0),(U 2 1),(U 2 2)]),(W 3 0)] [(some 3)]) (.call ⟨.value (.func 71),#[(.tmp 71),(.tmp 72)],#[30,3]⟩) 30 false CQ
def zY:Tr:=.need (.call 70 [(.agg [(U 4 0),(U 4 1),(U 4 2)])] [(some 3)]) (.call ⟨.value (.func 70),#[(.tmp 69)],#[30]⟩) 30 false Db
def xK:Tr:=.split (.u 19 0) AP zY
def wL:Tr:=.need (.prim [(W 18 0),(WK (0))] none) (.binOp .geq 3 (.tmp 67) (.const (I3 (0))) 3) 4 false xK
def AZ:Tr:=.need (.call 68 [(.agg [(U 16 0),(U 16 1),(U 16 2)]),(.agg [(U 17 0),(U 17 1),(U 17 2)])] [none]) (.call ⟨.value (.func 68),#[(.tmp 65),(.tmp 66)],#[30,30]⟩) 3 true wL
def CF:Tr:=.need (.call 69 [] [(some 3)]) (.call ⟨.value (.func 69),#[],#[]⟩) 30 false AZ
def xX:Tr:=.need (.call 32 [(.agg [(U 11 0),(U 11 1),(U 11 2)]),(.agg [(U 15 0),(U 15 1),(U 15 2)])] [(some 3)]) (.call ⟨.value (.func 32),#[(.tmp 57),(.tmp 63)],#[30,30]⟩) 30 true CF
def yW:Tr:=.need (.call 67 [(WK (1)),(W 14 0)] [(some 3)]) (.call ⟨.value (.func 67),#[(.const (I3 (1))),(.tmp 62)],#[2,2]⟩) 30 true xX
def zI:Tr:=.need (.prim [(W 12 0),(W 13 0)] none) (.binOp .mul 2 (.tmp 59) (.tmp 61) 2) 2 false yW
def xW:Tr:=.need (.prim [(W 3 0),(WK (2))] none) (.binOp .add 2 (.tmp 60) (.const (I3 (2))) 2) 2 false zI
def BG:Tr:=.need (.prim [(W 3 0),(WK (1))] none) (.binOp .add 2 (.tmp 58) (.const (I3 (1))) 2) 2 false xW
def wX:Tr:=.need (.call 32 [(.agg [(U 2 0),(U 2 1),(U 2 2)]),(.agg [(U 2 0),(U 2 1),(U 2 2)])] [(some 3)]) (.call ⟨.value (.func 32),#[(.tmp 55),(.tmp 56)],#[30,30]⟩) 30 false BG
def BK:Tr:=.retr [] 21
def Dp:Tr:=.need (.strow 5 1 (.k (.int .i64 (0))) 0 [(.k (.int .i64 (11)))]) (.store 40 (.tmp 11) (.const (I3 (11)))) 0 false BK
def CO:Tr:=.fail 10
def zS:Tr:=.need (.call 66 [(.agg [(U 23 0),(U 23 1),(U 23 2)]),(.agg [(U 25 0),(U 25 1),(U 25 2)])] [(some 3)]) (.call ⟨.value (.func 66),#[(.tmp 74),(.tmp 77)],#[30,30]⟩) 30 true CO
def Bf:Tr:=.need (.call 72 [(.agg [(U 24 0),(U 24 1),(U 24 2)]),(.agg [(U 17 0),(U 17 1),(U 17 2)])] [(some 3)]) (.call ⟨.value (.func 72),#[(.tmp 75),(.tmp 76)],#[30,30]⟩) 30 true zS
def zD:Tr:=.need (.call 69 [] [(some 3)]) (.call ⟨.value (.func 69),#[],#[]⟩) 30 false Bf
def zX:Tr:=.need (.call 32 [(.agg [(U 21 0),(U 21 1),(U 21 2)]),(.agg [(U 22 0),(U 22 1),(U 22 2)])] [(some 3)]) (.call ⟨.value (.func 32),#[(.tmp 70),(.tmp 73)],#[30,30]⟩) 30 false zD
def zB:Tr:=.need (.call 71 [(.agg [(U 2 0),(U 2 1),(U 2 2)]),(W 3 0)] [(some 3)]) (.call ⟨.value (.func 71),#[(.tmp 71),(.tmp 72)],#[30,3]⟩) 30 false zX
def Ab:Tr:=.need (.call 70 [(.agg [(U 4 0),(U 4 1),(U 4 2)])] [(some 3)]) (.call ⟨.value (.func 70),#[(.tmp 69)],#[30]⟩) 30 false zB
def BP:Tr:=.split (.u 20 0) Dp Ab
def BB:Tr:=.need (.prim [(W 19 0),(WK (0))] none) (.binOp .geq 3 (.tmp 67) (.const (I3 (0))) 3) 4 false BP
def Dz:Tr:=.need (.call 68 [(.agg [(U 17 0),(U 17 1),(U 17 2)]),(.agg [(U 18 0),(U 18 1),(U 18 2)])] [none]) (.call ⟨.value (.func 68),#[(.tmp 65),(.tmp 66)],#[30,30]⟩) 3 true BB
def xS:Tr:=.need (.call 69 [] [(some 3)]) (.call ⟨.value (.func 69),#[],#[]⟩) 30 false Dz
def Dq:Tr:=.need (.call 32 [(.agg [(U 12 0),(U 12 1),(U 12 2)]),(.agg [(U 16 0),(U 16 1),(U 16 2)])] [(some 3)]) (.call ⟨.value (.func 32),#[(.tmp 57),(.tmp 63)],#[30,30]⟩) 30 true xS
def Bo:Tr:=.need (.call 67 [(WK (1)),(W 15 0)] [(some 3)]) (.call ⟨.value (.func 67),#[(.const (I3 (1))),(.tmp 62)],#[2,2]⟩) 30 true Dq
def DM:Tr:=.need (.prim [(W 13 0),(W 14 0)] none) (.binOp .mul 2 (.tmp 59) (.tmp 61) 2) 2 false Bo
def Bb:Tr:=.need (.prim [(W 3 0),(WK (2))] none) (.binOp .add 2 (.tmp 60) (.const (I3 (2))) 2) 2 false DM
def xL:Tr:=.need (.prim [(W 3 0),(WK (1))] none) (.binOp .add 2 (.tmp 58) (.const (I3 (1))) 2) 2 false Bb
def yX:Tr:=.need (.call 32 [(.agg [(U 2 0),(U 2 1),(U 2 2)]),(.agg [(U 2 0),(U 2 1),(U 2 2)])] [(some 3)]) (.call ⟨.value (.func 32),#[(.tmp 55),(.tmp 56)],#[30,30]⟩) 30 false xL
def CZ:Tr:=.retr [] 15
def Cw:Tr:=.need (.strow 5 1 (.k (.int .i64 (0))) 0 [(.k (.int .i64 (11)))]) (.store 40 (.tmp 11) (.const (I3 (11)))) 0 false CZ
def tY:Tr:=.fail 10
def uA:Tr:=.need (.call 66 [(.agg [(U 17 0),(U 17 1),(U 17 2)]),(.agg [(U 19 0),(U 19 1),(U 19 2)])] [(some 3)]) (.call ⟨.value (.func 66),#[(.tmp 74),(.tmp 77)],#[30,30]⟩) 30 true tY
def Dr:Tr:=.need (.call 72 [(.agg [(U 18 0),(U 18 1),(U 18 2)]),(.agg [(U 2 0),(U 2 1),(U 2 2)])] [(some 3)]) (.call ⟨.value (.func 72),#[(.tmp 75),(.tmp 76)],#[30,30]⟩) 30 true uA
def Dh:Tr:=.need (.call 69 [] [(some 3)]) (.call ⟨.value (.func 69),#[],#[]⟩) 30 false Dr
def tZ:Tr:=.need (.call 32 [(.agg [(U 15 0),(U 15 1),(U 15 2)]),(.agg [(U 16 0),(U 16 1),(U 16 2)])] [(some 3)]) (.call ⟨.value (.func 32),#[(.tmp 70),(.tmp 73)],#[30,30]⟩) 30 false Dh
def BE:Tr:=.need (.call 71 [(.agg [(U 2 0),(U 2 1),(U 2 2)]),(W 3 0)] [(some 3)]) (.call ⟨.value (.func 71),#[(.tmp 71),(.tmp 72)],#[30,3]⟩) 30 false tZ
def AI:Tr:=.need (.call 70 [(.agg [(U 4 0),(U 4 1),(U 4 2)])] [(some 3)]) (.call ⟨.value (.func 70),#[(.tmp 69)],#[30]⟩) 30 false BE
def Bi:Tr:=.split (.u 14 0) Cw AI
def CA:Tr:=.need (.prim [(W 13 0),(WK (0))] none) (.binOp .geq 3 (.tmp 67) (.const (I3 (0))) 3) 4 false Bi
def xJ:Tr:=.need (.call 68 [(.agg [(U 2 0),(U 2 1),(U 2 2)]),(.agg [(U 12 0),(U 12 1),(U 12 2)])] [none]) (.call ⟨.value (.func 68),#[(.tmp 65),(.tmp 66)],#[30,30]⟩) 3 true CA
def DP:Tr:=.need (.call 69 [] [(some 3)]) (.call ⟨.value (.func 69),#[],#[]⟩) 30 false xJ
def zJ:Tr:=.split (.u 11 0) yX DP
def Bn:Tr:=.need (.prim [(W 0 0),(.one (.c (.k (.int .u8 (4)))))] none) (.binOp .eql 5 (.tmp 44) (.const (.int .u8 (4))) 5) 4 false zJ
def Dd:Tr:=.split (.u 10 0) wX Bn
def Av:Tr:=.need (.prim [(W 0 0),(.one (.c (.k (.int .u8 (3)))))] none) (.binOp .eql 5 (.tmp 44) (.const (.int .u8 (3))) 5) 4 false Dd
def Ei:Tr:=.split (.u 9 0) Ey Av
def Fx:Tr:=.need (.prim [(W 0 0),(.one (.c (.k (.int .u8 (1)))))] none) (.binOp .eql 5 (.tmp 44) (.const (.int .u8 (1))) 5) 4 false Ei
def FM:Tr:=.split (.u 8 0) Fw Fx
def EN:Tr:=.need (.prim [(W 7 0),(WK (0))] none) (.binOp .eql 3 (.tmp 39) (.const (I3 (0))) 3) 4 false FM
def EJ:Tr:=.need (.call 17 [(.agg [(U 4 0),(U 4 1),(U 4 2)])] [none]) (.call ⟨.value (.func 17),#[(.tmp 38)],#[30]⟩) 3 false EN
def Ed:Tr:=.split (.u 6 0) Fm EJ
def EO:Tr:=.need (.prim [(W 3 0),(W 1 0)] none) (.binOp .lss 3 (.tmp 34) (.tmp 35) 3) 4 false Ed
theorem Lw:cC prog 81 (fun _=>none) (bC [1,1,1,1,1,0,1,0,1] (bH f16)) [(3, .ref 1),(4, .ref 1),(5, .ref 3),(12, .v none),(13, .ref 3)] 11 40 1 1 ([].map ResultVar.tmp)=EO:=by kernel_rfl
theorem aa5 (kind n m:Nat) (r:Rat) (c:List aL) (h:m<n∨xP kind m=0):vc prog (fun o=>o = .retr [] ([c])) (cC prog 81 (fun _=>none) (bC [1,1,1,1,1,0,1,0,1] (bH f16)) [(3, .ref 1),(4, .ref 1),(5, .ref 3),(12, .v none),(13, .ref 3)] 10 30 3 0 ([].map ResultVar.tmp)) ([.ref ([.int .u8 (kind:Int)]), .ref ([.int .i64 (n:Int)]), .ref (qC r), .v (.one (.int .i64 (m:Int))), .ref (qC (xP kind m))].map In.env ++ [.rows ([c])]) []:=by
 rw [Lb];dsimp only [List.map,In.env,aF,aG];have hz:¬ (m:Int)<(n:Int)→(xP kind m).num.sign=0:=fun hh=>kU.2 (h.resolve_left fun h2=>hh (by omega));apply vn bA rfl;refine vs _ rfl ?_ ?_<;>intro h1
 ·exact dB rfl rfl
 apply aA (bB _) rfl;apply vn aC rfl;refine vs _ rfl ?_ ?_<;>intro h5
 ·exact dB rfl rfl
 exact absurd (hz h1) h5
theorem XW (kind n m:Nat) (r:Rat) (c:List aL) (h:m<n∨xP kind m=0):vc prog (fun o=>o = .retr [] ([c])) (cC prog 81 (fun _=>none) (bC [1,1,1,1,1,0,1,0,1] (bH f16)) [(3, .ref 1),(4, .ref 1),(5, .ref 3),(12, .v none),(13, .ref 3)] 11 40 1 0 ([].map ResultVar.tmp)) ([.ref ([.int .u8 (kind:Int)]), .ref ([.int .i64 (n:Int)]), .ref (qC r), .v (.one (.int .i64 (m:Int))), .ref (qC (xP kind m))].map In.env ++ [.rows ([c])]) []:=by
 rw [Lo];dsimp only [List.map,In.env,aF,aG];have hz:¬ (m:Int)<(n:Int)→(xP kind m).num.sign=0:=fun hh=>kU.2 (h.resolve_left fun h2=>hh (by omega));apply vn bA rfl;refine vs _ rfl ?_ ?_<;>intro h1
 ·exact dB rfl rfl
 apply aA (bB _) rfl;apply vn aC rfl;refine vs _ rfl ?_ ?_<;>intro h5
 ·exact dB rfl rfl
 exact absurd (hz h1) h5
theorem Xp (kind n m A:Nat) (r:Rat) (c:List aL) (hc:c.length=3) (hn:n≤m) (hm:m≤43) (hk6:kind≤6) (hx:xP kind m≠0) (hr:Fit A r) (hA1:1≤A) (hA:A≤1000000) (hq:DY kind m r<((1:Int):Rat)):vc prog (fun o=>o = .retr [] ([qC (JL kind m r)])) (cC prog 81 (fun _=>none) (bC [1,1,1,1,1,0,1,0,1] (bH f16)) [(3, .ref 1),(4, .ref 1),(5, .ref 3),(12, .v none),(13, .ref 3)] 10 30 3 1 ([].map ResultVar.tmp)) ([.ref ([.int .u8 (kind:Int)]), .ref ([.int .i64 (n:Int)]), .ref (qC r), .v (.one (.int .i64 (m:Int))), .ref (qC (xP kind m))].map In.env ++ [.rows ([c])]) []:=by
 rw [Kd];dsimp only [List.map,In.env,aF,aG];obtain ⟨a0,a1,a2,rfl⟩:=lO hc;have hxf:=QI kind hk6 m (by omega);have hb:0≤((m:Int)+1)*((m:Int)+2)∧((m:Int)+1)*((m:Int)+2)≤44*45:=⟨Int.mul_nonneg (by omega) (by omega),Int.mul_le_mul (by omega) (by omega) (by omega) (by omega)⟩
 have hpf:=nL hr m hA1;have hAm:A*m≤1000000*43:=Nat.mul_le_mul hA hm;have h1f:Fit 1 ((1:Int):Rat):=Fit.int (by omega) (by omega);have hif:Fit 64 (((m:Int)+1:Int):Rat):=Fit.int (by omega) (by omega);have hif2:Fit 64 ((((m:Int)+1)*((m:Int)+2):Int):Rat):=Fit.int (by omega) (by omega);have haf:=Oq hxf;have hq1:Fit (A+A+200) (aZ r (((m:Int)+1:Int):Rat)):=(eA hr hif hA1).mono (by omega);have hq2:Fit (1+64) (aZ ((1:Int):Rat) ((((m:Int)+1)*((m:Int)+2):Int):Rat)):=eA h1f hif2;have hq3:Fit (A+A+200) (r*r*aZ ((1:Int):Rat) ((((m:Int)+1)*((m:Int)+2):Int):Rat)):=((hr.mul hr).mul hq2).mono (by omega);apply vn bA rfl;refine vs _ rfl ?_ ?_<;>intro h1
 ·exfalso;omega
 apply aA (bB _) rfl;apply vn aC rfl;refine vs _ rfl ?_ ?_<;>intro h5
 ·exact absurd (kU.1 h5) hx
 apply vn aC rfl;dsimp only [aF,aG];refine vs _ rfl ?_ ?_<;>intro h8
 ·apply vn (aH) rfl;apply aA (aY _) rfl;apply aA (bD r _ A 64 hr hif) rfl;dsimp only [aF,aG];have hQ:DY kind m r=aZ r (((m:Int)+1:Int):Rat):=by unfold DY;rw [if_pos (by omega)]
  rw [hQ] at hq;have hqf:Fit (A+A+200) (aZ r (((m:Int)+1:Int):Rat)):=hq1;apply aA bW rfl;apply aA (bE (aZ r (((m:Int)+1:Int):Rat)) ((1:Int):Rat) (A+A+200) 1 hqf h1f) rfl;apply vn iE rfl;refine vs _ rfl ?_ ?_<;>intro h15
  ·exact absurd (mL.1 h15) (by grind)
  apply aA (fZ (xP kind m)) rfl;dsimp only [aF,aG];apply aA (fV r m m A hr hA1) rfl;apply aA (bG (xP kind m).abs (r^m) 300 (A*m+1) haf hpf) rfl;apply aA bW rfl;apply aA (jW ((1:Int):Rat) (aZ r (((m:Int)+1:Int):Rat)) 1 (A+A+200) h1f hqf) rfl;dsimp only [aF,aG];apply aA (bD _ _ (300+(A*m+1)) (1+(A+A+200)+1) (haf.mul hpf) (h1f.sub hqf)) rfl;rw [show aZ ((xP kind m).abs*r^m) (((1:Int):Rat)-aZ r (((m:Int)+1:Int):Rat))=JL kind m r by rw [JL,hQ]];refine kD (ts:=[[a0,a1,a2]]) (us:=[qC (JL kind m r)]) rfl rfl (by omega) (cells:=[a0,a1,a2]) rfl rfl ?_;dsimp only [aF,aG];exact dB rfl rfl
 apply vn aC rfl;refine vs _ rfl ?_ ?_<;>intro h26
 ·apply aA (bG r r A A hr hr) rfl;apply vn (aH) rfl;apply vn (aH) rfl;dsimp only [aF,aG];apply vn (cU) rfl;apply aA (lQ 1 (((m:Int)+1)*((m:Int)+2))) rfl;apply aA (bG (r*r) _ (A+A) (1+64) (hr.mul hr) hq2) rfl;dsimp only [aF,aG];have hQ:DY kind m r=r*r*aZ ((1:Int):Rat) ((((m:Int)+1)*((m:Int)+2):Int):Rat):=by unfold DY;rw [if_neg (by omega),if_pos (by omega)]
  rw [hQ] at hq;have hqf:Fit (A+A+200) (r*r*aZ ((1:Int):Rat) ((((m:Int)+1)*((m:Int)+2):Int):Rat)):=hq3;apply aA bW rfl;apply aA (bE (r*r*aZ ((1:Int):Rat) ((((m:Int)+1)*((m:Int)+2):Int):Rat)) ((1:Int):Rat) (A+A+200) 1 hqf h1f) rfl;apply vn iE rfl;refine vs _ rfl ?_ ?_<;>intro h36
  ·exact absurd (mL.1 h36) (by grind)
  apply aA (fZ (xP kind m)) rfl;dsimp only [aF,aG];apply aA (fV r m m A hr hA1) rfl;apply aA (bG (xP kind m).abs (r^m) 300 (A*m+1) haf hpf) rfl;apply aA bW rfl;apply aA (jW ((1:Int):Rat) (r*r*aZ ((1:Int):Rat) ((((m:Int)+1)*((m:Int)+2):Int):Rat)) 1 (A+A+200) h1f hqf) rfl;dsimp only [aF,aG];apply aA (bD _ _ (300+(A*m+1)) (1+(A+A+200)+1) (haf.mul hpf) (h1f.sub hqf)) rfl;rw [show aZ ((xP kind m).abs*r^m) (((1:Int):Rat)-r*r*aZ ((1:Int):Rat) ((((m:Int)+1)*((m:Int)+2):Int):Rat))=JL kind m r by rw [JL,hQ]];refine kD (ts:=[[a0,a1,a2]]) (us:=[qC (JL kind m r)]) rfl rfl (by omega) (cells:=[a0,a1,a2]) rfl rfl ?_;dsimp only [aF,aG];exact dB rfl rfl
 apply vn aC rfl;refine vs _ rfl ?_ ?_<;>intro h47
 ·apply aA (bG r r A A hr hr) rfl;apply vn (aH) rfl;apply vn (aH) rfl;dsimp only [aF,aG];apply vn (cU) rfl;apply aA (lQ 1 (((m:Int)+1)*((m:Int)+2))) rfl;apply aA (bG (r*r) _ (A+A) (1+64) (hr.mul hr) hq2) rfl;dsimp only [aF,aG];have hQ:DY kind m r=r*r*aZ ((1:Int):Rat) ((((m:Int)+1)*((m:Int)+2):Int):Rat):=by unfold DY;rw [if_neg (by omega),if_pos (by omega)]
  rw [hQ] at hq;have hqf:Fit (A+A+200) (r*r*aZ ((1:Int):Rat) ((((m:Int)+1)*((m:Int)+2):Int):Rat)):=hq3;apply aA bW rfl;apply aA (bE (r*r*aZ ((1:Int):Rat) ((((m:Int)+1)*((m:Int)+2):Int):Rat)) ((1:Int):Rat) (A+A+200) 1 hqf h1f) rfl;apply vn iE rfl;refine vs _ rfl ?_ ?_<;>intro h57
  ·exact absurd (mL.1 h57) (by grind)
  apply aA (fZ (xP kind m)) rfl;dsimp only [aF,aG];apply aA (fV r m m A hr hA1) rfl;apply aA (bG (xP kind m).abs (r^m) 300 (A*m+1) haf hpf) rfl;apply aA bW rfl;apply aA (jW ((1:Int):Rat) (r*r*aZ ((1:Int):Rat) ((((m:Int)+1)*((m:Int)+2):Int):Rat)) 1 (A+A+200) h1f hqf) rfl;dsimp only [aF,aG];apply aA (bD _ _ (300+(A*m+1)) (1+(A+A+200)+1) (haf.mul hpf) (h1f.sub hqf)) rfl;rw [show aZ ((xP kind m).abs*r^m) (((1:Int):Rat)-r*r*aZ ((1:Int):Rat) ((((m:Int)+1)*((m:Int)+2):Int):Rat))=JL kind m r by rw [JL,hQ]];refine kD (ts:=[[a0,a1,a2]]) (us:=[qC (JL kind m r)]) rfl rfl (by omega) (cells:=[a0,a1,a2]) rfl rfl ?_;dsimp only [aF,aG];exact dB rfl rfl
 have hQ:DY kind m r=r:=by unfold DY;rw [if_neg (by omega),if_neg (by omega)]
 rw [hQ] at hq;have hqf:Fit (A+A+200) (r):=hr.mono (by omega);apply aA bW rfl;apply aA (bE (r) ((1:Int):Rat) (A+A+200) 1 hqf h1f) rfl;apply vn iE rfl;refine vs _ rfl ?_ ?_<;>intro h70
 ·exact absurd (mL.1 h70) (by grind)
 apply aA (fZ (xP kind m)) rfl;dsimp only [aF,aG];apply aA (fV r m m A hr hA1) rfl;apply aA (bG (xP kind m).abs (r^m) 300 (A*m+1) haf hpf) rfl;apply aA bW rfl;apply aA (jW ((1:Int):Rat) (r) 1 (A+A+200) h1f hqf) rfl;dsimp only [aF,aG];apply aA (bD _ _ (300+(A*m+1)) (1+(A+A+200)+1) (haf.mul hpf) (h1f.sub hqf)) rfl;rw [show aZ ((xP kind m).abs*r^m) (((1:Int):Rat)-r)=JL kind m r by rw [JL,hQ]];refine kD (ts:=[[a0,a1,a2]]) (us:=[qC (JL kind m r)]) rfl rfl (by omega) (cells:=[a0,a1,a2]) rfl rfl ?_;dsimp only [aF,aG];exact dB rfl rfl
theorem Zc (kind n m A:Nat) (r:Rat) (c:List aL) (hc:c.length=1) (hn:n≤m) (hm:m≤43) (hk6:kind≤6) (hx:xP kind m≠0) (hr:Fit A r) (hA1:1≤A) (hA:A≤1000000) (hq:((1:Int):Rat)≤DY kind m r):vc prog (fun o=>o = .retr [] ([[.int .i64 11]])) (cC prog 81 (fun _=>none) (bC [1,1,1,1,1,0,1,0,1] (bH f16)) [(3, .ref 1),(4, .ref 1),(5, .ref 3),(12, .v none),(13, .ref 3)] 11 40 1 1 ([].map ResultVar.tmp)) ([.ref ([.int .u8 (kind:Int)]), .ref ([.int .i64 (n:Int)]), .ref (qC r), .v (.one (.int .i64 (m:Int))), .ref (qC (xP kind m))].map In.env ++ [.rows ([c])]) []:=by
 rw [Lw];dsimp only [List.map,In.env,aF,aG];obtain ⟨a0,rfl⟩:=SF hc;have hxf:=QI kind hk6 m (by omega);have hb:0≤((m:Int)+1)*((m:Int)+2)∧((m:Int)+1)*((m:Int)+2)≤44*45:=⟨Int.mul_nonneg (by omega) (by omega),Int.mul_le_mul (by omega) (by omega) (by omega) (by omega)⟩
 have hpf:=nL hr m hA1;have hAm:A*m≤1000000*43:=Nat.mul_le_mul hA hm;have h1f:Fit 1 ((1:Int):Rat):=Fit.int (by omega) (by omega);have hif:Fit 64 (((m:Int)+1:Int):Rat):=Fit.int (by omega) (by omega);have hif2:Fit 64 ((((m:Int)+1)*((m:Int)+2):Int):Rat):=Fit.int (by omega) (by omega);have haf:=Oq hxf;have hq1:Fit (A+A+200) (aZ r (((m:Int)+1:Int):Rat)):=(eA hr hif hA1).mono (by omega);have hq2:Fit (1+64) (aZ ((1:Int):Rat) ((((m:Int)+1)*((m:Int)+2):Int):Rat)):=eA h1f hif2;have hq3:Fit (A+A+200) (r*r*aZ ((1:Int):Rat) ((((m:Int)+1)*((m:Int)+2):Int):Rat)):=((hr.mul hr).mul hq2).mono (by omega);apply vn bA rfl;refine vs _ rfl ?_ ?_<;>intro h1
 ·exfalso;omega
 apply aA (bB _) rfl;apply vn aC rfl;refine vs _ rfl ?_ ?_<;>intro h5
 ·exact absurd (kU.1 h5) hx
 apply vn aC rfl;dsimp only [aF,aG];refine vs _ rfl ?_ ?_<;>intro h8
 ·apply vn (aH) rfl;apply aA (aY _) rfl;apply aA (bD r _ A 64 hr hif) rfl;dsimp only [aF,aG];have hQ:DY kind m r=aZ r (((m:Int)+1:Int):Rat):=by unfold DY;rw [if_pos (by omega)]
  rw [hQ] at hq;have hqf:Fit (A+A+200) (aZ r (((m:Int)+1:Int):Rat)):=hq1;apply aA bW rfl;apply aA (bE (aZ r (((m:Int)+1:Int):Rat)) ((1:Int):Rat) (A+A+200) 1 hqf h1f) rfl;apply vn iE rfl;refine vs _ rfl ?_ ?_<;>intro h15
  ·refine kD (ts:=[[a0]]) (us:=[[.int .i64 11]]) rfl rfl (by omega) (cells:=[a0]) rfl rfl ?_;dsimp only [aF,aG];exact dB rfl rfl
  exact absurd (mL.2 hq) h15
 apply vn aC rfl;refine vs _ rfl ?_ ?_<;>intro h26
 ·apply aA (bG r r A A hr hr) rfl;apply vn (aH) rfl;apply vn (aH) rfl;dsimp only [aF,aG];apply vn (cU) rfl;apply aA (lQ 1 (((m:Int)+1)*((m:Int)+2))) rfl;apply aA (bG (r*r) _ (A+A) (1+64) (hr.mul hr) hq2) rfl;dsimp only [aF,aG];have hQ:DY kind m r=r*r*aZ ((1:Int):Rat) ((((m:Int)+1)*((m:Int)+2):Int):Rat):=by unfold DY;rw [if_neg (by omega),if_pos (by omega)]
  rw [hQ] at hq;have hqf:Fit (A+A+200) (r*r*aZ ((1:Int):Rat) ((((m:Int)+1)*((m:Int)+2):Int):Rat)):=hq3;apply aA bW rfl;apply aA (bE (r*r*aZ ((1:Int):Rat) ((((m:Int)+1)*((m:Int)+2):Int):Rat)) ((1:Int):Rat) (A+A+200) 1 hqf h1f) rfl;apply vn iE rfl;refine vs _ rfl ?_ ?_<;>intro h36
  ·refine kD (ts:=[[a0]]) (us:=[[.int .i64 11]]) rfl rfl (by omega) (cells:=[a0]) rfl rfl ?_;dsimp only [aF,aG];exact dB rfl rfl
  exact absurd (mL.2 hq) h36
 apply vn aC rfl;refine vs _ rfl ?_ ?_<;>intro h47
 ·apply aA (bG r r A A hr hr) rfl;apply vn (aH) rfl;apply vn (aH) rfl;dsimp only [aF,aG];apply vn (cU) rfl;apply aA (lQ 1 (((m:Int)+1)*((m:Int)+2))) rfl;apply aA (bG (r*r) _ (A+A) (1+64) (hr.mul hr) hq2) rfl;dsimp only [aF,aG];have hQ:DY kind m r=r*r*aZ ((1:Int):Rat) ((((m:Int)+1)*((m:Int)+2):Int):Rat):=by unfold DY;rw [if_neg (by omega),if_pos (by omega)]
  rw [hQ] at hq;have hqf:Fit (A+A+200) (r*r*aZ ((1:Int):Rat) ((((m:Int)+1)*((m:Int)+2):Int):Rat)):=hq3;apply aA bW rfl;apply aA (bE (r*r*aZ ((1:Int):Rat) ((((m:Int)+1)*((m:Int)+2):Int):Rat)) ((1:Int):Rat) (A+A+200) 1 hqf h1f) rfl;apply vn iE rfl;refine vs _ rfl ?_ ?_<;>intro h57
  ·refine kD (ts:=[[a0]]) (us:=[[.int .i64 11]]) rfl rfl (by omega) (cells:=[a0]) rfl rfl ?_;dsimp only [aF,aG];exact dB rfl rfl
  exact absurd (mL.2 hq) h57
 have hQ:DY kind m r=r:=by unfold DY;rw [if_neg (by omega),if_neg (by omega)]
 rw [hQ] at hq;have hqf:Fit (A+A+200) (r):=hr.mono (by omega);apply aA bW rfl;apply aA (bE (r) ((1:Int):Rat) (A+A+200) 1 hqf h1f) rfl;apply vn iE rfl;refine vs _ rfl ?_ ?_<;>intro h70
 ·refine kD (ts:=[[a0]]) (us:=[[.int .i64 11]]) rfl rfl (by omega) (cells:=[a0]) rfl rfl ?_;dsimp only [aF,aG];exact dB rfl rfl
 exact absurd (mL.2 hq) h70
open Go Go.Proofs Go.RowKit Tryz Ord
attribute [local go_sem] Oper.semAt_some
theorem He {kind n:Nat} (h1:1≤kind) (h6:kind≤6) {M:Nat→Prop} {w:World} (hM:Fine M w) (hn:n≤43:=by omega) :
  Calls prog 15 #[.int .u8 (kind:Int), .int .i64 (n:Int)] w fun e w'=>Below w.heap.size w w'∧∃ v,e = .returned (.tuple #[v, .int .i64 0])∧v.oneCell'=true:=by
 refine ((GR kind n h1 h6 hn).2 M w [.int .u8 (kind:Int), .int .i64 (n:Int)] hM ⟨⟨rfl,rfl⟩,⟨rfl,rfl⟩,trivial⟩).mono ?_;rintro e w' ⟨hb,us,rfl,hus⟩
 match us,hus with
 | [v,v'],hus=>
   obtain ⟨h1,⟨rfl,_⟩,_⟩:=hus;exact ⟨hb,v,rfl,(sQ (SZ kind n)).one h1⟩
 | [],hus=>exact hus.elim
 | [_],hus=>exact hus.2.elim
 | _::_::_::_,hus=>exact hus.2.2.elim
theorem Kc (kind n:Nat):n≤gN kind n:=by unfold gN;split<;>omega
theorem Od:∀ k,k≤6→∀ n,n≤42→1≤k→(∀ i,i<gN k n→n≤i→xP k i=0)∧xP k (gN k n)≠0∧gN k n≤43:=by
 intro k hk n hn h1;unfold gN;by_cases h:(QB k n).q=0
 ·rw [if_pos h];refine ⟨fun i hi hni=>?_,?_,by omega⟩
  ·obtain rfl:i=n:=by omega
   rw [LL k hk i (by omega) h1];exact h
  ·rw [LL k hk (n+1) (by omega) h1];exact Tk k hk n hn h
 ·rw [if_neg h];exact ⟨fun i hi hni=>by omega,by rw [LL k hk n (by omega) h1];exact h,by omega⟩
theorem Ua {M M':Nat→Prop} {W W':World} {vs:List Value} (h:aM M W lY vs):aM M' W' lY vs:=by
 match vs,h with
 | [a,b,c],h=>exact ⟨h.1,h.2.1,h.2.2.1,trivial⟩
 | [],h=>exact h.elim
 | [_],h=>exact h.2.elim
 | [_,_],h=>exact h.2.2.elim
 | _::_::_::_::_,h=>exact h.2.2.2.elim
set_option maxRecDepth 100000 in
set_option maxHeartbeats 1000000 in
theorem yN (kind n A:Nat) (r:Rat) (hr0:0<r) (hr:Fit A r) (hq:DY kind (gN kind n) r<((1:Int):Rat)) (h1:1≤kind:=by omega) (h6:kind≤6:=by omega) (hn:n≤42:=by omega) (hA1:1≤A:=by omega) (hA:A≤1000000:=by omega) :
  aD prog 16 [.one (.int .u8 (kind:Int)), .one (.int .i64 (n:Int)),qT r] (.ret [qT (JL kind (gN kind n) r), .one (.int .i64 0)]):=by
 obtain ⟨hz,hne,hR43⟩:=Od kind h6 n hn h1;have hle:=Kc kind n;obtain ⟨R,hR⟩:∃ R,R=gN kind n:=⟨_,rfl⟩
 rw [←hR] at hz hne hR43 hle hq ⊢;have hS:=bB r;rw [Int.sign_eq_one_of_pos (show 0<r.num from (Int.lt_iff_le_and_ne.2 ⟨Rat.num_nonneg.2 (by grind),fun e=>by rw [Rat.num_eq_zero.1 e.symm] at hr0;exact absurd hr0 (by decide)⟩))] at hS;refine ⟨enters_of func16 (by kernel_rfl) rfl,fun M w vs hM hv=>?_⟩
 match vs,hv with
 | [],hv=>exact hv.elim
 | [_],hv=>exact hv.2.elim
 | [_,_],hv=>exact hv.2.2.elim
 | _::_::_::_::_,hv=>exact hv.2.2.2.elim
 | [w0,w1,w2],hv=>
 obtain ⟨⟨rfl,_⟩,⟨rfl,_⟩,hrs,_⟩:=hv;obtain ⟨v0,v1,v2,hpk,hr3⟩:=My (show bR M w [qT r] [w2] from ⟨hrs,trivial⟩);obtain rfl:w2 = .agg #[v0,v1,v2]:=hpk;have hone:=hr3.one;refine (callsIn_wide (n:=1001)).1 ?_;refine callsIn_of_wp_marks func16 rfl trivial ?_ rfl;simp only [ntmps16,List.size_toArray,List.length_cons,List.length_nil,Nat.reduceAdd,Nat.reduceSub,Array.replicate_succ,Array.replicate_zero,List.push_toArray,List.append_toArray,List.nil_append,List.cons_append];obtain ⟨n0,hn0⟩:∃ n0,w.heap.size=n0:=⟨_,rfl⟩
 obtain ⟨W0,hW0⟩:∃ W0,((((w.alloc (.cells #[.int .u8 (kind:Int)] 5)).alloc (.cells #[.int .i64 (n:Int)] 3)).alloc (.cells #[v0,v1,v2] 30)).alloc (.cells #[.slice none 0 0, .bool false, .slice none 0 0] 30))=W0:=⟨_,rfl⟩
 have hs0:n0+4=W0.heap.size:=by rw [←hW0];simp [hn0]
 have hb0:Below n0 w W0:=by
  rw [←hW0];exact ((((Below.refl _ w).alloc (by omega) _).alloc (by simp;omega) _).alloc (by simp;omega) _).alloc (by simp;omega) _
 have hk0:W0.heap[n0]? = some (.cells #[.int .u8 (kind:Int)] 5 (0,0)):=by rw [←hW0,heap_alloc_old _ _ _ (by simp;omega),heap_alloc_old _ _ _ (by simp;omega),heap_alloc_old _ _ _ (by simp;omega),←hn0];exact heap_alloc_new w _
 have hc0:W0.heap[n0+1]? = some (.cells #[.int .i64 (n:Int)] 3 (0,0)):=by
  rw [←hW0,heap_alloc_old _ _ _ (by simp;omega),heap_alloc_old _ _ _ (by simp;omega)];have:=heap_alloc_new (w.alloc (.cells #[.int .u8 (kind:Int)] 5)) (.cells #[.int .i64 (n:Int)] 3);rw [World.size_alloc,hn0] at this;exact this
 have hr0':W0.heap[n0+2]? = some (.cells #[v0,v1,v2] 30 (0,0)):=by
  rw [←hW0,heap_alloc_old _ _ _ (by simp;omega)];have:=heap_alloc_new ((w.alloc (.cells #[.int .u8 (kind:Int)] 5)).alloc (.cells #[.int .i64 (n:Int)] 3)) (.cells #[v0,v1,v2] 30);rw [World.size_alloc,World.size_alloc,hn0] at this;exact this
 have ht0:W0.heap[n0+3]? = some (.cells #[.slice none 0 0, .bool false, .slice none 0 0] 30 (0,0)):=by
  rw [←hW0];have:=heap_alloc_new (((w.alloc (.cells #[.int .u8 (kind:Int)] 5)).alloc (.cells #[.int .i64 (n:Int)] 3)).alloc (.cells #[v0,v1,v2] 30)) (.cells #[.slice none 0 0, .bool false, .slice none 0 0] 30);rw [World.size_alloc,World.size_alloc,World.size_alloc,hn0] at this;exact this
 have c0:W0.cell? ⟨n0,0,none⟩=some (.int .u8 (kind:Int)):=aB hk0 rfl;have c1:W0.cell? ⟨n0+1,0,none⟩=some (.int .i64 (n:Int)):=aB hc0 rfl
 gi_wp2
 simp only [Nat.add_assoc,Nat.reduceAdd];have hlow:∀ b,M b→b<n0:=fun b hb=>by have:=hM.1 b hb;omega
 have gG:∀ W',Below n0 w W'→Fine M W':=fun W' h=>⟨fun b hb=>by have:=hM.1 b hb;have:=h.size;omega,hM.2.cE (aR.below (hn0▸h))⟩
 refine ⟨trivial,?_⟩;refine (callsIn_wide.2 (He h1 h6 (gG W0 hb0))).mono ?_;rintro e W1 ⟨hb1,sv,rfl,hso⟩;have hs1:=hb1.size;have hb1':Below n0 w W1:=hb0.trans (hb1.mono (by omega));have hr1:=(hb1.block (n0+2) (by omega)).trans hr0';have f0:W1.cell? ⟨n0+2,0,none⟩=some v0:=aB hr1 rfl;have f1:W1.cell? ⟨n0+2,1,none⟩=some v1:=aB hr1 rfl;have f2:W1.cell? ⟨n0+2,2,none⟩=some v2:=aB hr1 rfl;dsimp only
 gi_wp2
 refine ⟨trivial,?_⟩;refine (callsIn_wide.2 (lL hS (gG W1 hb1') (vs:=[.agg #[v0,v1,v2]]) ⟨⟨_,rfl,hr3.mono (aR.below (hn0▸hb1'))⟩,trivial⟩)).mono ?_;rintro e W2 ⟨hb2,rfl⟩;have hs2:=hb2.size;have hb2':Below n0 w W2:=hb1'.trans (hb2.mono (by omega));have hk2:=(hb2.block n0 (by omega)).trans ((hb1.block n0 (by omega)).trans hk0);have hc2:=(hb2.block (n0+1) (by omega)).trans ((hb1.block (n0+1) (by omega)).trans hc0);have hr2:=(hb2.block (n0+2) (by omega)).trans hr1;have ht2:=(hb2.block (n0+3) (by omega)).trans ((hb1.block (n0+3) (by omega)).trans ht0);obtain ⟨n2,hn2⟩:∃ n2,W2.heap.size=n2:=⟨_,rfl⟩
 obtain ⟨W3,hW3⟩:∃ W3,((W2.alloc (.cells #[.slice none 0 0, .bool false, .slice none 0 0] 30)).alloc (.cells #[.int .i64 0] 40))=W3:=⟨_,rfl⟩
 have hs3:n2+2=W3.heap.size:=by rw [←hW3];simp [hn2]
 have hb3:Below n2 W2 W3:=by
  rw [←hW3];exact ((Below.refl _ W2).alloc (by omega) _).alloc (by simp;omega) _
 have ho3:W3.heap[n2]? = some (.cells #[.slice none 0 0, .bool false, .slice none 0 0] 30 (0,0)):=by rw [←hW3,heap_alloc_old _ _ _ (by simp;omega),←hn2];exact heap_alloc_new W2 _
 have he3:W3.heap[n2+1]? = some (.cells #[.int .i64 0] 40 (0,0)):=by
  rw [←hW3];have:=heap_alloc_new (W2.alloc (.cells #[.slice none 0 0, .bool false, .slice none 0 0] 30)) (.cells #[.int .i64 0] 40);rw [World.size_alloc,hn2] at this;exact this
 have hk3:=(hb3.block n0 (by omega)).trans hk2;have e3:W3.cell? ⟨n2+1,0,none⟩=some (.int .i64 0):=aB he3 rfl;have g3:W3.frozen? ⟨n2+1,0,none⟩=false:=zQ he3 0;have hW4:=setCell_eq_setRow W3 (n2+1) 0 #[.int .i64 0] 40 (0,0) (.int .i64 0) he3;have he4:(W3.setCell ⟨n2+1,0,none⟩ (.int .i64 0)).heap[n2+1]? = some (.cells #[.int .i64 0] 40 (0,0)):=by rw [hW4];exact setRow_heap _ _ _ _ _ _ he3
 have hb4:Below n2 W3 (W3.setCell ⟨n2+1,0,none⟩ (.int .i64 0)):=by rw [hW4];exact below_setRow (Below.refl _ _) _
 have ho4:(W3.setCell ⟨n2+1,0,none⟩ (.int .i64 0)).heap[n2]? = some (.cells #[.slice none 0 0, .bool false, .slice none 0 0] 30 (0,0)):=by rw [hW4,setRow_other _ _ _ _ (by omega)];exact ho3
 have hs4:W3.heap.size=(W3.setCell ⟨n2+1,0,none⟩ (.int .i64 0)).heap.size:=by rw [hW4];simp [World.setRow]
 have c3:(W3.setCell ⟨n2+1,0,none⟩ (.int .i64 0)).cell? ⟨n0,0,none⟩=some (.int .u8 (kind:Int)):=aB ((hb4.block n0 (by omega)).trans hk3) rfl;clear hW4;dsimp only
 gi_wp2
 generalize W3.setCell ⟨n2+1,0,none⟩ (.int .i64 0)=W4 at *;have hb4':Below n0 w W4:=hb2'.trans ((hb3.mono (by omega)).trans (hb4.mono (by omega)));have hk4:=(hb4.block n0 (by omega)).trans hk3;have hc4:=(hb4.block (n0+1) (by omega)).trans ((hb3.block (n0+1) (by omega)).trans hc2);have hr4:=(hb4.block (n0+2) (by omega)).trans ((hb3.block (n0+2) (by omega)).trans hr2);have ht4:=(hb4.block (n0+3) (by omega)).trans ((hb3.block (n0+3) (by omega)).trans ht2);obtain ⟨M3,hM3⟩:∃ M3:Nat→Prop,M3=fun b=>Mg M (n0+3) b∨b=n2:=⟨_,rfl⟩
 have m3:∀ b,M3 b→b<n0∨b=n0+3∨b=n2:=fun b h=>by
  rw [hM3] at h;rcases h with (h | h) | h
  ·exact .inl (hlow b h)
  ·exact .inr (.inl h)
  ·exact .inr (.inr h)
 have hkM:aR M w M3 W4:=fun b o hb ho _=>by
  have hlt:=(dS.1 ho).1;refine ⟨fun h=>?_,(hb4'.block b (by omega)).trans ho⟩;rw [hM3] at h;rcases h with (h | h) | h
  ·exact hb h
  ·omega
  ·omega
 have hF4:Fine M3 W4:=⟨fun b hb=>by have:=m3 b hb;omega,hM.2.cE hkM⟩
 refine ⟨trivial,?_⟩;refine (callsIn_wide.2 (Mh (iD kind) hF4 (vs:=[.int .u8 (kind:Int)]) ⟨⟨rfl,rfl⟩,trivial⟩)).mono ?_;rintro e W5 ⟨hb5,vp,rfl,hvp⟩;have hs5:=hb5.size;have hb5':Below n0 w W5:=hb4'.trans (hb5.mono (by omega));have hk5:=(hb5.block n0 (by omega)).trans hk4;have hc5:=(hb5.block (n0+1) (by omega)).trans hc4;have hr5:=(hb5.block (n0+2) (by omega)).trans hr4;have ht5:=(hb5.block (n0+3) (by omega)).trans ht4;have ho5:=(hb5.block n2 (by omega)).trans ho4;have he5:=(hb5.block (n2+1) (by omega)).trans he4;have hF5:Fine M3 W5:=⟨fun b hb=>by have:=hF4.1 b hb;omega,hF4.2.cE (aR.below hb5)⟩
 have hrr5:=(hr3.mono hkM).mono (aR.below hb5);have hnm:∀ j,n0≤j→j<n0+3→¬ M3 j:=fun j h1 h2 h=>by have:=m3 j h;omega
 dsimp only
 gi_wp2
 refine Dx M3 kind R h1 h6 hR43 (o:=n2) (T:=30) (p1:=32) (p2:=33) (id:=0) (cs:=fun i=>if i≤R then [.exact (.slice none 0 0), .exact (.bool false), .exact (.slice none 0 0)] else qC (JL kind R r))
  (tf:=fun i x b=>#[.int .u8 (kind:Int), .int .i64 (n:Int), .agg #[v0,v1,v2], .pointer (some ⟨n0,0,none⟩), .pointer (some ⟨n0+1,0,none⟩), .pointer (some ⟨n0+2,0,none⟩), .pointer (some ⟨n0+3,0,none⟩), .int .i64 0,sv, .int .i64 0, .pointer (some ⟨n2,0,none⟩), .pointer (some ⟨n2+1,0,none⟩), .int .i64 (i:Int), .pointer (some ⟨b,0,none⟩),undef,undef, .tuple #[sv, .int .i64 0], .int .u8 (kind:Int), .int .i64 (n:Int), .tuple #[sv, .int .i64 0],sv, .int .i64 0, .int .i64 0, .bool false,undef,undef, .agg #[v0,v1,v2], .int .i64 1, .bool false,undef, .int .u8 (kind:Int), .func (.func 117) #[] #[vp], .int .i64 (i:Int),x,undef,undef,undef,undef,undef,undef,undef,undef,undef,undef,undef,undef,undef,undef,undef,undef,undef,undef,undef,undef,undef,undef,undef,undef,undef,undef,undef,undef,undef,undef,undef,undef,undef,undef,undef,undef,undef,undef,undef,undef,undef,undef,undef,undef,undef,undef,undef])
  hF5 hvp rfl (by rw [hM3];exact .inr rfl) (cur0:=#[.slice none 0 0, .bool false, .slice none 0 0]) ho5 (by rw [if_pos (fP _)];exact ⟨⟨rfl,rfl⟩,⟨rfl,rfl⟩,⟨rfl,rfl⟩,trivial⟩) ?_ ?_ ?_ ?_
 ·intro M' W vs h;rw [if_pos (fP _)] at h ⊢;exact Ua h
 ·intro l i u0 u1 u2 W K hone' hK
  gi_wp2
  obtain ⟨W',hW',e'⟩:=gQ (W:=W) (hone' u0 (by simp)) (hone' u1 (by simp)) (hone' u2 (by simp));rw [e'];rw [hW'] at hK
  gi_wp2
  exact hK
 ·intro i hi l g W cur b x Q hq' hgw hFW hkp hcu hcr hp hQ;have hkeepb:∀ j,n0≤j→j<n0+3→¬ Mg M3 g j:=fun j h1 h2 h=>h.elim (hnm j h1 h2) (by omega);have hkv:(aL.bI [.int .u8 (kind:Int)]).rep (Mg M3 g) W (.pointer (some ⟨n0,0,none⟩)):=⟨n0,0,#[.int .u8 (kind:Int)],5,(0,0),rfl,hkeepb n0 (by omega) (by omega),(hkp _ _ (hnm n0 (by omega) (by omega)) hk5 rfl).2,⟨rfl,rfl⟩,trivial⟩
  have hnv:(aL.bI [.int .i64 (n:Int)]).rep (Mg M3 g) W (.pointer (some ⟨n0+1,0,none⟩)):=⟨n0+1,0,#[.int .i64 (n:Int)],3,(0,0),rfl,hkeepb _ (by omega) (by omega),(hkp _ _ (hnm _ (by omega) (by omega)) hc5 rfl).2,⟨rfl,rfl⟩,trivial⟩
  have hrv:(aL.bI (qC r)).rep (Mg M3 g) W (.pointer (some ⟨n0+2,0,none⟩)):=⟨n0+2,0,#[v0,v1,v2],30,(0,0),rfl,hkeepb _ (by omega) (by omega),(hkp _ _ (hnm _ (by omega) (by omega)) hr5 rfl).2,by simpa using hrr5.mono hkp⟩
  rw [if_pos hi] at hcr;by_cases hlt:i<R
  ·rw [if_pos hlt,if_pos (show i+1≤R by omega)] at hQ
   refine fJ (N:=81) (t0:=10) (T:=30) (n:=3) (want:=0) (g:=n2) (cur:=cur) (ins:=[(3, .ref 1),(4, .ref 1),(5, .ref 3),(12, .v none),(13, .ref 3)]) (xs:=[.ref [.int .u8 (kind:Int)], .ref [.int .i64 (n:Int)], .ref (qC r), .v (.one (.int .i64 (i:Int))), .ref (qC (xP kind i))]) fo ⟨rfl,rfl,rfl,rfl,rfl,trivial⟩
    (aa5 kind n i r [.exact (.slice none 0 0), .exact (.bool false), .exact (.slice none 0 0)] (by rcases Nat.lt_or_ge i n with h | h<;>first | exact .inl h | exact .inr (hz i hlt h))) (by kernel_rfl) (by kernel_rfl) hq' hFW (.inl (by rw [hM3];exact .inr rfl)) rfl rfl rfl (by omega) ⟨hkv,hnv,hrv,⟨rfl,rfl⟩,hp,trivial⟩ rfl hcu hcr ?_
   intro a' W' us cur' hg _ _ _ hc' _ hr';exact hQ a' W' cur' hg hc' hr'
  ·obtain rfl:i=R:=by omega
   rw [if_neg hlt,if_neg (show ¬ i+1≤i by omega)] at hQ
   refine fJ (N:=81) (t0:=10) (T:=30) (n:=3) (want:=1) (g:=n2) (cur:=cur) (ins:=[(3, .ref 1),(4, .ref 1),(5, .ref 3),(12, .v none),(13, .ref 3)]) (xs:=[.ref [.int .u8 (kind:Int)], .ref [.int .i64 (n:Int)], .ref (qC r), .v (.one (.int .i64 (i:Int))), .ref (qC (xP kind i))]) fo ⟨rfl,rfl,rfl,rfl,rfl,trivial⟩
    (Xp kind n i A r [.exact (.slice none 0 0), .exact (.bool false), .exact (.slice none 0 0)] rfl hle hR43 h6 hne hr hA1 hA hq) (by kernel_rfl) (by kernel_rfl) hq' hFW (.inl (by rw [hM3];exact .inr rfl)) rfl rfl rfl (by omega) ⟨hkv,hnv,hrv,⟨rfl,rfl⟩,hp,trivial⟩ rfl hcu hcr ?_
   intro a' W' us cur' hg _ _ _ hc' _ hr';exact hQ a' W' cur' hg hc' hr'
 ·intro W cur g hgw hos htape hout hsz hblk hD hcu hcr;rw [if_neg (by omega)] at hcr;have ht6:=(hblk (n0+3) (by omega) (by omega)).trans ht5
  obtain ⟨x0,x1,x2,ez,hX,hE,hxr⟩:∃ x0 x1 x2 ez,W.heap[n2]? = some (.cells #[x0,x1,x2] 30 (0,0))∧W.heap[n2+1]? = some (.cells #[.int .i64 ez] 40 (0,0))∧ez=0∧aM (Mg M3 g) W (qC (JL kind R r)) [x0,x1,x2]:=by
   obtain ⟨x0,x1,x2,hcc⟩:=lO (show cur.toList.length=3 from hcr.length.symm);obtain rfl:cur = #[x0,x1,x2]:=by rw [←Array.toArray_toList (xs:=cur),hcc]
   exact ⟨x0,x1,x2,0,hcu,(hblk (n2+1) (by omega) (by omega)).trans he5,rfl,hcr⟩
  obtain ⟨rfl,hxr⟩:=hxr;have hxo:=hxr.one;have gen:∀ (W6:World),Below W5.heap.size W W6→W6.heap[n0+3]? = some (.cells #[x0,x1,x2] 30 (0,0))→True:=fun _ _ _=>trivial;rename_i K hK;refine (show Exit.inBlock 0 (Exit.then K _) (.exit 0) _ _ from hK _ _ ?_);clear hK K gen;refine wpIn_seq_k fun K hK=>wpIn_region_any (by kernel_rfl) ?_;obtain ⟨Wd,hWd⟩:∃ Wd:World,{ W with drawn:=W.drawn+1 } = Wd:=⟨_,rfl⟩
  have hd:Wd.heap=W.heap∧Wd.os=W.os∧Wd.tape=W.tape∧Wd.output=W.output:=by rw [←hWd];exact ⟨rfl,rfl,rfl,rfl⟩
  rw [hWd];clear hWd;have hXd:Wd.heap[n2]? = some (.cells #[x0,x1,x2] 30 (0,0)):=by rw [hd.1];exact hX
  have hEd:Wd.heap[n2+1]? = some (.cells #[.int .i64 0] 40 (0,0)):=by rw [hd.1];exact hE
  have hTd:Wd.heap[n0+3]? = some (.cells #[.slice none 0 0, .bool false, .slice none 0 0] 30 (0,0)):=by rw [hd.1];exact ht6
  have k0:Wd.cell? ⟨n2,0,none⟩=some x0:=aB hXd rfl;have k1:Wd.cell? ⟨n2,1,none⟩=some x1:=aB hXd rfl;have k2:Wd.cell? ⟨n2,2,none⟩=some x2:=aB hXd rfl;have k3:Wd.cell? ⟨n2+1,0,none⟩=some (.int .i64 0):=aB hEd rfl;have hst:=wY (P:=prog) hTd (hxo x0 (by simp)) (hxo x1 (by simp)) (hxo x2 (by simp));obtain ⟨W6,hW6⟩:∃ W6,Wd.setRow (n0+3) #[x0,x1,x2]=W6:=⟨_,rfl⟩
  have h66:W6.heap[n0+3]? = some (.cells #[x0,x1,x2] 30 (0,0)):=by rw [←hW6];exact setRow_heap _ _ _ _ _ _ hTd
  have h6o:∀ j,j≠n0+3→W6.heap[j]? = W.heap[j]?:=fun j hj=>by rw [←hW6,setRow_other _ _ _ _ hj,hd.1]
  have h6s:W6.heap.size=W.heap.size:=by rw [←hW6,←hd.1];simp [World.setRow]
  have h6w:W6.os=W.os∧W6.tape=W.tape∧W6.output=W.output:=by rw [←hW6];exact hd.2
  rw [hW6] at hst;clear hW6;have k6:W6.cell? ⟨n2+1,0,none⟩=some (.int .i64 0):=aB ((h6o _ (by omega)).trans hE) rfl;refine wpAnyIn_ready (rs:=[0,1]) (by kernel_rfl) (by simp) ?_;refine AllReadyIn.cons rfl (fun K2 hK2=>?_) (AllReadyIn.cons rfl (fun K2 hK2=>?_) AllReadyIn.nil)
  ·go_simp
   refine hK2 _ _ ?_;clear hK2 K2;refine wpAnyIn_ready (rs:=[1,2]) (by kernel_rfl) (by simp) ?_;refine AllReadyIn.cons rfl (fun K2 hK2=>?_) (AllReadyIn.cons rfl (fun K2 hK2=>?_) AllReadyIn.nil)
   ·go_simp
    refine hK2 _ _ ?_;clear hK2 K2;refine wpAnyIn_ready (rs:=[2]) (by kernel_rfl) (by simp) ?_;refine AllReadyIn.cons rfl (fun K2 hK2=>?_) AllReadyIn.nil
    go_simp
    try rw [hst]
    try dsimp only [Result.andThen_ok]
    try go_simp
    refine hK2 _ _ ?_;clear hK2 K2;refine wpAnyIn_ready (rs:=[3]) (by kernel_rfl) (by simp) ?_;refine AllReadyIn.cons rfl (fun K2 hK2=>?_) AllReadyIn.nil
    go_simp
    refine hK2 _ _ ?_;clear hK2 K2;refine wpAnyIn_done (by kernel_rfl) ?_ _;refine hK _ _ ?_
    gi_wp2
    refine ⟨by simp, .inl ⟨_,_,rfl,run_takeDeferred ((h6o _ (by omega)).trans hD),?_⟩⟩;have hot8:∀ j,j≠W5.heap.size→(W6.putObj W5.heap.size (.deferred none)).heap[j]? = W6.heap[j]?:=fun j hj=>World.putObj_heap_other hj;have hs8:(W6.putObj W5.heap.size (.deferred none)).heap.size=W6.heap.size:=World.putObj_size;have ho8:(W6.putObj W5.heap.size (.deferred none)).os=W6.os∧(W6.putObj W5.heap.size (.deferred none)).tape=W6.tape∧(W6.putObj W5.heap.size (.deferred none)).output=W6.output:=⟨rfl,rfl,rfl⟩
    generalize W6.putObj W5.heap.size (.deferred none)=W8 at *;have h88:=(hot8 (n0+3) (by omega)).trans h66;have z0:W8.cell? ⟨n0+3,0,none⟩=some x0:=aB h88 rfl;have z1:W8.cell? ⟨n0+3,1,none⟩=some x1:=aB h88 rfl;have z2:W8.cell? ⟨n0+3,2,none⟩=some x2:=aB h88 rfl;refine ⟨.tuple #[.agg #[x0,x1,x2], .int .i64 0],?_,⟨ho8.1.trans (h6w.1.trans (hos.trans hb5'.os)),ho8.2.1.trans (h6w.2.1.trans (htape.trans hb5'.tape)),ho8.2.2.trans (h6w.2.2.trans (hout.trans hb5'.output)),by omega,fun j hj=>(hot8 j (by omega)).trans ((h6o j (by omega)).trans ((hblk j (by omega) (by omega)).trans (hb5'.block j (by omega))))⟩,[.agg #[x0,x1,x2], .int .i64 0],rfl,⟨_,rfl,hxr.mono fun b x hb hx hxc=>⟨fun h=>hb (.inl (by rw [hM3];exact .inl (.inl h))),(hot8 b fun e=>by subst e;rw [hD] at hx;cases hx;cases hxc).trans ((h6o b fun e=>hb (.inl (by rw [hM3,e];exact .inl (.inr rfl)))).trans hx)⟩⟩,⟨rfl,rfl⟩,trivial⟩;simp [results,show f16.results = #[.cell 6 30, .tmp 7] from rfl,go_sem,z0,z1,z2]
   ·go_simp
    try rw [hst]
    try dsimp only [Result.andThen_ok]
    try go_simp
    refine hK2 _ _ ?_;clear hK2 K2;refine wpAnyIn_ready (rs:=[1]) (by kernel_rfl) (by simp) ?_;refine AllReadyIn.cons rfl (fun K2 hK2=>?_) AllReadyIn.nil
    go_simp
    refine hK2 _ _ ?_;clear hK2 K2;refine wpAnyIn_ready (rs:=[3]) (by kernel_rfl) (by simp) ?_;refine AllReadyIn.cons rfl (fun K2 hK2=>?_) AllReadyIn.nil
    go_simp
    refine hK2 _ _ ?_;clear hK2 K2;refine wpAnyIn_done (by kernel_rfl) ?_ _;refine hK _ _ ?_
    gi_wp2
    refine ⟨by simp, .inl ⟨_,_,rfl,run_takeDeferred ((h6o _ (by omega)).trans hD),?_⟩⟩;have hot8:∀ j,j≠W5.heap.size→(W6.putObj W5.heap.size (.deferred none)).heap[j]? = W6.heap[j]?:=fun j hj=>World.putObj_heap_other hj;have hs8:(W6.putObj W5.heap.size (.deferred none)).heap.size=W6.heap.size:=World.putObj_size;have ho8:(W6.putObj W5.heap.size (.deferred none)).os=W6.os∧(W6.putObj W5.heap.size (.deferred none)).tape=W6.tape∧(W6.putObj W5.heap.size (.deferred none)).output=W6.output:=⟨rfl,rfl,rfl⟩
    generalize W6.putObj W5.heap.size (.deferred none)=W8 at *;have h88:=(hot8 (n0+3) (by omega)).trans h66;have z0:W8.cell? ⟨n0+3,0,none⟩=some x0:=aB h88 rfl;have z1:W8.cell? ⟨n0+3,1,none⟩=some x1:=aB h88 rfl;have z2:W8.cell? ⟨n0+3,2,none⟩=some x2:=aB h88 rfl;refine ⟨.tuple #[.agg #[x0,x1,x2], .int .i64 0],?_,⟨ho8.1.trans (h6w.1.trans (hos.trans hb5'.os)),ho8.2.1.trans (h6w.2.1.trans (htape.trans hb5'.tape)),ho8.2.2.trans (h6w.2.2.trans (hout.trans hb5'.output)),by omega,fun j hj=>(hot8 j (by omega)).trans ((h6o j (by omega)).trans ((hblk j (by omega) (by omega)).trans (hb5'.block j (by omega))))⟩,[.agg #[x0,x1,x2], .int .i64 0],rfl,⟨_,rfl,hxr.mono fun b x hb hx hxc=>⟨fun h=>hb (.inl (by rw [hM3];exact .inl (.inl h))),(hot8 b fun e=>by subst e;rw [hD] at hx;cases hx;cases hxc).trans ((h6o b fun e=>hb (.inl (by rw [hM3,e];exact .inl (.inr rfl)))).trans hx)⟩⟩,⟨rfl,rfl⟩,trivial⟩;simp [results,show f16.results = #[.cell 6 30, .tmp 7] from rfl,go_sem,z0,z1,z2]
  ·go_simp
   refine hK2 _ _ ?_;clear hK2 K2;refine wpAnyIn_ready (rs:=[0]) (by kernel_rfl) (by simp) ?_;refine AllReadyIn.cons rfl (fun K2 hK2=>?_) AllReadyIn.nil
   go_simp
   refine hK2 _ _ ?_;clear hK2 K2;refine wpAnyIn_ready (rs:=[2]) (by kernel_rfl) (by simp) ?_;refine AllReadyIn.cons rfl (fun K2 hK2=>?_) AllReadyIn.nil
   go_simp
   try rw [hst]
   try dsimp only [Result.andThen_ok]
   try go_simp
   refine hK2 _ _ ?_;clear hK2 K2;refine wpAnyIn_ready (rs:=[3]) (by kernel_rfl) (by simp) ?_;refine AllReadyIn.cons rfl (fun K2 hK2=>?_) AllReadyIn.nil
   go_simp
   refine hK2 _ _ ?_;clear hK2 K2;refine wpAnyIn_done (by kernel_rfl) ?_ _;refine hK _ _ ?_
   gi_wp2
   refine ⟨by simp, .inl ⟨_,_,rfl,run_takeDeferred ((h6o _ (by omega)).trans hD),?_⟩⟩;have hot8:∀ j,j≠W5.heap.size→(W6.putObj W5.heap.size (.deferred none)).heap[j]? = W6.heap[j]?:=fun j hj=>World.putObj_heap_other hj;have hs8:(W6.putObj W5.heap.size (.deferred none)).heap.size=W6.heap.size:=World.putObj_size;have ho8:(W6.putObj W5.heap.size (.deferred none)).os=W6.os∧(W6.putObj W5.heap.size (.deferred none)).tape=W6.tape∧(W6.putObj W5.heap.size (.deferred none)).output=W6.output:=⟨rfl,rfl,rfl⟩
   generalize W6.putObj W5.heap.size (.deferred none)=W8 at *;have h88:=(hot8 (n0+3) (by omega)).trans h66;have z0:W8.cell? ⟨n0+3,0,none⟩=some x0:=aB h88 rfl;have z1:W8.cell? ⟨n0+3,1,none⟩=some x1:=aB h88 rfl;have z2:W8.cell? ⟨n0+3,2,none⟩=some x2:=aB h88 rfl;refine ⟨.tuple #[.agg #[x0,x1,x2], .int .i64 0],?_,⟨ho8.1.trans (h6w.1.trans (hos.trans hb5'.os)),ho8.2.1.trans (h6w.2.1.trans (htape.trans hb5'.tape)),ho8.2.2.trans (h6w.2.2.trans (hout.trans hb5'.output)),by omega,fun j hj=>(hot8 j (by omega)).trans ((h6o j (by omega)).trans ((hblk j (by omega) (by omega)).trans (hb5'.block j (by omega))))⟩,[.agg #[x0,x1,x2], .int .i64 0],rfl,⟨_,rfl,hxr.mono fun b x hb hx hxc=>⟨fun h=>hb (.inl (by rw [hM3];exact .inl (.inl h))),(hot8 b fun e=>by subst e;rw [hD] at hx;cases hx;cases hxc).trans ((h6o b fun e=>hb (.inl (by rw [hM3,e];exact .inl (.inr rfl)))).trans hx)⟩⟩,⟨rfl,rfl⟩,trivial⟩;simp [results,show f16.results = #[.cell 6 30, .tmp 7] from rfl,go_sem,z0,z1,z2]
set_option maxRecDepth 100000 in
set_option maxHeartbeats 1000000 in
theorem Ip (kind n A:Nat) (r:Rat) (hr0:0<r) (hr:Fit A r) (hq:((1:Int):Rat)≤DY kind (gN kind n) r) (h1:1≤kind:=by omega) (h6:kind≤6:=by omega) (hn:n≤42:=by omega) (hA1:1≤A:=by omega) (hA:A≤1000000:=by omega) :
  aD prog 16 [.one (.int .u8 (kind:Int)), .one (.int .i64 (n:Int)),qT r] (.ret [qT 0, .one (.int .i64 11)]):=by
 obtain ⟨hz,hne,hR43⟩:=Od kind h6 n hn h1;have hle:=Kc kind n;obtain ⟨R,hR⟩:∃ R,R=gN kind n:=⟨_,rfl⟩
 rw [←hR] at hz hne hR43 hle hq;have hS:=bB r;rw [Int.sign_eq_one_of_pos (show 0<r.num from (Int.lt_iff_le_and_ne.2 ⟨Rat.num_nonneg.2 (by grind),fun e=>by rw [Rat.num_eq_zero.1 e.symm] at hr0;exact absurd hr0 (by decide)⟩))] at hS;refine ⟨enters_of func16 (by kernel_rfl) rfl,fun M w vs hM hv=>?_⟩
 match vs,hv with
 | [],hv=>exact hv.elim
 | [_],hv=>exact hv.2.elim
 | [_,_],hv=>exact hv.2.2.elim
 | _::_::_::_::_,hv=>exact hv.2.2.2.elim
 | [w0,w1,w2],hv=>
 obtain ⟨⟨rfl,_⟩,⟨rfl,_⟩,hrs,_⟩:=hv;obtain ⟨v0,v1,v2,hpk,hr3⟩:=My (show bR M w [qT r] [w2] from ⟨hrs,trivial⟩);obtain rfl:w2 = .agg #[v0,v1,v2]:=hpk;have hone:=hr3.one;refine (callsIn_wide (n:=1001)).1 ?_;refine callsIn_of_wp_marks func16 rfl trivial ?_ rfl;simp only [ntmps16,List.size_toArray,List.length_cons,List.length_nil,Nat.reduceAdd,Nat.reduceSub,Array.replicate_succ,Array.replicate_zero,List.push_toArray,List.append_toArray,List.nil_append,List.cons_append];obtain ⟨n0,hn0⟩:∃ n0,w.heap.size=n0:=⟨_,rfl⟩
 obtain ⟨W0,hW0⟩:∃ W0,((((w.alloc (.cells #[.int .u8 (kind:Int)] 5)).alloc (.cells #[.int .i64 (n:Int)] 3)).alloc (.cells #[v0,v1,v2] 30)).alloc (.cells #[.slice none 0 0, .bool false, .slice none 0 0] 30))=W0:=⟨_,rfl⟩
 have hs0:n0+4=W0.heap.size:=by rw [←hW0];simp [hn0]
 have hb0:Below n0 w W0:=by
  rw [←hW0];exact ((((Below.refl _ w).alloc (by omega) _).alloc (by simp;omega) _).alloc (by simp;omega) _).alloc (by simp;omega) _
 have hk0:W0.heap[n0]? = some (.cells #[.int .u8 (kind:Int)] 5 (0,0)):=by rw [←hW0,heap_alloc_old _ _ _ (by simp;omega),heap_alloc_old _ _ _ (by simp;omega),heap_alloc_old _ _ _ (by simp;omega),←hn0];exact heap_alloc_new w _
 have hc0:W0.heap[n0+1]? = some (.cells #[.int .i64 (n:Int)] 3 (0,0)):=by
  rw [←hW0,heap_alloc_old _ _ _ (by simp;omega),heap_alloc_old _ _ _ (by simp;omega)];have:=heap_alloc_new (w.alloc (.cells #[.int .u8 (kind:Int)] 5)) (.cells #[.int .i64 (n:Int)] 3);rw [World.size_alloc,hn0] at this;exact this
 have hr0':W0.heap[n0+2]? = some (.cells #[v0,v1,v2] 30 (0,0)):=by
  rw [←hW0,heap_alloc_old _ _ _ (by simp;omega)];have:=heap_alloc_new ((w.alloc (.cells #[.int .u8 (kind:Int)] 5)).alloc (.cells #[.int .i64 (n:Int)] 3)) (.cells #[v0,v1,v2] 30);rw [World.size_alloc,World.size_alloc,hn0] at this;exact this
 have ht0:W0.heap[n0+3]? = some (.cells #[.slice none 0 0, .bool false, .slice none 0 0] 30 (0,0)):=by
  rw [←hW0];have:=heap_alloc_new (((w.alloc (.cells #[.int .u8 (kind:Int)] 5)).alloc (.cells #[.int .i64 (n:Int)] 3)).alloc (.cells #[v0,v1,v2] 30)) (.cells #[.slice none 0 0, .bool false, .slice none 0 0] 30);rw [World.size_alloc,World.size_alloc,World.size_alloc,hn0] at this;exact this
 have c0:W0.cell? ⟨n0,0,none⟩=some (.int .u8 (kind:Int)):=aB hk0 rfl;have c1:W0.cell? ⟨n0+1,0,none⟩=some (.int .i64 (n:Int)):=aB hc0 rfl
 gi_wp2
 simp only [Nat.add_assoc,Nat.reduceAdd];have hlow:∀ b,M b→b<n0:=fun b hb=>by have:=hM.1 b hb;omega
 have gG:∀ W',Below n0 w W'→Fine M W':=fun W' h=>⟨fun b hb=>by have:=hM.1 b hb;have:=h.size;omega,hM.2.cE (aR.below (hn0▸h))⟩
 refine ⟨trivial,?_⟩;refine (callsIn_wide.2 (He h1 h6 (gG W0 hb0))).mono ?_;rintro e W1 ⟨hb1,sv,rfl,hso⟩;have hs1:=hb1.size;have hb1':Below n0 w W1:=hb0.trans (hb1.mono (by omega));have hr1:=(hb1.block (n0+2) (by omega)).trans hr0';have f0:W1.cell? ⟨n0+2,0,none⟩=some v0:=aB hr1 rfl;have f1:W1.cell? ⟨n0+2,1,none⟩=some v1:=aB hr1 rfl;have f2:W1.cell? ⟨n0+2,2,none⟩=some v2:=aB hr1 rfl;dsimp only
 gi_wp2
 refine ⟨trivial,?_⟩;refine (callsIn_wide.2 (lL hS (gG W1 hb1') (vs:=[.agg #[v0,v1,v2]]) ⟨⟨_,rfl,hr3.mono (aR.below (hn0▸hb1'))⟩,trivial⟩)).mono ?_;rintro e W2 ⟨hb2,rfl⟩;have hs2:=hb2.size;have hb2':Below n0 w W2:=hb1'.trans (hb2.mono (by omega));have hk2:=(hb2.block n0 (by omega)).trans ((hb1.block n0 (by omega)).trans hk0);have hc2:=(hb2.block (n0+1) (by omega)).trans ((hb1.block (n0+1) (by omega)).trans hc0);have hr2:=(hb2.block (n0+2) (by omega)).trans hr1;have ht2:=(hb2.block (n0+3) (by omega)).trans ((hb1.block (n0+3) (by omega)).trans ht0);obtain ⟨n2,hn2⟩:∃ n2,W2.heap.size=n2:=⟨_,rfl⟩
 obtain ⟨W3,hW3⟩:∃ W3,((W2.alloc (.cells #[.slice none 0 0, .bool false, .slice none 0 0] 30)).alloc (.cells #[.int .i64 0] 40))=W3:=⟨_,rfl⟩
 have hs3:n2+2=W3.heap.size:=by rw [←hW3];simp [hn2]
 have hb3:Below n2 W2 W3:=by
  rw [←hW3];exact ((Below.refl _ W2).alloc (by omega) _).alloc (by simp;omega) _
 have ho3:W3.heap[n2]? = some (.cells #[.slice none 0 0, .bool false, .slice none 0 0] 30 (0,0)):=by rw [←hW3,heap_alloc_old _ _ _ (by simp;omega),←hn2];exact heap_alloc_new W2 _
 have he3:W3.heap[n2+1]? = some (.cells #[.int .i64 0] 40 (0,0)):=by
  rw [←hW3];have:=heap_alloc_new (W2.alloc (.cells #[.slice none 0 0, .bool false, .slice none 0 0] 30)) (.cells #[.int .i64 0] 40);rw [World.size_alloc,hn2] at this;exact this
 have hk3:=(hb3.block n0 (by omega)).trans hk2;have e3:W3.cell? ⟨n2+1,0,none⟩=some (.int .i64 0):=aB he3 rfl;have g3:W3.frozen? ⟨n2+1,0,none⟩=false:=zQ he3 0;have hW4:=setCell_eq_setRow W3 (n2+1) 0 #[.int .i64 0] 40 (0,0) (.int .i64 0) he3;have he4:(W3.setCell ⟨n2+1,0,none⟩ (.int .i64 0)).heap[n2+1]? = some (.cells #[.int .i64 0] 40 (0,0)):=by rw [hW4];exact setRow_heap _ _ _ _ _ _ he3
 have hb4:Below n2 W3 (W3.setCell ⟨n2+1,0,none⟩ (.int .i64 0)):=by rw [hW4];exact below_setRow (Below.refl _ _) _
 have ho4:(W3.setCell ⟨n2+1,0,none⟩ (.int .i64 0)).heap[n2]? = some (.cells #[.slice none 0 0, .bool false, .slice none 0 0] 30 (0,0)):=by rw [hW4,setRow_other _ _ _ _ (by omega)];exact ho3
 have hs4:W3.heap.size=(W3.setCell ⟨n2+1,0,none⟩ (.int .i64 0)).heap.size:=by rw [hW4];simp [World.setRow]
 have c3:(W3.setCell ⟨n2+1,0,none⟩ (.int .i64 0)).cell? ⟨n0,0,none⟩=some (.int .u8 (kind:Int)):=aB ((hb4.block n0 (by omega)).trans hk3) rfl;clear hW4;dsimp only
 gi_wp2
 generalize W3.setCell ⟨n2+1,0,none⟩ (.int .i64 0)=W4 at *;have hb4':Below n0 w W4:=hb2'.trans ((hb3.mono (by omega)).trans (hb4.mono (by omega)));have hk4:=(hb4.block n0 (by omega)).trans hk3;have hc4:=(hb4.block (n0+1) (by omega)).trans ((hb3.block (n0+1) (by omega)).trans hc2);have hr4:=(hb4.block (n0+2) (by omega)).trans ((hb3.block (n0+2) (by omega)).trans hr2);have ht4:=(hb4.block (n0+3) (by omega)).trans ((hb3.block (n0+3) (by omega)).trans ht2);obtain ⟨M3,hM3⟩:∃ M3:Nat→Prop,M3=fun b=>Mg M (n0+3) b∨b=(n2+1):=⟨_,rfl⟩
 have m3:∀ b,M3 b→b<n0∨b=n0+3∨b=(n2+1):=fun b h=>by
  rw [hM3] at h;rcases h with (h | h) | h
  ·exact .inl (hlow b h)
  ·exact .inr (.inl h)
  ·exact .inr (.inr h)
 have hkM:aR M w M3 W4:=fun b o hb ho _=>by
  have hlt:=(dS.1 ho).1;refine ⟨fun h=>?_,(hb4'.block b (by omega)).trans ho⟩;rw [hM3] at h;rcases h with (h | h) | h
  ·exact hb h
  ·omega
  ·omega
 have hF4:Fine M3 W4:=⟨fun b hb=>by have:=m3 b hb;omega,hM.2.cE hkM⟩
 refine ⟨trivial,?_⟩;refine (callsIn_wide.2 (Mh (iD kind) hF4 (vs:=[.int .u8 (kind:Int)]) ⟨⟨rfl,rfl⟩,trivial⟩)).mono ?_;rintro e W5 ⟨hb5,vp,rfl,hvp⟩;have hs5:=hb5.size;have hb5':Below n0 w W5:=hb4'.trans (hb5.mono (by omega));have hk5:=(hb5.block n0 (by omega)).trans hk4;have hc5:=(hb5.block (n0+1) (by omega)).trans hc4;have hr5:=(hb5.block (n0+2) (by omega)).trans hr4;have ht5:=(hb5.block (n0+3) (by omega)).trans ht4;have ho5:=(hb5.block n2 (by omega)).trans ho4;have he5:=(hb5.block (n2+1) (by omega)).trans he4;have hF5:Fine M3 W5:=⟨fun b hb=>by have:=hF4.1 b hb;omega,hF4.2.cE (aR.below hb5)⟩
 have hrr5:=(hr3.mono hkM).mono (aR.below hb5);have hnm:∀ j,n0≤j→j<n0+3→¬ M3 j:=fun j h1 h2 h=>by have:=m3 j h;omega
 dsimp only
 gi_wp2
 refine Dx M3 kind R h1 h6 hR43 (o:=(n2+1)) (T:=40) (p1:=32) (p2:=33) (id:=0) (cs:=fun i=>if i≤R then [.exact (.int .i64 0)] else [.int .i64 11])
  (tf:=fun i x b=>#[.int .u8 (kind:Int), .int .i64 (n:Int), .agg #[v0,v1,v2], .pointer (some ⟨n0,0,none⟩), .pointer (some ⟨n0+1,0,none⟩), .pointer (some ⟨n0+2,0,none⟩), .pointer (some ⟨n0+3,0,none⟩), .int .i64 0,sv, .int .i64 0, .pointer (some ⟨n2,0,none⟩), .pointer (some ⟨n2+1,0,none⟩), .int .i64 (i:Int), .pointer (some ⟨b,0,none⟩),undef,undef, .tuple #[sv, .int .i64 0], .int .u8 (kind:Int), .int .i64 (n:Int), .tuple #[sv, .int .i64 0],sv, .int .i64 0, .int .i64 0, .bool false,undef,undef, .agg #[v0,v1,v2], .int .i64 1, .bool false,undef, .int .u8 (kind:Int), .func (.func 117) #[] #[vp], .int .i64 (i:Int),x,undef,undef,undef,undef,undef,undef,undef,undef,undef,undef,undef,undef,undef,undef,undef,undef,undef,undef,undef,undef,undef,undef,undef,undef,undef,undef,undef,undef,undef,undef,undef,undef,undef,undef,undef,undef,undef,undef,undef,undef,undef,undef,undef,undef,undef,undef,undef])
  hF5 hvp rfl (by rw [hM3];exact .inr rfl) (cur0:=#[.int .i64 0]) he5 (by rw [if_pos (fP _)];exact ⟨⟨rfl,rfl⟩,trivial⟩) ?_ ?_ ?_ ?_
 ·intro M' W vs h;rw [if_pos (fP _)] at h ⊢;exact MV h
 ·intro l i u0 u1 u2 W K hone' hK
  gi_wp2
  obtain ⟨W',hW',e'⟩:=gQ (W:=W) (hone' u0 (by simp)) (hone' u1 (by simp)) (hone' u2 (by simp));rw [e'];rw [hW'] at hK
  gi_wp2
  exact hK
 ·intro i hi l g W cur b x Q hq' hgw hFW hkp hcu hcr hp hQ;have hkeepb:∀ j,n0≤j→j<n0+3→¬ Mg M3 g j:=fun j h1 h2 h=>h.elim (hnm j h1 h2) (by omega);have hkv:(aL.bI [.int .u8 (kind:Int)]).rep (Mg M3 g) W (.pointer (some ⟨n0,0,none⟩)):=⟨n0,0,#[.int .u8 (kind:Int)],5,(0,0),rfl,hkeepb n0 (by omega) (by omega),(hkp _ _ (hnm n0 (by omega) (by omega)) hk5 rfl).2,⟨rfl,rfl⟩,trivial⟩
  have hnv:(aL.bI [.int .i64 (n:Int)]).rep (Mg M3 g) W (.pointer (some ⟨n0+1,0,none⟩)):=⟨n0+1,0,#[.int .i64 (n:Int)],3,(0,0),rfl,hkeepb _ (by omega) (by omega),(hkp _ _ (hnm _ (by omega) (by omega)) hc5 rfl).2,⟨rfl,rfl⟩,trivial⟩
  have hrv:(aL.bI (qC r)).rep (Mg M3 g) W (.pointer (some ⟨n0+2,0,none⟩)):=⟨n0+2,0,#[v0,v1,v2],30,(0,0),rfl,hkeepb _ (by omega) (by omega),(hkp _ _ (hnm _ (by omega) (by omega)) hr5 rfl).2,by simpa using hrr5.mono hkp⟩
  rw [if_pos hi] at hcr;by_cases hlt:i<R
  ·rw [if_pos hlt,if_pos (show i+1≤R by omega)] at hQ
   refine fJ (N:=81) (t0:=11) (T:=40) (n:=1) (want:=0) (g:=(n2+1)) (cur:=cur) (ins:=[(3, .ref 1),(4, .ref 1),(5, .ref 3),(12, .v none),(13, .ref 3)]) (xs:=[.ref [.int .u8 (kind:Int)], .ref [.int .i64 (n:Int)], .ref (qC r), .v (.one (.int .i64 (i:Int))), .ref (qC (xP kind i))]) fo ⟨rfl,rfl,rfl,rfl,rfl,trivial⟩
    (XW kind n i r [.exact (.int .i64 0)] (by rcases Nat.lt_or_ge i n with h | h<;>first | exact .inl h | exact .inr (hz i hlt h))) (by kernel_rfl) (by kernel_rfl) hq' hFW (.inl (by rw [hM3];exact .inr rfl)) rfl rfl rfl (by omega) ⟨hkv,hnv,hrv,⟨rfl,rfl⟩,hp,trivial⟩ rfl hcu hcr ?_
   intro a' W' us cur' hg _ _ _ hc' _ hr';exact hQ a' W' cur' hg hc' hr'
  ·obtain rfl:i=R:=by omega
   rw [if_neg hlt,if_neg (show ¬ i+1≤i by omega)] at hQ
   refine fJ (N:=81) (t0:=11) (T:=40) (n:=1) (want:=1) (g:=(n2+1)) (cur:=cur) (ins:=[(3, .ref 1),(4, .ref 1),(5, .ref 3),(12, .v none),(13, .ref 3)]) (xs:=[.ref [.int .u8 (kind:Int)], .ref [.int .i64 (n:Int)], .ref (qC r), .v (.one (.int .i64 (i:Int))), .ref (qC (xP kind i))]) fo ⟨rfl,rfl,rfl,rfl,rfl,trivial⟩
    (Zc kind n i A r [.exact (.int .i64 0)] rfl hle hR43 h6 hne hr hA1 hA hq) (by kernel_rfl) (by kernel_rfl) hq' hFW (.inl (by rw [hM3];exact .inr rfl)) rfl rfl rfl (by omega) ⟨hkv,hnv,hrv,⟨rfl,rfl⟩,hp,trivial⟩ rfl hcu hcr ?_
   intro a' W' us cur' hg _ _ _ hc' _ hr';exact hQ a' W' cur' hg hc' hr'
 ·intro W cur g hgw hos htape hout hsz hblk hD hcu hcr;rw [if_neg (by omega)] at hcr;have ht6:=(hblk (n0+3) (by omega) (by omega)).trans ht5
  obtain ⟨x0,x1,x2,ez,hX,hE,hxr⟩:∃ x0 x1 x2 ez,W.heap[n2]? = some (.cells #[x0,x1,x2] 30 (0,0))∧W.heap[n2+1]? = some (.cells #[.int .i64 ez] 40 (0,0))∧ez=11∧aM (Mg M3 g) W (qC 0) [x0,x1,x2]:=by
   obtain ⟨u,hu⟩:=SF (show cur.toList.length=1 from hcr.length.symm);obtain rfl:cur = #[u]:=by rw [←Array.toArray_toList (xs:=cur),hu]
   obtain ⟨rfl,_⟩:u = .int .i64 11∧_:=hcr.1;exact ⟨_,_,_,11,(hblk n2 (by omega) (by omega)).trans ho5,hcu,rfl,Lu ⟨⟨rfl,rfl⟩,⟨rfl,rfl⟩,⟨rfl,rfl⟩,trivial⟩⟩
  obtain ⟨rfl,hxr⟩:=hxr;have hxo:=hxr.one;have gen:∀ (W6:World),Below W5.heap.size W W6→W6.heap[n0+3]? = some (.cells #[x0,x1,x2] 30 (0,0))→True:=fun _ _ _=>trivial;rename_i K hK;refine (show Exit.inBlock 0 (Exit.then K _) (.exit 0) _ _ from hK _ _ ?_);clear hK K gen;refine wpIn_seq_k fun K hK=>wpIn_region_any (by kernel_rfl) ?_;obtain ⟨Wd,hWd⟩:∃ Wd:World,{ W with drawn:=W.drawn+1 } = Wd:=⟨_,rfl⟩
  have hd:Wd.heap=W.heap∧Wd.os=W.os∧Wd.tape=W.tape∧Wd.output=W.output:=by rw [←hWd];exact ⟨rfl,rfl,rfl,rfl⟩
  rw [hWd];clear hWd;have hXd:Wd.heap[n2]? = some (.cells #[x0,x1,x2] 30 (0,0)):=by rw [hd.1];exact hX
  have hEd:Wd.heap[n2+1]? = some (.cells #[.int .i64 11] 40 (0,0)):=by rw [hd.1];exact hE
  have hTd:Wd.heap[n0+3]? = some (.cells #[.slice none 0 0, .bool false, .slice none 0 0] 30 (0,0)):=by rw [hd.1];exact ht6
  have k0:Wd.cell? ⟨n2,0,none⟩=some x0:=aB hXd rfl;have k1:Wd.cell? ⟨n2,1,none⟩=some x1:=aB hXd rfl;have k2:Wd.cell? ⟨n2,2,none⟩=some x2:=aB hXd rfl;have k3:Wd.cell? ⟨n2+1,0,none⟩=some (.int .i64 11):=aB hEd rfl;have hst:=wY (P:=prog) hTd (hxo x0 (by simp)) (hxo x1 (by simp)) (hxo x2 (by simp));obtain ⟨W6,hW6⟩:∃ W6,Wd.setRow (n0+3) #[x0,x1,x2]=W6:=⟨_,rfl⟩
  have h66:W6.heap[n0+3]? = some (.cells #[x0,x1,x2] 30 (0,0)):=by rw [←hW6];exact setRow_heap _ _ _ _ _ _ hTd
  have h6o:∀ j,j≠n0+3→W6.heap[j]? = W.heap[j]?:=fun j hj=>by rw [←hW6,setRow_other _ _ _ _ hj,hd.1]
  have h6s:W6.heap.size=W.heap.size:=by rw [←hW6,←hd.1];simp [World.setRow]
  have h6w:W6.os=W.os∧W6.tape=W.tape∧W6.output=W.output:=by rw [←hW6];exact hd.2
  rw [hW6] at hst;clear hW6;have k6:W6.cell? ⟨n2+1,0,none⟩=some (.int .i64 11):=aB ((h6o _ (by omega)).trans hE) rfl;refine wpAnyIn_ready (rs:=[0,1]) (by kernel_rfl) (by simp) ?_;refine AllReadyIn.cons rfl (fun K2 hK2=>?_) (AllReadyIn.cons rfl (fun K2 hK2=>?_) AllReadyIn.nil)
  ·go_simp
   refine hK2 _ _ ?_;clear hK2 K2;refine wpAnyIn_ready (rs:=[1,2]) (by kernel_rfl) (by simp) ?_;refine AllReadyIn.cons rfl (fun K2 hK2=>?_) (AllReadyIn.cons rfl (fun K2 hK2=>?_) AllReadyIn.nil)
   ·go_simp
    refine hK2 _ _ ?_;clear hK2 K2;refine wpAnyIn_ready (rs:=[2]) (by kernel_rfl) (by simp) ?_;refine AllReadyIn.cons rfl (fun K2 hK2=>?_) AllReadyIn.nil
    go_simp
    try rw [hst]
    try dsimp only [Result.andThen_ok]
    try go_simp
    refine hK2 _ _ ?_;clear hK2 K2;refine wpAnyIn_ready (rs:=[3]) (by kernel_rfl) (by simp) ?_;refine AllReadyIn.cons rfl (fun K2 hK2=>?_) AllReadyIn.nil
    go_simp
    refine hK2 _ _ ?_;clear hK2 K2;refine wpAnyIn_done (by kernel_rfl) ?_ _;refine hK _ _ ?_
    gi_wp2
    refine ⟨by simp, .inl ⟨_,_,rfl,run_takeDeferred ((h6o _ (by omega)).trans hD),?_⟩⟩;have hot8:∀ j,j≠W5.heap.size→(W6.putObj W5.heap.size (.deferred none)).heap[j]? = W6.heap[j]?:=fun j hj=>World.putObj_heap_other hj;have hs8:(W6.putObj W5.heap.size (.deferred none)).heap.size=W6.heap.size:=World.putObj_size;have ho8:(W6.putObj W5.heap.size (.deferred none)).os=W6.os∧(W6.putObj W5.heap.size (.deferred none)).tape=W6.tape∧(W6.putObj W5.heap.size (.deferred none)).output=W6.output:=⟨rfl,rfl,rfl⟩
    generalize W6.putObj W5.heap.size (.deferred none)=W8 at *;have h88:=(hot8 (n0+3) (by omega)).trans h66;have z0:W8.cell? ⟨n0+3,0,none⟩=some x0:=aB h88 rfl;have z1:W8.cell? ⟨n0+3,1,none⟩=some x1:=aB h88 rfl;have z2:W8.cell? ⟨n0+3,2,none⟩=some x2:=aB h88 rfl;refine ⟨.tuple #[.agg #[x0,x1,x2], .int .i64 11],?_,⟨ho8.1.trans (h6w.1.trans (hos.trans hb5'.os)),ho8.2.1.trans (h6w.2.1.trans (htape.trans hb5'.tape)),ho8.2.2.trans (h6w.2.2.trans (hout.trans hb5'.output)),by omega,fun j hj=>(hot8 j (by omega)).trans ((h6o j (by omega)).trans ((hblk j (by omega) (by omega)).trans (hb5'.block j (by omega))))⟩,[.agg #[x0,x1,x2], .int .i64 11],rfl,⟨_,rfl,hxr.mono fun b x hb hx hxc=>⟨fun h=>hb (.inl (by rw [hM3];exact .inl (.inl h))),(hot8 b fun e=>by subst e;rw [hD] at hx;cases hx;cases hxc).trans ((h6o b fun e=>hb (.inl (by rw [hM3,e];exact .inl (.inr rfl)))).trans hx)⟩⟩,⟨rfl,rfl⟩,trivial⟩;simp [results,show f16.results = #[.cell 6 30, .tmp 7] from rfl,go_sem,z0,z1,z2]
   ·go_simp
    try rw [hst]
    try dsimp only [Result.andThen_ok]
    try go_simp
    refine hK2 _ _ ?_;clear hK2 K2;refine wpAnyIn_ready (rs:=[1]) (by kernel_rfl) (by simp) ?_;refine AllReadyIn.cons rfl (fun K2 hK2=>?_) AllReadyIn.nil
    go_simp
    refine hK2 _ _ ?_;clear hK2 K2;refine wpAnyIn_ready (rs:=[3]) (by kernel_rfl) (by simp) ?_;refine AllReadyIn.cons rfl (fun K2 hK2=>?_) AllReadyIn.nil
    go_simp
    refine hK2 _ _ ?_;clear hK2 K2;refine wpAnyIn_done (by kernel_rfl) ?_ _;refine hK _ _ ?_
    gi_wp2
    refine ⟨by simp, .inl ⟨_,_,rfl,run_takeDeferred ((h6o _ (by omega)).trans hD),?_⟩⟩;have hot8:∀ j,j≠W5.heap.size→(W6.putObj W5.heap.size (.deferred none)).heap[j]? = W6.heap[j]?:=fun j hj=>World.putObj_heap_other hj;have hs8:(W6.putObj W5.heap.size (.deferred none)).heap.size=W6.heap.size:=World.putObj_size;have ho8:(W6.putObj W5.heap.size (.deferred none)).os=W6.os∧(W6.putObj W5.heap.size (.deferred none)).tape=W6.tape∧(W6.putObj W5.heap.size (.deferred none)).output=W6.output:=⟨rfl,rfl,rfl⟩
    generalize W6.putObj W5.heap.size (.deferred none)=W8 at *;have h88:=(hot8 (n0+3) (by omega)).trans h66;have z0:W8.cell? ⟨n0+3,0,none⟩=some x0:=aB h88 rfl;have z1:W8.cell? ⟨n0+3,1,none⟩=some x1:=aB h88 rfl;have z2:W8.cell? ⟨n0+3,2,none⟩=some x2:=aB h88 rfl;refine ⟨.tuple #[.agg #[x0,x1,x2], .int .i64 11],?_,⟨ho8.1.trans (h6w.1.trans (hos.trans hb5'.os)),ho8.2.1.trans (h6w.2.1.trans (htape.trans hb5'.tape)),ho8.2.2.trans (h6w.2.2.trans (hout.trans hb5'.output)),by omega,fun j hj=>(hot8 j (by omega)).trans ((h6o j (by omega)).trans ((hblk j (by omega) (by omega)).trans (hb5'.block j (by omega))))⟩,[.agg #[x0,x1,x2], .int .i64 11],rfl,⟨_,rfl,hxr.mono fun b x hb hx hxc=>⟨fun h=>hb (.inl (by rw [hM3];exact .inl (.inl h))),(hot8 b fun e=>by subst e;rw [hD] at hx;cases hx;cases hxc).trans ((h6o b fun e=>hb (.inl (by rw [hM3,e];exact .inl (.inr rfl)))).trans hx)⟩⟩,⟨rfl,rfl⟩,trivial⟩;simp [results,show f16.results = #[.cell 6 30, .tmp 7] from rfl,go_sem,z0,z1,z2]
  ·go_simp
   refine hK2 _ _ ?_;clear hK2 K2;refine wpAnyIn_ready (rs:=[0]) (by kernel_rfl) (by simp) ?_;refine AllReadyIn.cons rfl (fun K2 hK2=>?_) AllReadyIn.nil
   go_simp
   refine hK2 _ _ ?_;clear hK2 K2;refine wpAnyIn_ready (rs:=[2]) (by kernel_rfl) (by simp) ?_;refine AllReadyIn.cons rfl (fun K2 hK2=>?_) AllReadyIn.nil
   go_simp
   try rw [hst]
   try dsimp only [Result.andThen_ok]
   try go_simp
   refine hK2 _ _ ?_;clear hK2 K2;refine wpAnyIn_ready (rs:=[3]) (by kernel_rfl) (by simp) ?_;refine AllReadyIn.cons rfl (fun K2 hK2=>?_) AllReadyIn.nil
   go_simp
   refine hK2 _ _ ?_;clear hK2 K2;refine wpAnyIn_done (by kernel_rfl) ?_ _;refine hK _ _ ?_
   gi_wp2
   refine ⟨by simp, .inl ⟨_,_,rfl,run_takeDeferred ((h6o _ (by omega)).trans hD),?_⟩⟩;have hot8:∀ j,j≠W5.heap.size→(W6.putObj W5.heap.size (.deferred none)).heap[j]? = W6.heap[j]?:=fun j hj=>World.putObj_heap_other hj;have hs8:(W6.putObj W5.heap.size (.deferred none)).heap.size=W6.heap.size:=World.putObj_size;have ho8:(W6.putObj W5.heap.size (.deferred none)).os=W6.os∧(W6.putObj W5.heap.size (.deferred none)).tape=W6.tape∧(W6.putObj W5.heap.size (.deferred none)).output=W6.output:=⟨rfl,rfl,rfl⟩
   generalize W6.putObj W5.heap.size (.deferred none)=W8 at *;have h88:=(hot8 (n0+3) (by omega)).trans h66;have z0:W8.cell? ⟨n0+3,0,none⟩=some x0:=aB h88 rfl;have z1:W8.cell? ⟨n0+3,1,none⟩=some x1:=aB h88 rfl;have z2:W8.cell? ⟨n0+3,2,none⟩=some x2:=aB h88 rfl;refine ⟨.tuple #[.agg #[x0,x1,x2], .int .i64 11],?_,⟨ho8.1.trans (h6w.1.trans (hos.trans hb5'.os)),ho8.2.1.trans (h6w.2.1.trans (htape.trans hb5'.tape)),ho8.2.2.trans (h6w.2.2.trans (hout.trans hb5'.output)),by omega,fun j hj=>(hot8 j (by omega)).trans ((h6o j (by omega)).trans ((hblk j (by omega) (by omega)).trans (hb5'.block j (by omega))))⟩,[.agg #[x0,x1,x2], .int .i64 11],rfl,⟨_,rfl,hxr.mono fun b x hb hx hxc=>⟨fun h=>hb (.inl (by rw [hM3];exact .inl (.inl h))),(hot8 b fun e=>by subst e;rw [hD] at hx;cases hx;cases hxc).trans ((h6o b fun e=>hb (.inl (by rw [hM3,e];exact .inl (.inr rfl)))).trans hx)⟩⟩,⟨rfl,rfl⟩,trivial⟩;simp [results,show f16.results = #[.cell 6 30, .tmp 7] from rfl,go_sem,z0,z1,z2]
end Go.Sy
