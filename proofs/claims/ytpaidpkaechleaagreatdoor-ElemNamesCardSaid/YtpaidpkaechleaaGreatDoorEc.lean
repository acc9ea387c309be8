/- Part. -/
import Derived.Test.YtpaidpkaechleaaGreatDoorEb
import Derived.Maps.OwnIn
set_option linter.all false
namespace Go.Sy
open Go Go.Proofs Go.RowKit Tryz Ord
attribute [local go_sem] Oper.semAt_some
theorem gV {W W':World} {base E sz n:Nat} {v:Value} {xs:List Value} (h:W.ownsRow base E sz v n xs) (k:∀ g,v.ownBlock=some g→W'.heap[g]? = W.heap[g]?):W'.ownsRow base E sz v n xs:=by
 refine ⟨h.1,h.2.imp id ?_⟩;rintro ⟨g,cap,cur,rfl,hb,hg,hr⟩;exact ⟨g,cap,cur,rfl,hb,(k g rfl).trans hg,hr⟩
theorem Np {M:Nat→Prop} {w:World} {base E sz:Nat} {v:Value} {ts:List (List aL)} {xs:List Value} (h:w.ownsRow base E sz v ts.length xs) (hM:∀ g,v.ownBlock=some g→¬ M g) (hl:∀ t∈ts,t.length=sz) (hr:aM M w ts.flatten xs):(aL.slice sz ts).rep M w v:=by
 rcases h.2 with ⟨rfl,h0⟩ | ⟨g,cap,cur,rfl,hb,hg,hnc,hcm,hcs,htake⟩
 ·exact ⟨none,0,by rw [h0],by omega,by simp [maxLen], .inl (List.eq_nil_of_length_eq_zero h0)⟩
 ·refine ⟨some ⟨g,0,none⟩,cap,rfl,hnc,hcm, .inr ⟨g,0,cur,E,(0,0),rfl,hM g rfl,hg,?_⟩⟩;refine iY hl ?_;rw [List.drop_zero,htake];exact hr
section
variable {F:Fence} {nF:Nat}
theorem ap6 {ops:Array Oper} {rest:List Oper} {o:Oper} {a:Act} {Q:Exit→Act→World→Prop} {w:World} (hgd:o.guard=none) (s x:Operand)
  (ho:o.op = .call { callee:=.builtin .append,args:=#[s,x],argTypes:=#[201,201] }) (base:Nat) (v:Value) (k:Nat) (xs:List Value) (hs:a.eval s=v) (hown:w.ownsRow base 39 6 v k xs) (b c:Nat) (u0 u1 u2 u3 u4 u5:Value) {fz:Nat×Nat}
  (hb:w.heap[b]? = some (.cells #[u0,u1,u2,u3,u4,u5] 39 fz)) (hx:a.eval x = .slice (some ⟨b,0,none⟩) 1 c) (h1:∀ u ∈ [u0,u1,u2,u3,u4,u5],u.oneCell'=true) (hbase:base≤w.heap.size)
  (h:∀ v' w',w'.ownsRow base 39 6 v' (k+1) (xs ++ [u0,u1,u2,u3,u4,u5])→w.grownBy w' v.ownBlock→(v'.ownBlock=v.ownBlock∨v'.ownBlock=some w.heap.size)→wpListIn F nF prog ops Q rest (a.put o.dst v') w') (hk:k<100000000000:=by omega) :
  wpListIn F nF prog ops Q (o::rest) a w:=by
 obtain ⟨ie,hu,hie,hies,hieb⟩:=cW Rf;obtain ⟨ie',zv,hi,hz,hzc,_,hzs⟩:=eY (show lT prog 39=some [.slice none 0 0, .bool false, .slice none 0 0, .slice none 0 0, .bool false, .slice none 0 0] by kernel_rfl);rw [hie] at hi;simp only [aJ] at hi;subst hi;refine wpListIn_append_own_at w hgd s x 201 ho base 39 ie zv 6 112 hu hie hz hies hieb (by rw [hzs,hies]) (by decide) v k xs hs hown ⟨b,0,none⟩ 1 c [u0,u1,u2,u3,u4,u5] hx rfl ?_ h1 (by simp only [maxLen];omega) (by omega) hbase (fun v' w' h2 h3 _ h5=>h v' w' h2 h3 h5);intro j u hj
 match j,hj with
 | 0,hj=>simp at hj;subst hj;exact aB hb rfl
 | 1,hj=>simp at hj;subst hj;exact aB hb rfl
 | 2,hj=>simp at hj;subst hj;exact aB hb rfl
 | 3,hj=>simp at hj;subst hj;exact aB hb rfl
 | 4,hj=>simp at hj;subst hj;exact aB hb rfl
 | 5,hj=>simp at hj;subst hj;exact aB hb rfl
end
abbrev DU (M:Nat→Prop) (n0:Nat) (v:Value) (b:Nat):Prop:=(M b∨(n0≤b∧b<n0+3))∨v.ownBlock=some b
structure sN (M:Nat→Prop) (w:World) (n0 pb:Nat) (fs:Array Value) (t:Nat→Rat×Rat) (st:Nat→List aL) (ir i4 ip:Nat) (v:Value) (W:World):Prop where
 os:W.os=w.os
 tape:W.tape=w.tape
 output:W.output=w.output
 big:n0+3≤W.heap.size
 block:∀ j,j<n0→j≠pb→W.heap[j]? = w.heap[j]?
 h3:W.heap[n0]? = some (.cells fs 81 (0,0))
 h4:∃ cur,W.heap[n0+1]? = some (.cells cur 39 (0,0))∧aM (DU M n0 v) W (eB (t i4).1 (t i4).2) cur.toList
 h6:W.heap[n0+2]? = some (.cells #[.slice none 0 0, .bool false, .slice none 0 0, .slice none 0 0, .bool false, .slice none 0 0] 39 (0,0))
 hp:∃ cur,W.heap[pb]? = some (.cells cur 39 (0,0))∧aM (DU M n0 v) W (st ip) cur.toList
 row:∃ xs,W.ownsRow (n0+3) 39 6 v ir xs∧aM (DU M n0 v) W (vS (dV t ir)).flatten xs
section
variable {M:Nat→Prop} {w:World} {n0 pb:Nat} {fs:Array Value} {t:Nat→Rat×Rat} {st:Nat→List aL} {ir i4 ip:Nat} {v:Value} {W:World}
theorem sN.own (I:sN M w n0 pb fs t st ir i4 ip v W):∀ g,v.ownBlock=some g→n0+3≤g∧g<W.heap.size:=fun g hg=>by
 obtain ⟨xs,h,_⟩:=I.row;exact h.lt g hg
theorem sN.cE (I:sN M w n0 pb fs t st ir i4 ip v W) (hn:w.heap.size=n0) (hMp:M pb):aR M w (DU M n0 v) W:=fun b o hb ho _=>by
 have hlt:=(dS.1 ho).1;refine ⟨fun h=>?_,(I.block b (by omega) fun e=>hb (e▸hMp)).trans ho⟩;rcases h with (h | h) | h
 ·exact hb h
 ·omega
 ·have:=I.own b h;omega
theorem sN.gG (I:sN M w n0 pb fs t st ir i4 ip v W) (hn:w.heap.size=n0) (hMp:M pb) (hM:Fine M w):Fine (DU M n0 v) W:=by
 have hb:=I.big;refine ⟨fun b h=>?_,hM.2.cE (I.cE hn hMp)⟩;rcases h with (h | h) | h
 ·have:=hM.1 b h;omega
 ·omega
 ·exact (I.own b h).2
theorem sN.below {W':World} (I:sN M w n0 pb fs t st ir i4 ip v W) (hpb:pb<n0) (hb:Below W.heap.size W W'):sN M w n0 pb fs t st ir i4 ip v W':=by
 have hbig:=I.big;obtain ⟨c4,h4,r4⟩:=I.h4;obtain ⟨cp,hp,rp⟩:=I.hp;obtain ⟨xs,hr,rr⟩:=I.row;have k:aR (DU M n0 v) W (DU M n0 v) W':=aR.below hb;exact ⟨hb.os.trans I.os,hb.tape.trans I.tape,hb.output.trans I.output,Nat.le_trans hbig hb.size,fun j hj hne=>(hb.block j (by omega)).trans (I.block j hj hne),(hb.block _ (by omega)).trans I.h3,⟨c4,(hb.block _ (by omega)).trans h4,r4.mono k⟩,(hb.block _ (by omega)).trans I.h6,⟨cp,(hb.block _ (by omega)).trans hp,rp.mono k⟩,⟨xs,gV hr fun g hg=>hb.block g (I.own g hg).2,rr.mono k⟩⟩
theorem sN.ah7 {v4:Value} {W4:World} {o:Obj} (I:sN M w n0 pb fs t st ir i4 ip v W) (hg:(W.alloc o).grownBy W4 v.ownBlock) (hat:v4.ownBlock=v.ownBlock∨v4.ownBlock=some (W.alloc o).heap.size) :
  aR (DU M n0 v) W (DU M n0 v4) W4∧W.heap.size≤W4.heap.size∧(∀ j,j<W.heap.size→v.ownBlock≠some j→W4.heap[j]? = W.heap[j]?)∧∀ j,j<n0+3→W4.heap[j]? = W.heap[j]?:=by
 have hbig:=I.big;have hown:=I.own
 have hblk:∀ j,j<W.heap.size→v.ownBlock≠some j→W4.heap[j]? = W.heap[j]?:=fun j hj hne=>by
  rw [hg.block j (by rw [World.size_alloc];omega) (fun e=>hne e.symm),heap_alloc_old _ _ _ hj]
 have hs4:=hg.size;rw [World.size_alloc] at hs4;refine ⟨fun b x hb hx _=>?_,by omega,hblk,fun j hj=>hblk j (by omega) fun e=>by have:=hown j e;omega⟩;have hlt:=(dS.1 hx).1;refine ⟨fun h=>?_,(hblk b hlt fun e=>hb (.inr e)).trans hx⟩;rcases h with h | h
 ·exact hb (.inl h)
 ·rcases hat with e | e
  ·exact hb (.inr (e▸h))
  ·rw [e] at h;simp only [World.size_alloc,aJ] at h;omega
theorem sN.app {v4:Value} {W4:World} {u0 u1 u2 u3 u4 u5:Value} {xs:List Value} {o:Obj} (I:sN M w n0 pb fs t st i4 i4 ip v W) (hpb:pb<n0) (hu:aM (DU M n0 v) W (eB (t i4).1 (t i4).2) [u0,u1,u2,u3,u4,u5]) (hr:W.ownsRow (n0+3) 39 6 v i4 xs) (hxs:aM (DU M n0 v) W (vS (dV t i4)).flatten xs)
  (hv4:W4.ownsRow (n0+3) 39 6 v4 (i4+1) (xs ++ [u0,u1,u2,u3,u4,u5])) (hg:(W.alloc o).grownBy W4 v.ownBlock) (hat:v4.ownBlock=v.ownBlock∨v4.ownBlock=some (W.alloc o).heap.size):sN M w n0 pb fs t st (i4+1) i4 ip v4 W4:=by
 have hbig:=I.big;obtain ⟨k,hsz,_,hblk⟩:=I.ah7 hg hat;obtain ⟨c4,h4,r4⟩:=I.h4;obtain ⟨cp,hp,rp⟩:=I.hp;refine ⟨hg.os.trans I.os,hg.tape.trans I.tape,hg.output.trans I.output,by omega,fun j hj hn=>(hblk j (by omega)).trans (I.block j hj hn),(hblk _ (by omega)).trans I.h3,⟨c4,(hblk _ (by omega)).trans h4,r4.mono k⟩,(hblk _ (by omega)).trans I.h6,⟨cp,(hblk _ (by omega)).trans hp,rp.mono k⟩,⟨_,hv4,?_⟩⟩
 have e:(vS (dV t (i4+1))).flatten=(vS (dV t i4)).flatten++eB (t i4).1 (t i4).2:=by
  rw [rZ,vS,List.map_append,List.flatten_append];simp [vS]
 rw [e];exact (hxs.mono k).append (hu.mono k)
theorem sN.called {W5:World} {cur':Array Value} {ip':Nat} (I:sN M w n0 pb fs t st ir i4 ip v W) (hpb:pb<n0) (hMp:M pb) (hg:W.grownBy W5 (some pb)) (hc:W5.heap[pb]? = some (.cells cur' 39 (0,0))) (hr:aM (DU M n0 v) W5 (st ip') cur'.toList):sN M w n0 pb fs t st ir i4 ip' v W5:=by
 have hbig:=I.big;have hsz:=hg.size;have hblk:∀ j,j<W.heap.size→j≠pb→W5.heap[j]? = W.heap[j]?:=fun j hj hne=>hg.block j hj fun e=>hne (Option.some.inj e);have k:aR (DU M n0 v) W (DU M n0 v) W5:=fun b x hb hx _=>⟨hb,(hblk b (dS.1 hx).1 fun e=>hb (.inl (.inl (e▸hMp)))).trans hx⟩
 obtain ⟨c4,h4,r4⟩:=I.h4;obtain ⟨xs,hro,rr⟩:=I.row;exact ⟨hg.os.trans I.os,hg.tape.trans I.tape,hg.output.trans I.output,by omega,fun j hj hn=>(hblk j (by omega) hn).trans (I.block j hj hn),(hblk _ (by omega) (by omega)).trans I.h3,⟨c4,(hblk _ (by omega) (by omega)).trans h4,r4.mono k⟩,(hblk _ (by omega) (by omega)).trans I.h6,⟨cur',hc,hr⟩,⟨xs,gV hro fun g hg=>hblk g (I.own g hg).2 (by have:=(I.own g hg).1;omega),rr.mono k⟩⟩
theorem sN.put {i':Nat} {u0 u1 u2 u3 u4 u5:Value} (I:sN M w n0 pb fs t st ir i4 ip v W) (hpb:pb<n0) (hu:aM (DU M n0 v) W (eB (t i').1 (t i').2) [u0,u1,u2,u3,u4,u5]):sN M w n0 pb fs t st ir i' ip v (W.setRow (n0+1) #[u0,u1,u2,u3,u4,u5]):=by
 have hbig:=I.big;obtain ⟨c4,h4,r4⟩:=I.h4;obtain ⟨cp,hp,rp⟩:=I.hp;obtain ⟨xs,hro,rr⟩:=I.row;have hot:∀ j,j≠n0+1→(W.setRow (n0+1) #[u0,u1,u2,u3,u4,u5]).heap[j]? = W.heap[j]?:=fun j hj=>setRow_other W (n0+1) j _ hj;have k:aR (DU M n0 v) W (DU M n0 v) (W.setRow (n0+1) #[u0,u1,u2,u3,u4,u5]):=fun b x hb hx _=>⟨hb,(hot b fun e=>hb (.inl (.inr (by omega)))).trans hx⟩
 exact ⟨I.os,I.tape,I.output,by simpa [World.setRow] using hbig,fun j hj hn=>(hot j (by omega)).trans (I.block j hj hn),(hot _ (by omega)).trans I.h3,⟨_,setRow_heap W (n0+1) _ _ 39 (0,0) h4,by simpa using hu.mono k⟩,(hot _ (by omega)).trans I.h6,⟨cp,(hot _ (by omega)).trans hp,rp.mono k⟩,⟨xs,gV hro fun g hg=>hot g (by have:=(I.own g hg).1;omega),rr.mono k⟩⟩
end
theorem rA {f:FuncId} {args:List aE} {q:Rat} (hd:aD prog f args (.ret [qT q])) {M:Nat→Prop} {w:World} {vs:List Value} (hM:Fine M w) (hv:bR M w args vs) :
  Calls prog f vs.toArray w fun e w'=>Below w.heap.size w w'∧∃ u0 u1 u2,e = .returned (.agg #[u0,u1,u2])∧aM M w' (qC q) [u0,u1,u2]:=by
 refine (hd.2 M w vs hM hv).mono ?_;rintro e w' ⟨hb,us,rfl,hus⟩;obtain ⟨u0,u1,u2,e,h⟩:=My hus;exact ⟨hb,u0,u1,u2,by rw [e],h⟩
theorem RP {f:FuncId} {args:List aE} {n:Int} (hd:aD prog f args (.ret [.one (.int .i64 n)])) {M:Nat→Prop} {w:World} {vs:List Value} (hM:Fine M w) (hv:bR M w args vs) :
  Calls prog f vs.toArray w fun e w'=>Below w.heap.size w w'∧e = .returned (.int .i64 n):=by
 refine (hd.2 M w vs hM hv).mono ?_;rintro e w' ⟨hb,us,rfl,hus⟩
 match us,hus with
 | [v],hus=>exact ⟨hb,by rw [show v = .int .i64 n from hus.1.1];rfl⟩
 | [],hus=>exact hus.elim
 | _::_::_,hus=>exact hus.2.elim
structure LS (n0 i:Nat) (cv v:Value) (t:Array Value):Prop where
 sz:t.size=34
 t2:t.getD 2 Go.undef=cv
 t3:t.getD 3 Go.undef = .pointer (some ⟨n0,0,none⟩)
 t4:t.getD 4 Go.undef = .pointer (some ⟨n0+1,0,none⟩)
 t6:t.getD 6 Go.undef = .pointer (some ⟨n0+2,0,none⟩)
 t7:t.getD 7 Go.undef=v
 t8:t.getD 8 Go.undef = .int .i64 (i:Int)
set_option maxRecDepth 100000 in
set_option maxHeartbeats 1000000 in
theorem WH (M:Nat→Prop) (w:World) (hM:Fine M w) (t:Nat→Rat×Rat) (N:Nat) (g:FuncId) (lb:Array Value) (st:Nat→List aL) (pb:Nat) (hMp:M pb) (up down:Rat) (B:Nat)
  (hge:∀ vs w,(callFunc g vs).run prog w = .ok (.enter g vs) w)
  (hg:∀ i,i<N→∀ (M':Nat→Prop) (W:World) (u0 u1 u2 u3 u4 u5:Value) (cur:Array Value),Fine M' W→M' pb→aR M w M' W→W.heap[pb]? = some (.cells cur 39 (0,0))→aM M' W (st i) cur.toList→aM M' W (eB (t i).1 (t i).2) [u0,u1,u2,u3,u4,u5] →
   Calls prog g (#[.agg #[u0,u1,u2,u3,u4,u5], .int .i64 (i:Int)]++lb) W fun e W'=>W.grownBy W' (some pb)∧∃ u0 u1 u2 u3 u4 u5 cur',e = .returned (.agg #[u0,u1,u2,u3,u4,u5])∧aM M' W' (eB (t (i+1)).1 (t (i+1)).2) [u0,u1,u2,u3,u4,u5]∧W'.heap[pb]? = some (.cells cur' 39 (0,0))∧aM M' W' (st (i+1)) cur'.toList)
  (hf:∀ i,i≤N→Fit B (t i).1∧Fit B (t i).2) (hd:Fit B down) (hgt:∀ i,i<N→down<(cS (t i)).2) (hle:(cS (t N)).2≤down) (hW:4≤B) (hW2:B≤100000) (hN:N≤10000)
  (f0 f1 f2 f3 f4 f5 a0 a1 a2 a3 a4 a5:Value) (hfs:aM M w (eB up down) [f0,f1,f2,f3,f4,f5]) (has:aM M w (eB (t 0).1 (t 0).2) [a0,a1,a2,a3,a4,a5]) (cur0:Array Value) (hp0:w.heap[pb]? = some (.cells cur0 39 (0,0))) (hst0:aM M w (st 0) cur0.toList) :
  CallsIn Fence.wide 1001 prog 151 #[.agg #[f0,f1,f2,f3,f4,f5], .agg #[a0,a1,a2,a3,a4,a5], .func (.func g) #[] lb] w fun e W'=>w.grownBy W' (some pb)∧∃ u0 u1 u2 u3 u4 u5,e = .returned (.agg #[u0,u1,u2,u3,u4,u5])∧aM M W' (eB (nB t N).1 (nB t N).2) [u0,u1,u2,u3,u4,u5]:=by
 have hfo:=hfs.one;have hao:=has.one;have hpblt:=hM.1 pb hMp;refine callsIn_of_wp func151 rfl trivial ?_ rfl;simp only [ntmps151,List.size_toArray,List.length_cons,List.length_nil,Nat.reduceAdd,Nat.reduceSub,Array.replicate_succ,Array.replicate_zero,List.push_toArray,List.append_toArray,List.nil_append,List.cons_append]
 gi_wp2
 obtain ⟨n0,hn0⟩:∃ n0,w.heap.size=n0:=⟨_,rfl⟩
 obtain ⟨W0,hW0⟩:∃ W0,(((w.alloc (.cells #[f0,f1,f2,f3,f4,f5] 81)).alloc (.cells #[a0,a1,a2,a3,a4,a5] 39)).alloc (.cells #[.slice none 0 0, .bool false, .slice none 0 0, .slice none 0 0, .bool false, .slice none 0 0] 39))=W0:=⟨_,rfl⟩
 have hs0:W0.heap.size=n0+3:=by rw [←hW0];simp [hn0]
 have hb0:Below n0 w W0:=by
  rw [←hW0];exact (((Below.refl _ w).alloc (by omega) _).alloc (by simp;omega) _).alloc (by simp;omega) _
 have h30:W0.heap[n0]? = some (.cells #[f0,f1,f2,f3,f4,f5] 81 (0,0)):=by rw [←hW0,heap_alloc_old _ _ _ (by simp;omega),heap_alloc_old _ _ _ (by simp;omega),←hn0];exact heap_alloc_new w _
 have h40:W0.heap[n0+1]? = some (.cells #[a0,a1,a2,a3,a4,a5] 39 (0,0)):=by
  rw [←hW0,heap_alloc_old _ _ _ (by simp;omega)];have:=heap_alloc_new (w.alloc (.cells #[f0,f1,f2,f3,f4,f5] 81)) (.cells #[a0,a1,a2,a3,a4,a5] 39);rw [World.size_alloc,hn0] at this;exact this
 have h60:W0.heap[n0+2]? = some (.cells #[.slice none 0 0, .bool false, .slice none 0 0, .slice none 0 0, .bool false, .slice none 0 0] 39 (0,0)):=by
  rw [←hW0];have:=heap_alloc_new ((w.alloc (.cells #[f0,f1,f2,f3,f4,f5] 81)).alloc (.cells #[a0,a1,a2,a3,a4,a5] 39)) (.cells #[.slice none 0 0, .bool false, .slice none 0 0, .slice none 0 0, .bool false, .slice none 0 0] 39);rw [World.size_alloc,World.size_alloc,hn0] at this;exact this
 rw [hW0];simp only [hn0];rw [hn0] at hpblt
 have k0:aR M w (DU M n0 (.slice none 0 0)) W0:=fun b o hb ho _=>by
  have hlt:=(dS.1 ho).1;exact ⟨fun h=>h.elim (fun h=>h.elim hb (by omega)) (by simp [Value.ownBlock]),(hb0.block b (by omega)).trans ho⟩
 have I0:sN M w n0 pb #[f0,f1,f2,f3,f4,f5] t st 0 0 0 (.slice none 0 0) W0:=⟨hb0.os,hb0.tape,hb0.output,by omega,fun j hj _=>hb0.block j hj,h30,⟨_,h40,has.mono k0⟩,h60,⟨cur0,(hb0.block pb hpblt).trans hp0,hst0.mono k0⟩,⟨[],World.ownsRow_nil _ _ _ _,trivial⟩⟩
 clear hW0 h30 h40 h60 k0 hb0;refine wpIn_loop_ghost (fun j a' W=>∃ i v tt,j=N-i∧i≤N∧a'=⟨tt,[]⟩∧LS n0 i (.func (.func g) #[] lb) v tt∧sN M w n0 pb #[f0,f1,f2,f3,f4,f5] t st i i i v W) (N-0) ⟨0, .slice none 0 0,_,rfl,fP _,rfl,⟨rfl,rfl,rfl,rfl,rfl,rfl,rfl⟩,I0⟩ ?round
 case round=>
  rintro j a' W1 ⟨i,v,tt,rfl,hi,rfl,S,I⟩;have et:=Pb S.sz;rw [S.t2,S.t3,S.t4,S.t6,S.t7,S.t8] at et;generalize tt.getD 0 Go.undef=x0 at et;generalize tt.getD 1 Go.undef=x1 at et;generalize tt.getD 5 Go.undef=x5 at et;generalize tt.getD 9 Go.undef=x9 at et;generalize tt.getD 10 Go.undef=x10 at et;generalize tt.getD 11 Go.undef=x11 at et;generalize tt.getD 12 Go.undef=x12 at et;generalize tt.getD 13 Go.undef=x13 at et;generalize tt.getD 14 Go.undef=x14 at et;generalize tt.getD 15 Go.undef=x15 at et;generalize tt.getD 16 Go.undef=x16 at et;generalize tt.getD 17 Go.undef=x17 at et;generalize tt.getD 18 Go.undef=x18 at et;generalize tt.getD 19 Go.undef=x19 at et;generalize tt.getD 20 Go.undef=x20 at et;generalize tt.getD 21 Go.undef=x21 at et;generalize tt.getD 22 Go.undef=x22 at et;generalize tt.getD 23 Go.undef=x23 at et;generalize tt.getD 24 Go.undef=x24 at et;generalize tt.getD 25 Go.undef=x25 at et;generalize tt.getD 26 Go.undef=x26 at et;generalize tt.getD 27 Go.undef=x27 at et;generalize tt.getD 28 Go.undef=x28 at et;generalize tt.getD 29 Go.undef=x29 at et;generalize tt.getD 30 Go.undef=x30 at et;generalize tt.getD 31 Go.undef=x31 at et;generalize tt.getD 32 Go.undef=x32 at et;generalize tt.getD 33 Go.undef=x33 at et;subst et;obtain ⟨Wd,hWd⟩:∃ Wd:World,{ W1 with drawn:=W1.drawn+1 } = Wd:=⟨_,rfl⟩
  have Id:=I.below (W':=Wd) hpblt (by rw [←hWd];exact ⟨rfl,rfl,rfl,cD _,fun _ _=>rfl⟩);refine wpIn_seq_k fun K hK=>wpIn_seq_k fun K' hK'=>wpIn_region_any (by kernel_rfl) ?_;rw [hWd];clear hWd I W1;obtain ⟨c4,h4,r4⟩:=Id.h4;obtain ⟨u0,u1,u2,u3,u4,u5,hcc⟩:=HC r4;have hone:=r4.one;rw [hcc] at r4 hone;obtain rfl:c4 = #[u0,u1,u2,u3,u4,u5]:=by rw [←Array.toArray_toList (xs:=c4),hcc]
  have c40:Wd.cell? ⟨n0+1,0,none⟩=some u0:=aB h4 rfl;have c41:Wd.cell? ⟨n0+1,1,none⟩=some u1:=aB h4 rfl;have c42:Wd.cell? ⟨n0+1,2,none⟩=some u2:=aB h4 rfl;have c43:Wd.cell? ⟨n0+1,3,none⟩=some u3:=aB h4 rfl;have c44:Wd.cell? ⟨n0+1,4,none⟩=some u4:=aB h4 rfl;have c45:Wd.cell? ⟨n0+1,5,none⟩=some u5:=aB h4 rfl;have c33:Wd.cell? ⟨n0,3,none⟩=some f3:=aB Id.h3 rfl;have c34:Wd.cell? ⟨n0,4,none⟩=some f4:=aB Id.h3 rfl;have c35:Wd.cell? ⟨n0,5,none⟩=some f5:=aB Id.h3 rfl;have hfi:=hf i hi;have hab:=HB hfi.1 hfi.2
  have fin:∀ W2 y10,sN M w n0 pb #[f0,f1,f2,f3,f4,f5] t st i i i v W2→K' ⟨#[x0,x1, .func (.func g) #[] lb, .pointer (some ⟨n0,0,none⟩), .pointer (some ⟨n0+1,0,none⟩),x5, .pointer (some ⟨n0+2,0,none⟩),v, .int .i64 (i:Int), .agg #[u0,u1,u2,u3,u4,u5],y10, .pointer (some ⟨n0,3,none⟩), .agg #[f3,f4,f5], .int .i64 (dM (cS (t i)).2 down), .bool (decide (0<dM (cS (t i)).2 down)),x15,x16,x17,x18,x19,x20,x21,x22,x23,x24,x25,x26,x27,x28,x29,x30,x31,x32,x33],[]⟩ W2:=by
   intro W2 y10 I2;refine hK' _ _ ?_;by_cases hiN:i<N
   ·have hdec:decide (0<dM (cS (t i)).2 down)=true:=decide_eq_true (gU.2 (hgt i hiN));rw [hdec];obtain ⟨ccb,h4b,rb⟩:=I2.h4;obtain ⟨b0,b1,b2,b3,b4,b5,hccb⟩:=HC rb;have honeb:=rb.one;rw [hccb] at rb honeb;obtain rfl:ccb = #[b0,b1,b2,b3,b4,b5]:=(by rw [←Array.toArray_toList (xs:=ccb),hccb])
    have eb0:W2.cell? ⟨n0+1,0,none⟩=some b0:=aB h4b rfl;have eb1:W2.cell? ⟨n0+1,1,none⟩=some b1:=aB h4b rfl;have eb2:W2.cell? ⟨n0+1,2,none⟩=some b2:=aB h4b rfl;have eb3:W2.cell? ⟨n0+1,3,none⟩=some b3:=aB h4b rfl;have eb4:W2.cell? ⟨n0+1,4,none⟩=some b4:=aB h4b rfl;have eb5:W2.cell? ⟨n0+1,5,none⟩=some b5:=aB h4b rfl;obtain ⟨xs,hro,hrr⟩:=I2.row
    gi_wp2_with (gi_at_builtin;refine ap6 rfl _ _ rfl (n0+3) v i xs rfl (hro.alloc _) W2.heap.size 1 b0 b1 b2 b3 b4 b5 (heap_alloc_new W2 _) rfl honeb (by rw [World.size_alloc];have:=I2.big;omega) ?_;intro v4 W4 hv4 hg4 hat4;have I4:=I2.app hpblt rb hro hrr hv4 hg4 hat4;obtain ⟨ccc,h4c,rc⟩:=I4.h4;obtain ⟨c0,c1,c2,c3,c4,c5,hccc⟩:=HC rc;have honec:=rc.one;rw [hccc] at rc honec;obtain rfl:ccc = #[c0,c1,c2,c3,c4,c5]:=(by rw [←Array.toArray_toList (xs:=ccc),hccc]);have ec0:W4.cell? ⟨n0+1,0,none⟩=some c0:=aB h4c rfl;have ec1:W4.cell? ⟨n0+1,1,none⟩=some c1:=aB h4c rfl;have ec2:W4.cell? ⟨n0+1,2,none⟩=some c2:=aB h4c rfl;have ec3:W4.cell? ⟨n0+1,3,none⟩=some c3:=aB h4c rfl;have ec4:W4.cell? ⟨n0+1,4,none⟩=some c4:=aB h4c rfl;have ec5:W4.cell? ⟨n0+1,5,none⟩=some c5:=aB h4c rfl)
    refine ⟨trivial,?_⟩;obtain ⟨cp,hp,rp⟩:=I4.hp;refine (callsIn_wide.2 (hg i hiN (DU M n0 v4) W4 c0 c1 c2 c3 c4 c5 cp (I4.gG hn0 hMp hM) (.inl (.inl hMp)) (I4.cE hn0 hMp) hp rp rc)).mono ?_;rintro e W5 ⟨hg5,d0,d1,d2,d3,d4,d5,cur',rfl,hd5,hc5,hr5⟩;have I5:=I4.called hpblt hMp hg5 hc5 hr5;have hod:=hd5.one;have h45:W5.heap[n0+1]? = some (.cells #[c0,c1,c2,c3,c4,c5] 39 (0,0)):=(hg5.block _ (by have:=I4.big;omega) fun e=>by have:=Option.some.inj e;omega).trans h4c
    gi_wp2
    rw [gK h45 (hod _ (by simp)) (hod _ (by simp)) (hod _ (by simp)) (hod _ (by simp)) (hod _ (by simp)) (hod _ (by simp))]
    gi_wp2
    exact ⟨N-(i+1),by omega,i+1,v4,_,rfl,by omega,rfl,⟨rfl,rfl,rfl,rfl,rfl,rfl,rfl⟩,I5.put hpblt hd5⟩
   ·obtain rfl:i=N:=by omega
    have hdec:decide (0<dM (cS (t i)).2 down)=false:=decide_eq_false fun h=>by have:=gU.1 h;grind
    rw [hdec];obtain ⟨ccb,h4b,rb⟩:=I2.h4;obtain ⟨b0,b1,b2,b3,b4,b5,hccb⟩:=HC rb;have honeb:=rb.one;rw [hccb] at rb honeb;obtain rfl:ccb = #[b0,b1,b2,b3,b4,b5]:=(by rw [←Array.toArray_toList (xs:=ccb),hccb])
    have eb0:W2.cell? ⟨n0+1,0,none⟩=some b0:=aB h4b rfl;have eb1:W2.cell? ⟨n0+1,1,none⟩=some b1:=aB h4b rfl;have eb2:W2.cell? ⟨n0+1,2,none⟩=some b2:=aB h4b rfl;have eb3:W2.cell? ⟨n0+1,3,none⟩=some b3:=aB h4b rfl;have eb4:W2.cell? ⟨n0+1,4,none⟩=some b4:=aB h4b rfl;have eb5:W2.cell? ⟨n0+1,5,none⟩=some b5:=aB h4b rfl;obtain ⟨xs,hro,hrr⟩:=I2.row
    gi_wp2
    refine ⟨trivial,?_⟩;refine (callsIn_wide.2 (rA (jJ (t i) B hfi.1 hfi.2) (I2.gG hn0 hMp hM) (vs:=[.agg #[b0,b1,b2,b3,b4,b5]]) ⟨⟨_,rfl,rb⟩,trivial⟩)).mono ?_;rintro e W3 ⟨hb3,g0,g1,g2,rfl,hgq⟩;have I3:=I2.below hpblt hb3
    gi_wp2
    refine ⟨trivial,?_⟩;refine (callsIn_wide.2 (rA (aY 2) (I3.gG hn0 hMp hM) (vs:=[.int .i64 2]) ⟨⟨rfl,rfl⟩,trivial⟩)).mono ?_;rintro e W4 ⟨hb4,i0,i1,i2,rfl,hiq⟩;have I4:=I3.below hpblt hb4;have hgq4:=hgq.mono (aR.below hb4)
    gi_wp2
    refine ⟨trivial,?_⟩;refine (callsIn_wide.2 (rA (bG (cS (t i)).2 ((2:Int):Rat) B 2 hab.2 (Fit.int (by omega) (by omega))) (I4.gG hn0 hMp hM) (vs:=[.agg #[g0,g1,g2], .agg #[i0,i1,i2]]) ⟨⟨_,rfl,hgq4⟩,⟨_,rfl,hiq⟩,trivial⟩)).mono ?_;rintro e W5 ⟨hb5,m0,m1,m2,rfl,hmq⟩;have I5:=I4.below hpblt hb5
    gi_wp2
    refine ⟨trivial,?_⟩;refine (callsIn_wide.2 (gR (GN _) (I5.gG hn0 hMp hM) (vs:=[.agg #[m0,m1,m2]]) ⟨⟨_,rfl,hmq⟩,trivial⟩)).mono ?_;rintro e W6 ⟨hb6,s0,s1,s2,s3,s4,s5,rfl,hsq⟩;have I6:=I5.below hpblt hb6;clear I5 I4 I3 I2 Id hgq hgq4 hmq hiq;have hso:=hsq.one;obtain ⟨xs,hro,hrr⟩:=I6.row
    gi_wp2_with (gi_at_builtin;refine ap6 rfl _ _ rfl (n0+3) v i xs rfl (hro.alloc _) W6.heap.size 1 s0 s1 s2 s3 s4 s5 (heap_alloc_new W6 _) rfl hso (by rw [World.size_alloc];have:=I6.big;omega) ?_;intro v4 W7 hv4 hg4 hat4)
    obtain ⟨k7,hsz7,_,hblk7⟩:=I6.ah7 hg4 hat4;have hbig6:=I6.big;have hlow:∀ b,M b→b<n0:=fun b hb=>by have:=hM.1 b hb;omega
    have hm:Fit (B+2) ((cS (t i)).2*((2:Int):Rat)):=hab.2.mul (Fit.int (by omega) (by omega));have hL:nB t i=Ls (dV t i ++ [(-((cS (t i)).2*((2:Int):Rat)),(cS (t i)).2*((2:Int):Rat))]):=rfl
    have hrr7:aM (DU M n0 v4) W7 (vS (dV t i ++ [(-((cS (t i)).2*((2:Int):Rat)),(cS (t i)).2*((2:Int):Rat))])).flatten (xs ++ [s0,s1,s2,s3,s4,s5]):=by
     rw [vS,List.map_append,List.flatten_append];refine (hrr.mono k7).append ?_
     simpa using hsq.mono k7
    have hM7:Fine (fun b=>M b∨(n0≤b∧b<n0+3)) W7:=by
     refine ⟨fun b hb=>?_,(hM.2.cE ((I6.cE hn0 hMp).trans k7)).sub fun b hb=>.inl hb⟩;rcases hb with h | h
     ·have:=hlow b h;omega
     ·omega
    have hsl:(aL.slice 6 (vS (dV t i ++ [(-((cS (t i)).2*((2:Int):Rat)),(cS (t i)).2*((2:Int):Rat))]))).rep (fun b=>M b∨(n0≤b∧b<n0+3)) W7 v4:=by
     refine Np (base:=n0+3) (E:=39) (by rw [vS,dL,eF,dI];exact hv4) (fun g hg h=>?_) (by intro u hu;obtain ⟨_,_,rfl⟩:=yH.1 hu;rfl) (hrr7.mono fun b o hb ho _=>⟨fun h=>hb (.inl h),ho⟩);have:=hv4.lt g hg;rcases h with h | h
     ·have:=hlow g h;omega
     ·omega
    refine ⟨trivial,?_⟩
    refine (callsIn_wide.2 (gR (a:=(nB t i).1) (b:=(nB t i).2) (La (dV t i ++ [(-((cS (t i)).2*((2:Int):Rat)),(cS (t i)).2*((2:Int):Rat))]) (B+2) (fun x hx=>by
     rcases List.mem_append.1 hx with h | h
     ·obtain ⟨j,hj,rfl⟩:=yH.1 h;have:=hf j (by have:=List.mem_range.1 hj;omega);exact ⟨this.1.mono (by omega),this.2.mono (by omega)⟩
     ·rw [List.mem_singleton.1 h];exact ⟨hm.neg,hm⟩) (by simp [dI];omega) (by
      rw [eF,dI,List.length_singleton];have:=Nat.mul_le_mul (show i+1≤10001 by omega) (show B+2+1≤100003 by omega);omega)) hM7 (vs:=[v4]) ⟨hsl,trivial⟩)).mono ?_
    rintro e W8 ⟨hb8,q0,q1,q2,q3,q4,q5,rfl,hqq⟩;have hqo:=hqq.one;have h68:W8.heap[n0+2]? = some (.cells #[.slice none 0 0, .bool false, .slice none 0 0, .slice none 0 0, .bool false, .slice none 0 0] 39 (0,0)):=(hb8.block _ (by omega)).trans ((hblk7 _ (by omega)).trans I6.h6)
    gi_wp2
    rw [gK h68 (hqo _ (by simp)) (hqo _ (by simp)) (hqo _ (by simp)) (hqo _ (by simp)) (hqo _ (by simp)) (hqo _ (by simp))];have hr9:=setRow_heap W8 (n0+2) _ #[q0,q1,q2,q3,q4,q5] 39 (0,0) h68;have hot:∀ j,j≠n0+2→(W8.setRow (n0+2) #[q0,q1,q2,q3,q4,q5]).heap[j]? = W8.heap[j]?:=fun j hj=>setRow_other W8 (n0+2) j _ hj;have hs9:(W8.setRow (n0+2) #[q0,q1,q2,q3,q4,q5]).heap.size=W8.heap.size:=by simp [World.setRow]
    have ho9:(W8.setRow (n0+2) #[q0,q1,q2,q3,q4,q5]).os=W8.os∧(W8.setRow (n0+2) #[q0,q1,q2,q3,q4,q5]).tape=W8.tape∧(W8.setRow (n0+2) #[q0,q1,q2,q3,q4,q5]).output=W8.output:=⟨rfl,rfl,rfl⟩
    generalize W8.setRow (n0+2) #[q0,q1,q2,q3,q4,q5]=W9 at *;have z0:W9.cell? ⟨n0+2,0,none⟩=some q0:=aB hr9 rfl;have z1:W9.cell? ⟨n0+2,1,none⟩=some q1:=aB hr9 rfl;have z2:W9.cell? ⟨n0+2,2,none⟩=some q2:=aB hr9 rfl;have z3:W9.cell? ⟨n0+2,3,none⟩=some q3:=aB hr9 rfl;have z4:W9.cell? ⟨n0+2,4,none⟩=some q4:=aB hr9 rfl;have z5:W9.cell? ⟨n0+2,5,none⟩=some q5:=aB hr9 rfl
    gi_wp2
    have hs8:=hb8.size;refine bodyPost_ret (v:=.agg #[q0,q1,q2,q3,q4,q5]) ?_ rfl ⟨⟨?_,?_,?_,by omega,fun j hj hne=>?_⟩,q0,q1,q2,q3,q4,q5,rfl,hqq.mono fun b x hb hx _=>⟨fun h=>hb (.inl h),(hot b fun e=>hb (.inr (by omega))).trans hx⟩⟩
    ·simp [results,show f151.results = #[.cell 6 39] from rfl,go_sem,z0,z1,z2,z3,z4,z5]
    ·exact ho9.1.trans (hb8.os.trans (hg4.os.trans I6.os))
    ·exact ho9.2.1.trans (hb8.tape.trans (hg4.tape.trans I6.tape))
    ·exact ho9.2.2.trans (hb8.output.trans (hg4.output.trans I6.output))
    ·exact (hot j (by omega)).trans ((hb8.block j (by omega)).trans ((hblk7 j (by omega)).trans (I6.block j (by omega) fun e=>hne (e▸rfl))))
  refine wpAnyIn_take (i:=2) (v:=.pointer (some ⟨n0,3,none⟩)) rfl rfl (by kernel_rfl) (by kernel_rfl) (by kernel_rfl) (fun _ _ _ h=>h) ⟨Or.inl ⟨by rfl,fun w=>by go_simp⟩,fun _=>rfl⟩ ?_;refine wpAnyIn_ready (rs:=[0,3]) (by kernel_rfl) (by simp) ?_;have hgr:=fun W2 (I2:sN M w n0 pb #[f0,f1,f2,f3,f4,f5] t st i i i v W2) (hr:aM (DU M n0 v) W2 (eB (t i).1 (t i).2) [u0,u1,u2,u3,u4,u5])=>rA (jJ (t i) B hfi.1 hfi.2) (I2.gG hn0 hMp hM) (vs:=[.agg #[u0,u1,u2,u3,u4,u5]]) ⟨⟨_,rfl,hr⟩,trivial⟩;have hcm:=fun W2 (I2:sN M w n0 pb #[f0,f1,f2,f3,f4,f5] t st i i i v W2) g0 g1 g2 (hr:aM (DU M n0 v) W2 (qC (cS (t i)).2) [g0,g1,g2])=>RP (bE (cS (t i)).2 down B B hab.2 hd) (I2.gG hn0 hMp hM) (vs:=[.agg #[g0,g1,g2], .agg #[f3,f4,f5]]) ⟨⟨_,rfl,hr⟩,⟨_,rfl,(hfs.mono (I2.cE hn0 hMp)).2.2.2⟩,trivial⟩;refine AllReadyIn.cons rfl (fun K2 hK2=>?_) (AllReadyIn.cons rfl (fun K2 hK2=>?_) AllReadyIn.nil)
  ·go_simp
   refine hK2 _ _ ?_;clear hK2 K2;refine wpAnyIn_ready (rs:=[1,3]) (by kernel_rfl) (by simp) ?_;refine AllReadyIn.cons rfl (fun K2 hK2=>?_) (AllReadyIn.cons rfl (fun K2 hK2=>?_) AllReadyIn.nil)
   ·go_simp
    refine ⟨trivial,?_⟩;refine (callsIn_wide.2 (hgr Wd Id r4)).mono ?_;rintro e W2 ⟨hb2,g0,g1,g2,rfl,hgq⟩;refine hK2 _ _ ?_;clear hK2 K2;have I2:=Id.below hpblt hb2;have d33:W2.cell? ⟨n0,3,none⟩=some f3:=aB I2.h3 rfl;have d34:W2.cell? ⟨n0,4,none⟩=some f4:=aB I2.h3 rfl;have d35:W2.cell? ⟨n0,5,none⟩=some f5:=aB I2.h3 rfl;refine wpAnyIn_ready (rs:=[3]) (by kernel_rfl) (by simp) ?_;refine AllReadyIn.cons rfl (fun K2 hK2=>?_) AllReadyIn.nil
    go_simp
    refine hK2 _ _ ?_;clear hK2 K2;refine wpAnyIn_ready (rs:=[4]) (by kernel_rfl) (by simp) ?_;refine AllReadyIn.cons rfl (fun K2 hK2=>?_) AllReadyIn.nil
    go_simp
    refine ⟨trivial,?_⟩;refine (callsIn_wide.2 (hcm W2 I2 g0 g1 g2 hgq)).mono ?_;rintro e W3 ⟨hb3,rfl⟩;refine hK2 _ _ ?_;clear hK2 K2;refine wpAnyIn_ready (rs:=[5]) (by kernel_rfl) (by simp) ?_;refine AllReadyIn.cons rfl (fun K2 hK2=>?_) AllReadyIn.nil
    go_simp
    refine hK2 _ _ ?_;clear hK2 K2;refine wpAnyIn_done (by kernel_rfl) ?_ _;exact fin W3 _ (I2.below hpblt hb3)
   ·go_simp
    refine hK2 _ _ ?_;clear hK2 K2;refine wpAnyIn_ready (rs:=[1]) (by kernel_rfl) (by simp) ?_;refine AllReadyIn.cons rfl (fun K2 hK2=>?_) AllReadyIn.nil
    go_simp
    refine ⟨trivial,?_⟩;refine (callsIn_wide.2 (hgr Wd Id r4)).mono ?_;rintro e W2 ⟨hb2,g0,g1,g2,rfl,hgq⟩;refine hK2 _ _ ?_;clear hK2 K2;have I2:=Id.below hpblt hb2;refine wpAnyIn_ready (rs:=[4]) (by kernel_rfl) (by simp) ?_;refine AllReadyIn.cons rfl (fun K2 hK2=>?_) AllReadyIn.nil
    go_simp
    refine ⟨trivial,?_⟩;refine (callsIn_wide.2 (hcm W2 I2 g0 g1 g2 hgq)).mono ?_;rintro e W3 ⟨hb3,rfl⟩;refine hK2 _ _ ?_;clear hK2 K2;refine wpAnyIn_ready (rs:=[5]) (by kernel_rfl) (by simp) ?_;refine AllReadyIn.cons rfl (fun K2 hK2=>?_) AllReadyIn.nil
    go_simp
    refine hK2 _ _ ?_;clear hK2 K2;refine wpAnyIn_done (by kernel_rfl) ?_ _;exact fin W3 _ (I2.below hpblt hb3)
  ·go_simp
   refine hK2 _ _ ?_;clear hK2 K2;refine wpAnyIn_ready (rs:=[0]) (by kernel_rfl) (by simp) ?_;refine AllReadyIn.cons rfl (fun K2 hK2=>?_) AllReadyIn.nil
   go_simp
   refine hK2 _ _ ?_;clear hK2 K2;refine wpAnyIn_ready (rs:=[1]) (by kernel_rfl) (by simp) ?_;refine AllReadyIn.cons rfl (fun K2 hK2=>?_) AllReadyIn.nil
   go_simp
   refine ⟨trivial,?_⟩;refine (callsIn_wide.2 (hgr Wd Id r4)).mono ?_;rintro e W2 ⟨hb2,g0,g1,g2,rfl,hgq⟩;refine hK2 _ _ ?_;clear hK2 K2;have I2:=Id.below hpblt hb2;refine wpAnyIn_ready (rs:=[4]) (by kernel_rfl) (by simp) ?_;refine AllReadyIn.cons rfl (fun K2 hK2=>?_) AllReadyIn.nil
   go_simp
   refine ⟨trivial,?_⟩;refine (callsIn_wide.2 (hcm W2 I2 g0 g1 g2 hgq)).mono ?_;rintro e W3 ⟨hb3,rfl⟩;refine hK2 _ _ ?_;clear hK2 K2;refine wpAnyIn_ready (rs:=[5]) (by kernel_rfl) (by simp) ?_;refine AllReadyIn.cons rfl (fun K2 hK2=>?_) AllReadyIn.nil
   go_simp
   refine hK2 _ _ ?_;clear hK2 K2;refine wpAnyIn_done (by kernel_rfl) ?_ _;exact fin W3 _ (I2.below hpblt hb3)
end Go.Sy
namespace Go.Sy
open Go Go.Proofs Go.RowKit Tryz Ord
attribute [local go_sem] Oper.semAt_some
def Dn:Tr:=.retr [(.agg [(U 14 0),(U 14 1),(U 14 2),(U 14 3),(U 14 4),(U 14 5)])] 7
def FG:Tr:=.need (.call 153 [(.agg [(U 2 0),(U 2 1),(U 2 2),(U 2 3),(U 2 4),(U 2 5)]),(.agg [(U 8 0),(U 8 1),(U 8 2),(U 8 3),(U 8 4),(U 8 5)]),(.agg [(U 13 0),(U 13 1),(U 13 2)])] [(some 6)]) (.call ⟨.value (.func 153),#[(.tmp 12),(.tmp 13),(.tmp 19)],#[81,39,30]⟩) 39 true Dn
def Fy:Tr:=.need (.call 66 [(.agg [(U 9 0),(U 9 1),(U 9 2)]),(.agg [(U 12 0),(U 12 1),(U 12 2)])] [(some 3)]) (.call ⟨.value (.func 66),#[(.tmp 14),(.tmp 18)],#[30,30]⟩) 30 true FG
def FD:Tr:=.need (.call 22 [(W 11 0)] [(some 3)]) (.call ⟨.value (.func 22),#[(.tmp 17)],#[2]⟩) 30 false Fy
def FO:Tr:=.need (.prim [(W 10 0),(WK (3))] none) (.binOp .add 3 (.tmp 16) (.const (I3 (3))) 3) 3 false FD
def Eb:Tr:=.need (.prim [(WK (2)),(W 1 0)] none) (.binOp .mul 3 (.const (I3 (2))) (.tmp 15) 3) 3 false FO
def EE:Tr:=.need (.call 69 [] [(some 3)]) (.call ⟨.value (.func 69),#[],#[]⟩) 30 false Eb
def Gr:Tr:=.need (.ldrow 7 (.k (.int .i64 (0))) 0 6 true) (.load 39 (.tmp 3)) 39 false EE
def Fg:Tr:=.need (.strow 4 6 (.k (.int .i64 (0))) 0 [(.u 6 0),(.u 6 1),(.u 6 2),(.u 6 3),(.u 6 4),(.u 6 5)]) (.store 39 (.tmp 3) (.tmp 11)) 0 false Gr
def EU:Tr:=.need (.call 150 [(.agg [(U 2 0),(U 2 1),(U 2 2),(U 2 3),(U 2 4),(U 2 5)]),(.agg [(U 5 0),(U 5 1),(U 5 2),(U 5 3),(U 5 4),(U 5 5)]),(.agg [(U 3 0),(U 3 1),(U 3 2),(U 3 3),(U 3 4),(U 3 5)])] [(some 6)]) (.call ⟨.value (.func 150),#[(.tmp 8),(.tmp 9),(.tmp 10)],#[81,39,39]⟩) 39 true Fg
def Eu:Tr:=.need (.ldrow 4 (.k (.int .i64 (0))) 0 6 true) (.load 39 (.tmp 3)) 39 false EU
theorem Kv:cC prog 21 (fun _=>none) (bC [] (bH f152)) [(0, .v (some 6)),(1, .v none),(2, .ref 6),(4, .ref 6)] 3 39 6 99 f152.results.toList=Eu:=by kernel_rfl
def lZ (up down:Rat) (s p:Rat×Rat):Rat×Rat:=mU up down (FF p s)
def ag9 (up down:Rat) (p:Rat×Rat) (i:Nat):Rat×Rat:=mU up down (kA p (aZ ((1:Int):Rat) (((2*(i:Int)+3:Int)):Rat)))
theorem Yh (up down:Rat) (p s o:Rat×Rat) (i:Nat) (hi:i≤10000) (A B U:Nat) (h1:Fit A p.1) (h2:Fit A p.2) (h3:Fit B s.1) (h4:Fit B s.2) (hu:Fit U up) (hd:Fit U down) (hA:1≤A) (hU:U≤10000) (hAB:A+B≤1000000:=by omega):vc prog (fun o=>o = .retr [dK (ag9 up down (lZ up down s p) i)] ([eB (lZ up down s p).1 (lZ up down s p).2])) (cC prog 21 (fun _=>none) (bC [] (bH f152)) [(0, .v (some 6)),(1, .v none),(2, .ref 6),(4, .ref 6)] 3 39 6 99 f152.results.toList) ([.v (dK o), .v (.one (.int .i64 (i:Int))), .ref (eB up down), .ref (eB s.1 s.2)].map In.env ++ [.rows ([eB p.1 p.2])]) []:=by
 rw [Kv];dsimp only [List.map,In.env,aF,aG];have h1f:Fit 1 ((1:Int):Rat):=Fit.int (by omega) (by omega);have hif:Fit 62 (((2*(i:Int)+3:Int)):Rat):=Fit.int (by omega) (by omega);have hm:=Jy h1 h2 h3 h4 hA;have ho:=MW (p:=FF p s) hm.1 hm.2 hu hd;refine Wg (ts:=[eB p.1 p.2]) (ik:=.i64) (n:=0) (t:=dK p) rfl rfl (by omega) rfl (.inl rfl) rfl ?_;dsimp only [aF,aG,Lp,List.drop,List.take];apply aA (mW up down p s A B U h1 h2 h3 h4 hu hd hA) rfl;refine kD (ts:=[eB p.1 p.2]) (us:=[eB (lZ up down s p).1 (lZ up down s p).2]) rfl rfl (by omega) (cells:=eB p.1 p.2) rfl rfl ?_;refine Wg (ts:=[eB (lZ up down s p).1 (lZ up down s p).2]) (ik:=.i64) (n:=0) (t:=dK (lZ up down s p)) rfl rfl (by omega) rfl (.inl rfl) rfl ?_;dsimp only [aF,aG,Lp,List.drop,List.take];apply aA bW rfl;apply vn (cU) rfl;apply vn (aH) rfl;apply aA (aY _) rfl;dsimp only [aF,aG];apply aA (bD _ _ 1 62 h1f hif) rfl;apply aA (Pa up down (lZ up down s p) _ (A+B+U+U) 63 U ho.1 ho.2 (eA h1f hif) hu hd) rfl;dsimp only [aF,aG];exact dB rfl rfl
def oP (up down:Rat) (s x:Rat×Rat):Nat→Rat×Rat
 | 0=>x
 | i+1=>lZ up down s (oP up down s x i)
def lX (up down:Rat) (s x:Rat×Rat):Nat→Rat×Rat
 | 0=>x
 | i+1=>ag9 up down (oP up down s x (i+1)) i
set_option maxRecDepth 100000 in
theorem Sl {M:Nat→Prop} {W:World} {up down:Rat} {s x:Rat×Rat} {i:Nat} {B:Nat} (hp:Fit B (oP up down s x i).1∧Fit B (oP up down s x i).2) (hs:Fit B s.1∧Fit B s.2) (hu:Fit B up) (hd:Fit B down)
  {u0 u1 u2 u3 u4 u5 p2 p4:Value} {pb:Nat} {cur:Array Value} (hM:Fine M W) (hpb:M pb) (hcu:W.heap[pb]? = some (.cells cur 39 (0,0))) (hcr:aM M W (eB (oP up down s x i).1 (oP up down s x i).2) cur.toList) (hus:aM M W (eB (lX up down s x i).1 (lX up down s x i).2) [u0,u1,u2,u3,u4,u5])
  (h2:(aL.bI (eB up down)).rep M W p2) (h4:(aL.bI (eB s.1 s.2)).rep M W p4) (hi:i≤10000:=by omega) (hB1:1≤B:=by omega) (hB:B≤10000:=by omega) :
  Calls prog 152 (#[.agg #[u0,u1,u2,u3,u4,u5], .int .i64 (i:Int)] ++ #[p2, .pointer (some ⟨pb,0,none⟩),p4]) W fun e W'=>W.grownBy W' (some pb)∧∃ u0 u1 u2 u3 u4 u5 cur',e = .returned (.agg #[u0,u1,u2,u3,u4,u5])∧aM M W' (eB (lX up down s x (i+1)).1 (lX up down s x (i+1)).2) [u0,u1,u2,u3,u4,u5]∧W'.heap[pb]? = some (.cells cur' 39 (0,0))∧aM M W' (eB (oP up down s x (i+1)).1 (oP up down s x (i+1)).2) cur'.toList:=by
 refine calls_of_wp func152 rfl ?_;simp only [ntmps152,List.size_toArray,List.length_cons,List.length_nil,Nat.reduceAdd,Nat.reduceSub,Array.replicate_succ,Array.replicate_zero,List.push_toArray,List.append_toArray,List.nil_append,List.cons_append]
 refine xA (N:=21) (t0:=3) (T:=39) (n:=6) (want:=99) (g:=pb) (cur:=cur) (ins:=[(0, .v (some 6)),(1, .v none),(2, .ref 6),(4, .ref 6)]) (xs:=[.v (dK (lX up down s x i)), .v (.one (.int .i64 (i:Int))), .ref (eB up down), .ref (eB s.1 s.2)]) Lx.wp fo ⟨rfl,rfl,rfl,rfl,trivial⟩
  (Yh up down (oP up down s x i) s (lX up down s x i) i hi B B B hp.1 hp.2 hs.1 hs.2 hu hd hB1 hB) (by kernel_rfl) hM hpb rfl rfl rfl ⟨⟨_,rfl,hus⟩,⟨rfl,rfl⟩,h2,h4,trivial⟩ rfl hcu hcr ?_
 intro e a' W' us cur' k1 k2 k3 hg hsz hdf hr hc' hrs hr';cases e with
 | normal=>have:=k1 rfl;omega
 | exit id=>have:=k2 id rfl;omega
 | ret=>
   match us,hrs with
   | [v],hrs=>
     obtain ⟨vs,rfl,hvs⟩:=hrs.1;obtain ⟨v0,v1,v2,v3,v4,v5,rfl⟩:=HC hvs;exact ⟨hdf,_,mS f152 a'.tmps _ hr,hg,v0,v1,v2,v3,v4,v5,cur',rfl,hvs,hc',hr'⟩
   | [],hrs=>exact hrs.elim
   | _::_::_,hrs=>exact hrs.2.elim
def Rz (up down:Rat) (x:Rat×Rat) (al:Bool):Rat×Rat:=if al then uB (lZ up down x x) else lZ up down x x
structure cR (up down:Rat) (x:Rat×Rat) (al:Bool) (N B:Nat):Prop where
 hp:∀ i,i≤N→Fit B (oP up down (Rz up down x al) x i).1∧Fit B (oP up down (Rz up down x al) x i).2
 ht:∀ i,i≤N→Fit B (lX up down (Rz up down x al) x i).1∧Fit B (lX up down (Rz up down x al) x i).2
 hs:Fit B (Rz up down x al).1∧Fit B (Rz up down x al).2
 hu:Fit B up∧Fit B down
 hgt:∀ i,i<N→down<(cS (lX up down (Rz up down x al) x i)).2
 hle:(cS (lX up down (Rz up down x al) x N)).2≤down
 hN:N≤1000
 hB:4≤B∧B≤10000
def nA (up down:Rat) (x:Rat×Rat) (al:Bool) (N:Nat):Rat×Rat:=nB (lX up down (Rz up down x al) x) N
theorem Oh (W:World) (u0 u1 u2 u3 u4 u5:Value):(nY W u0 u1 u2 u3 u4 u5).heap[W.heap.size]? = some (.cells #[u0,u1,u2,u3,u4,u5] 39 (0,0)):=setRow_heap _ _ _ _ _ _ (heap_alloc_new W _)
theorem kZ (W:World) (u0 u1 u2 u3 u4 u5:Value):Below W.heap.size W (nY W u0 u1 u2 u3 u4 u5):=below_setRow ((Below.refl _ W).alloc (cD _) _) _ (cD _)
theorem nQ (W:World) (u0 u1 u2 u3 u4 u5:Value):(nY W u0 u1 u2 u3 u4 u5).heap.size=W.heap.size+1:=by simp [nY,World.setRow]
theorem Uv {up down:Rat} {x s:Rat×Rat} {N B:Nat} (hp:∀ i,i≤N→Fit B (oP up down s x i).1∧Fit B (oP up down s x i).2) (ht:∀ i,i≤N→Fit B (lX up down s x i).1∧Fit B (lX up down s x i).2) (hs:Fit B s.1∧Fit B s.2) (hu:Fit B up∧Fit B down) (hgt:∀ i,i<N→down<(cS (lX up down s x i)).2) (hle:(cS (lX up down s x N)).2≤down) (hN:N≤1000) (hB:4≤B∧B≤10000)
  {M:Nat→Prop} {W:World} (hM:Fine M W) {n0 b7:Nat} (hn:¬ M n0) (hb:¬ M b7) {f0 f1 f2 f3 f4 f5 a0 a1 a2 a3 a4 a5 r0 r1 r2 r3 r4 r5:Value} (h3:W.heap[n0]? = some (.cells #[f0,f1,f2,f3,f4,f5] 81 (0,0))) (hfs:aM M W (eB up down) [f0,f1,f2,f3,f4,f5]) (h7:W.heap[b7]? = some (.cells #[r0,r1,r2,r3,r4,r5] 39 (0,0))) (hrs:aM M W (eB s.1 s.2) [r0,r1,r2,r3,r4,r5]) (has:aM M W (eB x.1 x.2) [a0,a1,a2,a3,a4,a5]) :
  CallsIn Fence.wide 1001 prog 151 #[.agg #[f0,f1,f2,f3,f4,f5], .agg #[a0,a1,a2,a3,a4,a5], .func (.func 152) #[] #[.pointer (some ⟨n0,0,none⟩), .pointer (some ⟨W.heap.size,0,none⟩), .pointer (some ⟨b7,0,none⟩)]] (nY W a0 a1 a2 a3 a4 a5) fun e W'=>Below W.heap.size W W'∧∃ u0 u1 u2 u3 u4 u5,e = .returned (.agg #[u0,u1,u2,u3,u4,u5])∧aM M W' (eB (nB (lX up down s x) N).1 (nB (lX up down s x) N).2) [u0,u1,u2,u3,u4,u5]:=by
 have hnew:=Oh W a0 a1 a2 a3 a4 a5;have hbel:=kZ W a0 a1 a2 a3 a4 a5;have hsz:=nQ W a0 a1 a2 a3 a4 a5;generalize nY W a0 a1 a2 a3 a4 a5=W5 at *;have hlow:=hM.1;have hnl:=(dS.1 h3).1;have hbl:=(dS.1 h7).1
 have k5:aR M W (fun b=>M b∨b=W.heap.size) W5:=fun b o hb ho _=>by
  have hlt:=(dS.1 ho).1;exact ⟨fun h=>h.elim hb (by omega),(hbel.block b hlt).trans ho⟩
 have hM5:Fine (fun b=>M b∨b=W.heap.size) W5:=⟨fun b hb=>hb.elim (fun h=>by have:=hlow b h;omega) (by omega),hM.2.cE k5⟩
 refine (WH (fun b=>M b∨b=W.heap.size) W5 hM5 (lX up down s x) N 152 #[.pointer (some ⟨n0,0,none⟩), .pointer (some ⟨W.heap.size,0,none⟩), .pointer (some ⟨b7,0,none⟩)] (fun i=>eB (oP up down s x i).1 (oP up down s x i).2) W.heap.size (.inr rfl) up down B (enters_of func152 (by kernel_rfl) rfl) ?_ ht hu.2 hgt hle (by omega) (by omega) (by omega) f0 f1 f2 f3 f4 f5 a0 a1 a2 a3 a4 a5 (hfs.mono k5) (has.mono k5) #[a0,a1,a2,a3,a4,a5] hnew (show aM _ W5 (eB x.1 x.2) [a0,a1,a2,a3,a4,a5] from has.mono k5)).mono ?_
 ·intro i hi M' W' u0 u1 u2 u3 u4 u5 cur hM' hpb hk hcu hcr hus;have p2:(aL.bI (eB up down)).rep (fun b=>M b∨b=W.heap.size) W5 (.pointer (some ⟨n0,0,none⟩)):=⟨n0,0,#[f0,f1,f2,f3,f4,f5],81,(0,0),rfl,fun h=>h.elim hn (by omega),(hbel.block _ hnl).trans h3,by simpa using hfs.mono k5⟩
  have p4:(aL.bI (eB s.1 s.2)).rep (fun b=>M b∨b=W.heap.size) W5 (.pointer (some ⟨b7,0,none⟩)):=⟨b7,0,#[r0,r1,r2,r3,r4,r5],39,(0,0),rfl,fun h=>h.elim hb (by omega),(hbel.block _ hbl).trans h7,by simpa using hrs.mono k5⟩
  exact Sl (hp i (by omega)) hs hu.1 hu.2 hM' hpb hcu hcr hus (aL.mono _ hk p2) (aL.mono _ hk p4)
 ·rintro e W6 ⟨hg,u0,u1,u2,u3,u4,u5,rfl,hus⟩;have hs6:=hg.size;exact ⟨⟨hg.os.trans hbel.os,hg.tape.trans hbel.tape,hg.output.trans hbel.output,by omega,fun j hj=>(hg.block j (by omega) fun e=>by have:=Option.some.inj e;omega).trans (hbel.block j hj)⟩,u0,u1,u2,u3,u4,u5,rfl,hus.mono fun b o hb ho _=>⟨fun h=>hb (.inl h),ho⟩⟩
set_option maxRecDepth 100000 in
set_option maxHeartbeats 1000000 in
theorem rD (up down:Rat) (x:Rat×Rat) (al:Bool) (N B:Nat) (K:cR up down x al N B):aD prog 106 [gF up down,dK x, .one (.exact (.bool al))] (.ret [dK (nA up down x al N)]):=by
 obtain ⟨hp,ht,hs,hu,hgt,hle,hN,hB⟩:=K;have hx:=hp 0 (fP _);have hx:Fit B x.1∧Fit B x.2:=hx;refine ⟨enters_of func106 (by kernel_rfl) rfl,fun M w vs hM hv=>?_⟩
 match vs,hv with
 | [],hv=>exact hv.elim
 | [_],hv=>exact hv.2.elim
 | [_,_],hv=>exact hv.2.2.elim
 | _::_::_::_::_,hv=>exact hv.2.2.2.elim
 | [w0,w1,w2],hv=>
 obtain ⟨⟨fv,rfl,hfs⟩,⟨av,rfl,has⟩,⟨rfl,_⟩,_⟩:=hv;obtain ⟨f0,f1,f2,f3,f4,f5,rfl⟩:=HC hfs;obtain ⟨a0,a1,a2,a3,a4,a5,rfl⟩:=HC has;have hfo:=hfs.one;have hao:=has.one;refine (callsIn_wide (n:=1002)).1 ?_;refine callsIn_of_wp func106 rfl trivial ?_ rfl;simp only [ntmps106,List.size_toArray,List.length_cons,List.length_nil,Nat.reduceAdd,Nat.reduceSub,Array.replicate_succ,Array.replicate_zero,List.push_toArray,List.append_toArray,List.nil_append,List.cons_append]
 gi_wp2
 obtain ⟨n0,hn0⟩:∃ n0,w.heap.size=n0:=⟨_,rfl⟩
 obtain ⟨W0,hW0⟩:∃ W0,(((w.alloc (.cells #[f0,f1,f2,f3,f4,f5] 81)).alloc (.cells #[a0,a1,a2,a3,a4,a5] 39)).alloc (.cells #[.slice none 0 0, .bool false, .slice none 0 0, .slice none 0 0, .bool false, .slice none 0 0] 39))=W0:=⟨_,rfl⟩
 have hs0:W0.heap.size=n0+3:=by rw [←hW0];simp [hn0]
 have hb0:Below n0 w W0:=by
  rw [←hW0];exact (((Below.refl _ w).alloc (by omega) _).alloc (by simp;omega) _).alloc (by simp;omega) _
 have h30:W0.heap[n0]? = some (.cells #[f0,f1,f2,f3,f4,f5] 81 (0,0)):=by rw [←hW0,heap_alloc_old _ _ _ (by simp;omega),heap_alloc_old _ _ _ (by simp;omega),←hn0];exact heap_alloc_new w _
 have h40:W0.heap[n0+1]? = some (.cells #[a0,a1,a2,a3,a4,a5] 39 (0,0)):=by
  rw [←hW0,heap_alloc_old _ _ _ (by simp;omega)];have:=heap_alloc_new (w.alloc (.cells #[f0,f1,f2,f3,f4,f5] 81)) (.cells #[a0,a1,a2,a3,a4,a5] 39);rw [World.size_alloc,hn0] at this;exact this
 have h60:W0.heap[n0+2]? = some (.cells #[.slice none 0 0, .bool false, .slice none 0 0, .slice none 0 0, .bool false, .slice none 0 0] 39 (0,0)):=by
  rw [←hW0];have:=heap_alloc_new ((w.alloc (.cells #[f0,f1,f2,f3,f4,f5] 81)).alloc (.cells #[a0,a1,a2,a3,a4,a5] 39)) (.cells #[.slice none 0 0, .bool false, .slice none 0 0, .slice none 0 0, .bool false, .slice none 0 0] 39);rw [World.size_alloc,World.size_alloc,hn0] at this;exact this
 have hlow:∀ b,M b→b<n0:=fun b hb=>by have:=hM.1 b hb;omega
 have k0:aR M w (fun b=>M b∨b=n0+2) W0:=fun b o hb ho _=>by
  have hlt:=(dS.1 ho).1;exact ⟨fun h=>h.elim hb (by omega),(hb0.block b (by omega)).trans ho⟩
 have hM0:Fine (fun b=>M b∨b=n0+2) W0:=⟨fun b hb=>hb.elim (fun h=>by have:=hlow b h;omega) (by omega),hM.2.cE k0⟩
 rw [hW0];simp only [hn0];have hf0:=hfs.mono k0;have ha0:=has.mono k0;refine ⟨trivial,?_⟩;refine (callsIn_wide.2 (gR (a:=(lZ up down x x).1) (b:=(lZ up down x x).2) (mW up down x x B B B hx.1 hx.2 hx.1 hx.2 hu.1 hu.2) hM0 (vs:=[.agg #[f0,f1,f2,f3,f4,f5], .agg #[a0,a1,a2,a3,a4,a5], .agg #[a0,a1,a2,a3,a4,a5]]) ⟨⟨_,rfl,hf0⟩,⟨_,rfl,ha0⟩,⟨_,rfl,ha0⟩,trivial⟩)).mono ?_;rintro e W1 ⟨hb1,q0,q1,q2,q3,q4,q5,rfl,hq⟩;have hqo:=hq.one
 gi_wp2
 rw [gK (heap_alloc_new W1 _) (hqo _ (by simp)) (hqo _ (by simp)) (hqo _ (by simp)) (hqo _ (by simp)) (hqo _ (by simp)) (hqo _ (by simp))];have h72:=Oh W1 q0 q1 q2 q3 q4 q5;have hb2:=kZ W1 q0 q1 q2 q3 q4 q5;have hs2:=nQ W1 q0 q1 q2 q3 q4 q5;obtain ⟨W2,hW2⟩:∃ W2,nY W1 q0 q1 q2 q3 q4 q5=W2:=⟨_,rfl⟩
 have hW2':(W1.alloc (.cells #[.slice none 0 0, .bool false, .slice none 0 0, .slice none 0 0, .bool false, .slice none 0 0] 39)).setRow W1.heap.size #[q0,q1,q2,q3,q4,q5]=W2:=hW2;rw [hW2'];rw [hW2] at h72 hb2 hs2;clear hW2 hW2';have hs1:=hb1.size
 have k2:aR (fun b=>M b∨b=n0+2) W1 (fun b=>(M b∨b=n0+2)∨b=W1.heap.size) W2:=fun b o hb ho _=>by
  have hlt:=(dS.1 ho).1;exact ⟨fun h=>h.elim hb (by omega),(hb2.block b hlt).trans ho⟩
 have hM2:Fine (fun b=>(M b∨b=n0+2)∨b=W1.heap.size) W2:=⟨fun b hb=>by rcases hb with (h | h) | h<;>first | omega | (have:=hlow b h;omega),((hM0.2.cE (aR.below hb1)).cE k2)⟩
 have d0:W2.cell? ⟨W1.heap.size,0,none⟩=some q0:=aB h72 rfl;have d1:W2.cell? ⟨W1.heap.size,1,none⟩=some q1:=aB h72 rfl;have d2:W2.cell? ⟨W1.heap.size,2,none⟩=some q2:=aB h72 rfl;have d3:W2.cell? ⟨W1.heap.size,3,none⟩=some q3:=aB h72 rfl;have d4:W2.cell? ⟨W1.heap.size,4,none⟩=some q4:=aB h72 rfl;have d5:W2.cell? ⟨W1.heap.size,5,none⟩=some q5:=aB h72 rfl;have hq2:=hq.mono k2
 have fin:∀ W4:World,Below W1.heap.size W1 W4→W1.heap.size<W4.heap.size→aR (fun b=>(M b∨b=n0+2)∨b=W1.heap.size) W2 (fun b=>(M b∨b=n0+2)∨b=W1.heap.size) W4→(∃ r0 r1 r2 r3 r4 r5,W4.heap[W1.heap.size]? = some (.cells #[r0,r1,r2,r3,r4,r5] 39 (0,0))∧aM (fun b=>(M b∨b=n0+2)∨b=W1.heap.size) W4 (eB (Rz up down x al).1 (Rz up down x al).2) [r0,r1,r2,r3,r4,r5]) →
   CallsIn Fence.wide 1001 prog 151 #[.agg #[f0,f1,f2,f3,f4,f5], .agg #[a0,a1,a2,a3,a4,a5], .func (.func 152) #[] #[.pointer (some ⟨n0,0,none⟩), .pointer (some ⟨W4.heap.size,0,none⟩), .pointer (some ⟨W1.heap.size,0,none⟩)]] (nY W4 a0 a1 a2 a3 a4 a5) fun e W'=>Below W4.heap.size W4 W'∧∃ u0 u1 u2 u3 u4 u5,e = .returned (.agg #[u0,u1,u2,u3,u4,u5])∧aM (fun b=>M b∨b=n0+2) W' (eB (nA up down x al N).1 (nA up down x al N).2) [u0,u1,u2,u3,u4,u5]:=by
  rintro W4 hb4 hs4 k4 ⟨r0,r1,r2,r3,r4,r5,h7,hr⟩;have k04:=(aR.below (M:=fun b=>M b∨b=n0+2) hb1).trans (aR.below (M:=fun b=>M b∨b=n0+2) (Below.trans hb4 (Below.refl _ _)));have hM4:Fine (fun b=>M b∨b=n0+2) W4:=⟨fun b hb=>by rcases hb with h | h<;>first | omega | (have:=hlow b h;omega),hM0.2.cE k04⟩
  refine Uv hp ht hs hu hgt hle hN hB hM4 (fun h=>h.elim (fun h=>by have:=hlow n0 h;omega) (by omega)) (fun h=>h.elim (fun h=>by have:=hlow _ h;omega) (by omega)) ((hb4.block n0 (by omega)).trans ((hb1.block n0 (by omega)).trans h30)) (hf0.mono k04) h7 (hr.mono fun b o hb ho _=>⟨fun h=>hb (.inl h),ho⟩) (ha0.mono k04)
 cases al
 ·obtain ⟨W4,hW4⟩:∃ W4,W2=W4:=⟨_,rfl⟩
  have hsum:=fin W2 hb2 (by omega) (aR.refl _ _) ⟨q0,q1,q2,q3,q4,q5,h72,hq2⟩;rw [hW4] at hsum;have hb4:Below W1.heap.size W1 W4:=hW4▸hb2;have hs4:W1.heap.size<W4.heap.size:=by rw [←hW4];omega
  rw [hW4];clear fin hq2 d0 d1 d2 d3 d4 d5 hM2 k2 h72 hs2 hb2;clear hW4;have h34:W4.heap[n0]? = some (.cells #[f0,f1,f2,f3,f4,f5] 81 (0,0)):=(hb4.block n0 (by omega)).trans ((hb1.block n0 (by omega)).trans h30);have h44:W4.heap[n0+1]? = some (.cells #[a0,a1,a2,a3,a4,a5] 39 (0,0)):=(hb4.block _ (by omega)).trans ((hb1.block _ (by omega)).trans h40);have h64:W4.heap[n0+2]? = some (.cells #[.slice none 0 0, .bool false, .slice none 0 0, .slice none 0 0, .bool false, .slice none 0 0] 39 (0,0)):=(hb4.block _ (by omega)).trans ((hb1.block _ (by omega)).trans h60);have e0:W4.cell? ⟨n0+1,0,none⟩=some a0:=aB h44 rfl;have e1:W4.cell? ⟨n0+1,1,none⟩=some a1:=aB h44 rfl;have e2:W4.cell? ⟨n0+1,2,none⟩=some a2:=aB h44 rfl;have e3:W4.cell? ⟨n0+1,3,none⟩=some a3:=aB h44 rfl;have e4:W4.cell? ⟨n0+1,4,none⟩=some a4:=aB h44 rfl;have e5:W4.cell? ⟨n0+1,5,none⟩=some a5:=aB h44 rfl
  gi_wp2
  rw [gK (heap_alloc_new W4 _) (hao _ (by simp)) (hao _ (by simp)) (hao _ (by simp)) (hao _ (by simp)) (hao _ (by simp)) (hao _ (by simp))];have hb5:=kZ W4 a0 a1 a2 a3 a4 a5;have hs5:=nQ W4 a0 a1 a2 a3 a4 a5;obtain ⟨W5,hW5⟩:∃ W5,nY W4 a0 a1 a2 a3 a4 a5=W5:=⟨_,rfl⟩
  have hW5':(W4.alloc (.cells #[.slice none 0 0, .bool false, .slice none 0 0, .slice none 0 0, .bool false, .slice none 0 0] 39)).setRow W4.heap.size #[a0,a1,a2,a3,a4,a5]=W5:=hW5;rw [hW5'];rw [hW5] at hb5 hs5 hsum;clear hW5 hW5';have h35:=(hb5.block n0 (by omega)).trans h34;have h45:=(hb5.block (n0+1) (by omega)).trans h44;have g0:W5.cell? ⟨n0,0,none⟩=some f0:=aB h35 rfl;have g1:W5.cell? ⟨n0,1,none⟩=some f1:=aB h35 rfl;have g2:W5.cell? ⟨n0,2,none⟩=some f2:=aB h35 rfl;have g3:W5.cell? ⟨n0,3,none⟩=some f3:=aB h35 rfl;have g4:W5.cell? ⟨n0,4,none⟩=some f4:=aB h35 rfl;have g5:W5.cell? ⟨n0,5,none⟩=some f5:=aB h35 rfl;have j0:W5.cell? ⟨n0+1,0,none⟩=some a0:=aB h45 rfl;have j1:W5.cell? ⟨n0+1,1,none⟩=some a1:=aB h45 rfl;have j2:W5.cell? ⟨n0+1,2,none⟩=some a2:=aB h45 rfl;have j3:W5.cell? ⟨n0+1,3,none⟩=some a3:=aB h45 rfl;have j4:W5.cell? ⟨n0+1,4,none⟩=some a4:=aB h45 rfl;have j5:W5.cell? ⟨n0+1,5,none⟩=some a5:=aB h45 rfl
  gi_wp2
  refine ⟨trivial,?_⟩;refine hsum.mono ?_;rintro e W6 ⟨hb6,u0,u1,u2,u3,u4,u5,rfl,hu6⟩;have huo:=hu6.one;have hs6:=hb6.size;have h66:=(hb6.block (n0+2) (by omega)).trans h64
  gi_wp2
  rw [gK h66 (huo _ (by simp)) (huo _ (by simp)) (huo _ (by simp)) (huo _ (by simp)) (huo _ (by simp)) (huo _ (by simp))];have hr7:=setRow_heap W6 (n0+2) _ #[u0,u1,u2,u3,u4,u5] 39 (0,0) h66;have hot:∀ j,j≠n0+2→(W6.setRow (n0+2) #[u0,u1,u2,u3,u4,u5]).heap[j]? = W6.heap[j]?:=fun j hj=>setRow_other W6 (n0+2) j _ hj;have hs7:(W6.setRow (n0+2) #[u0,u1,u2,u3,u4,u5]).heap.size=W6.heap.size:=by simp [World.setRow]
  have ho7:(W6.setRow (n0+2) #[u0,u1,u2,u3,u4,u5]).os=W6.os∧(W6.setRow (n0+2) #[u0,u1,u2,u3,u4,u5]).tape=W6.tape∧(W6.setRow (n0+2) #[u0,u1,u2,u3,u4,u5]).output=W6.output:=⟨rfl,rfl,rfl⟩
  generalize W6.setRow (n0+2) #[u0,u1,u2,u3,u4,u5]=W7 at *;have z0:W7.cell? ⟨n0+2,0,none⟩=some u0:=aB hr7 rfl;have z1:W7.cell? ⟨n0+2,1,none⟩=some u1:=aB hr7 rfl;have z2:W7.cell? ⟨n0+2,2,none⟩=some u2:=aB hr7 rfl;have z3:W7.cell? ⟨n0+2,3,none⟩=some u3:=aB hr7 rfl;have z4:W7.cell? ⟨n0+2,4,none⟩=some u4:=aB hr7 rfl;have z5:W7.cell? ⟨n0+2,5,none⟩=some u5:=aB hr7 rfl
  gi_wp2
  refine bodyPost_ret (v:=.agg #[u0,u1,u2,u3,u4,u5]) ?_ rfl ⟨⟨?_,?_,?_,by omega,fun j hj=>?_⟩,[.agg #[u0,u1,u2,u3,u4,u5]],rfl,⟨_,rfl,hu6.mono fun b x hb hx _=>⟨fun h=>hb (.inl h),(hot b fun e=>hb (.inr e)).trans hx⟩⟩,trivial⟩
  ·simp [results,show f106.results = #[.cell 6 39] from rfl,go_sem,z0,z1,z2,z3,z4,z5]
  ·exact ho7.1.trans (hb6.os.trans (hb4.os.trans (hb1.os.trans hb0.os)))
  ·exact ho7.2.1.trans (hb6.tape.trans (hb4.tape.trans (hb1.tape.trans hb0.tape)))
  ·exact ho7.2.2.trans (hb6.output.trans (hb4.output.trans (hb1.output.trans hb0.output)))
  ·exact (hot j (by omega)).trans ((hb6.block j (by omega)).trans ((hb4.block j (by omega)).trans ((hb1.block j (by omega)).trans (hb0.block j (by omega)))))
 ·gi_wp2
  refine ⟨trivial,?_⟩;refine (callsIn_wide.2 (gR (a:=(uB (lZ up down x x)).1) (b:=(uB (lZ up down x x)).2) (mB (lZ up down x x)) hM2 (vs:=[.agg #[q0,q1,q2,q3,q4,q5]]) ⟨⟨_,rfl,hq2⟩,trivial⟩)).mono ?_;rintro e W3 ⟨hb3,r0,r1,r2,r3,r4,r5,rfl,hr3⟩;have hro:=hr3.one;have hs3:=hb3.size;have h73:=(hb3.block W1.heap.size (by omega)).trans h72
  gi_wp2
  rw [gK h73 (hro _ (by simp)) (hro _ (by simp)) (hro _ (by simp)) (hro _ (by simp)) (hro _ (by simp)) (hro _ (by simp))];have h74:=setRow_heap W3 W1.heap.size _ #[r0,r1,r2,r3,r4,r5] 39 (0,0) h73;have hb4:Below W1.heap.size W1 (W3.setRow W1.heap.size #[r0,r1,r2,r3,r4,r5]):=below_setRow (hb2.trans (hb3.mono (by omega))) _ (cD _);have hs4:W1.heap.size<(W3.setRow W1.heap.size #[r0,r1,r2,r3,r4,r5]).heap.size:=by simp [World.setRow];omega
  have k34:aR (fun b=>(M b∨b=n0+2)∨b=W1.heap.size) W3 (fun b=>(M b∨b=n0+2)∨b=W1.heap.size) (W3.setRow W1.heap.size #[r0,r1,r2,r3,r4,r5]):=fun b x hb hx _=>⟨hb,(setRow_other W3 W1.heap.size b _ fun e=>hb (.inr e)).trans hx⟩
  generalize W3.setRow W1.heap.size #[r0,r1,r2,r3,r4,r5]=W4 at *;have hsum:=fin W4 hb4 hs4 ((aR.below hb3).trans k34) ⟨r0,r1,r2,r3,r4,r5,h74,hr3.mono k34⟩;clear fin;have h34:W4.heap[n0]? = some (.cells #[f0,f1,f2,f3,f4,f5] 81 (0,0)):=(hb4.block n0 (by omega)).trans ((hb1.block n0 (by omega)).trans h30);have h44:W4.heap[n0+1]? = some (.cells #[a0,a1,a2,a3,a4,a5] 39 (0,0)):=(hb4.block _ (by omega)).trans ((hb1.block _ (by omega)).trans h40);have h64:W4.heap[n0+2]? = some (.cells #[.slice none 0 0, .bool false, .slice none 0 0, .slice none 0 0, .bool false, .slice none 0 0] 39 (0,0)):=(hb4.block _ (by omega)).trans ((hb1.block _ (by omega)).trans h60);have e0:W4.cell? ⟨n0+1,0,none⟩=some a0:=aB h44 rfl;have e1:W4.cell? ⟨n0+1,1,none⟩=some a1:=aB h44 rfl;have e2:W4.cell? ⟨n0+1,2,none⟩=some a2:=aB h44 rfl;have e3:W4.cell? ⟨n0+1,3,none⟩=some a3:=aB h44 rfl;have e4:W4.cell? ⟨n0+1,4,none⟩=some a4:=aB h44 rfl;have e5:W4.cell? ⟨n0+1,5,none⟩=some a5:=aB h44 rfl
  gi_wp2
  rw [gK (heap_alloc_new W4 _) (hao _ (by simp)) (hao _ (by simp)) (hao _ (by simp)) (hao _ (by simp)) (hao _ (by simp)) (hao _ (by simp))];have hb5:=kZ W4 a0 a1 a2 a3 a4 a5;have hs5:=nQ W4 a0 a1 a2 a3 a4 a5;obtain ⟨W5,hW5⟩:∃ W5,nY W4 a0 a1 a2 a3 a4 a5=W5:=⟨_,rfl⟩
  have hW5':(W4.alloc (.cells #[.slice none 0 0, .bool false, .slice none 0 0, .slice none 0 0, .bool false, .slice none 0 0] 39)).setRow W4.heap.size #[a0,a1,a2,a3,a4,a5]=W5:=hW5;rw [hW5'];rw [hW5] at hb5 hs5 hsum;clear hW5 hW5';have h35:=(hb5.block n0 (by omega)).trans h34;have h45:=(hb5.block (n0+1) (by omega)).trans h44;have g0:W5.cell? ⟨n0,0,none⟩=some f0:=aB h35 rfl;have g1:W5.cell? ⟨n0,1,none⟩=some f1:=aB h35 rfl;have g2:W5.cell? ⟨n0,2,none⟩=some f2:=aB h35 rfl;have g3:W5.cell? ⟨n0,3,none⟩=some f3:=aB h35 rfl;have g4:W5.cell? ⟨n0,4,none⟩=some f4:=aB h35 rfl;have g5:W5.cell? ⟨n0,5,none⟩=some f5:=aB h35 rfl;have j0:W5.cell? ⟨n0+1,0,none⟩=some a0:=aB h45 rfl;have j1:W5.cell? ⟨n0+1,1,none⟩=some a1:=aB h45 rfl;have j2:W5.cell? ⟨n0+1,2,none⟩=some a2:=aB h45 rfl;have j3:W5.cell? ⟨n0+1,3,none⟩=some a3:=aB h45 rfl;have j4:W5.cell? ⟨n0+1,4,none⟩=some a4:=aB h45 rfl;have j5:W5.cell? ⟨n0+1,5,none⟩=some a5:=aB h45 rfl
  gi_wp2
  refine ⟨trivial,?_⟩;refine hsum.mono ?_;rintro e W6 ⟨hb6,u0,u1,u2,u3,u4,u5,rfl,hu6⟩;have huo:=hu6.one;have hs6:=hb6.size;have h66:=(hb6.block (n0+2) (by omega)).trans h64
  gi_wp2
  rw [gK h66 (huo _ (by simp)) (huo _ (by simp)) (huo _ (by simp)) (huo _ (by simp)) (huo _ (by simp)) (huo _ (by simp))];have hr7:=setRow_heap W6 (n0+2) _ #[u0,u1,u2,u3,u4,u5] 39 (0,0) h66;have hot:∀ j,j≠n0+2→(W6.setRow (n0+2) #[u0,u1,u2,u3,u4,u5]).heap[j]? = W6.heap[j]?:=fun j hj=>setRow_other W6 (n0+2) j _ hj;have hs7:(W6.setRow (n0+2) #[u0,u1,u2,u3,u4,u5]).heap.size=W6.heap.size:=by simp [World.setRow]
  have ho7:(W6.setRow (n0+2) #[u0,u1,u2,u3,u4,u5]).os=W6.os∧(W6.setRow (n0+2) #[u0,u1,u2,u3,u4,u5]).tape=W6.tape∧(W6.setRow (n0+2) #[u0,u1,u2,u3,u4,u5]).output=W6.output:=⟨rfl,rfl,rfl⟩
  generalize W6.setRow (n0+2) #[u0,u1,u2,u3,u4,u5]=W7 at *;have z0:W7.cell? ⟨n0+2,0,none⟩=some u0:=aB hr7 rfl;have z1:W7.cell? ⟨n0+2,1,none⟩=some u1:=aB hr7 rfl;have z2:W7.cell? ⟨n0+2,2,none⟩=some u2:=aB hr7 rfl;have z3:W7.cell? ⟨n0+2,3,none⟩=some u3:=aB hr7 rfl;have z4:W7.cell? ⟨n0+2,4,none⟩=some u4:=aB hr7 rfl;have z5:W7.cell? ⟨n0+2,5,none⟩=some u5:=aB hr7 rfl
  gi_wp2
  refine bodyPost_ret (v:=.agg #[u0,u1,u2,u3,u4,u5]) ?_ rfl ⟨⟨?_,?_,?_,by omega,fun j hj=>?_⟩,[.agg #[u0,u1,u2,u3,u4,u5]],rfl,⟨_,rfl,hu6.mono fun b x hb hx _=>⟨fun h=>hb (.inl h),(hot b fun e=>hb (.inr e)).trans hx⟩⟩,trivial⟩
  ·simp [results,show f106.results = #[.cell 6 39] from rfl,go_sem,z0,z1,z2,z3,z4,z5]
  ·exact ho7.1.trans (hb6.os.trans (hb4.os.trans (hb1.os.trans hb0.os)))
  ·exact ho7.2.1.trans (hb6.tape.trans (hb4.tape.trans (hb1.tape.trans hb0.tape)))
  ·exact ho7.2.2.trans (hb6.output.trans (hb4.output.trans (hb1.output.trans hb0.output)))
  ·exact (hot j (by omega)).trans ((hb6.block j (by omega)).trans ((hb4.block j (by omega)).trans ((hb1.block j (by omega)).trans (hb0.block j (by omega)))))
end Go.Sy
namespace Go.Sy
open Go Go.Proofs Tryz Ord
def WA:Tr:=.need (.call 22 [(WK 16)] [(some 3)]) (.call ⟨.value (.func 22),#[(.const (I3 16))],#[2]⟩) 30 false (aI 108 [(G6 3),(G3 7)] [(some 6)] [14,15] [39,30] 39 false (.need (.call 22 [(WK 4)] [(some 3)]) (.call ⟨.value (.func 22),#[(.const (I3 4))],#[2]⟩) 30 false (aI 108 [(G6 6),(G3 9)] [(some 6)] [17,18] [39,30] 39 false (aI 109 [(G6 8),(G6 10)] [(some 6)] [16,19] [39,39] 39 true (aI 107 [(G6 0),(G6 11)] [(some 6)] [13,20] [81,39] 39 true (.ret [(G6 12)]))))))
def ZH:Tr:=.need (.call 67 [(WK 1),(WK 5)] [(some 3)]) (.call ⟨.value (.func 67),#[(.const (I3 1)),(.const (I3 5))],#[2,2]⟩) 30 false (aI 92 [(G3 1)] [(some 6)] [6] [30] 39 false (.need (.call 106 [(G6 0),(G6 2),(tF true)] [(some 6)]) (.call ⟨.value (.func 106),#[(tT 5),(tT 7),(.const (.bool true))],#[81,39,4]⟩) 39 false (.need (.call 67 [(WK 1),(WK 239)] [(some 3)]) (.call ⟨.value (.func 67),#[(.const (I3 1)),(.const (I3 239))],#[2,2]⟩) 30 false (aI 92 [(G3 4)] [(some 6)] [10] [30] 39 false (.need (.call 106 [(G6 0),(G6 5),(tF true)] [(some 6)]) (.call ⟨.value (.func 106),#[(tT 9),(tT 11),(.const (.bool true))],#[81,39,4]⟩) 39 true WA)))))
theorem af5:aN prog f40 (fun _=>none) [.v (some 6)]=ZH:=by kernel_rfl
def WD:Tr:=.need (.call 39 [(.one (.dZ 40 []))] [none]) (.call ⟨.value (.func 39),#[(.func 40)],#[90]⟩) 88 false (aI 38 [(W 1 0),(W 0 0)] [(some 6)] [3,4] [88,3] 39 true (.ret [(G6 2)]))
theorem am0:aN prog f9 (fun _=>none) [.v none]=WD:=by kernel_rfl
def GL:Rat:=aZ ((1:Int):Rat) ((5:Int):Rat)
def f239:Rat:=aZ ((1:Int):Rat) ((239:Int):Rat)
def VY (up down:Rat) (Na Nb:Nat):Rat×Rat:=mU up down (Bc (kA (nA up down (GL,GL) true Na) ((16:Int):Rat)) (kA (nA up down (f239,f239) true Nb) ((4:Int):Rat)))
theorem cR.fit {up down:Rat} {x:Rat×Rat} {al:Bool} {N B:Nat} (K:cR up down x al N B):Fit (1+(N+1)*(B+2+1)) (nA up down x al N).1∧Fit (1+(N+1)*(B+2+1)) (nA up down x al N).2:=sW K.ht K.hB.1
theorem MR (up down:Rat) (Na Nb B:Nat) (Ka:cR up down (GL,GL) true Na B) (Kb:cR up down (f239,f239) true Nb B):aD prog 40 [(gF up down:aE)] (.ret [dK (VY up down Na Nb)]):=by
 refine bU func40 af5 ?_;have fa:=Ka.fit;have fb:=Kb.fit;obtain ⟨A0,hA0⟩:∃ A,A=1+(Na+1)*(B+2+1):=⟨_,rfl⟩
 obtain ⟨A1,hA1⟩:∃ A,A=1+(Nb+1)*(B+2+1):=⟨_,rfl⟩
 have b0:(Na+1)*(B+2+1)≤1001*10003:=Nat.mul_le_mul (by have:=Ka.hN;omega) (by have:=Ka.hB;omega);have b1:(Nb+1)*(B+2+1)≤1001*10003:=Nat.mul_le_mul (by have:=Kb.hN;omega) (by have:=Ka.hB;omega);have hB:=Ka.hB;have hu:=Ka.hu;rw [←hA0] at fa;rw [←hA1] at fb;have h16:Fit 6 ((16:Int):Rat):=Fit.int (by omega) (by omega);have h4:Fit 6 ((4:Int):Rat):=Fit.int (by omega) (by omega);have sa:=jA fa.1 fa.2 h16;have sb:=jA fb.1 fb.2 h4;apply aA (lQ 1 5) rfl;apply aA (sJ _) rfl;apply aA (rD up down (GL,GL) true Na B Ka) rfl;apply aA (lQ 1 239) rfl;dsimp only [aF,aG];apply aA (sJ _) rfl;apply aA (rD up down (f239,f239) true Nb B Kb) rfl;apply aA (aY 16) rfl;apply aA (eN _ _ A0 6 fa.1 fa.2 h16) rfl;dsimp only [aF,aG];apply aA (aY 4) rfl;apply aA (eN _ _ A1 6 fb.1 fb.2 h4) rfl;apply aA (QD _ _ (A0+6) (A1+6) sa.1 sa.2 sb.1 sb.2) rfl;dsimp only [aF,aG];have hs1:Fit (A0+A1+50) (Bc (kA (nA up down (GL,GL) true Na) ((16:Int):Rat)) (kA (nA up down (f239,f239) true Nb) ((4:Int):Rat))).1:=by rw [Bc];exact ((sa.1.add sb.2.neg)).mono (by omega)
 have hs2:Fit (A0+A1+50) (Bc (kA (nA up down (GL,GL) true Na) ((16:Int):Rat)) (kA (nA up down (f239,f239) true Nb) ((4:Int):Rat))).2:=by rw [Bc];exact ((sa.2.add sb.1.neg)).mono (by omega)
 apply aA (oX up down _ (A0+A1+50) B hs1 hs2 hu.1 hu.2) rfl;exact aK rfl
def jY:Nat→Nat
 | 0=>6
 | 1=>13
 | _=>26
def kB:Nat→Nat
 | 0=>2
 | 1=>4
 | _=>8
def JM (i:Nat):Rat×Rat:=VY (aP (32*2^i)) (bZ (32*2^i)) (jY i) (kB i)
theorem Hi:cR (aP 32) (bZ 32) (GL,GL) true 6 300:=⟨by decide +kernel,by decide +kernel,by decide +kernel,by decide +kernel,by decide +kernel,by decide +kernel,by omega,by omega⟩
theorem Rs:cR (aP 64) (bZ 64) (GL,GL) true 13 300:=⟨by decide +kernel,by decide +kernel,by decide +kernel,by decide +kernel,by decide +kernel,by decide +kernel,by omega,by omega⟩
theorem QK:cR (aP 128) (bZ 128) (GL,GL) true 26 300:=⟨by decide +kernel,by decide +kernel,by decide +kernel,by decide +kernel,by decide +kernel,by decide +kernel,by omega,by omega⟩
theorem nN:cR (aP 32) (bZ 32) (f239,f239) true 2 300:=⟨by decide +kernel,by decide +kernel,by decide +kernel,by decide +kernel,by decide +kernel,by decide +kernel,by omega,by omega⟩
theorem HE:cR (aP 64) (bZ 64) (f239,f239) true 4 300:=⟨by decide +kernel,by decide +kernel,by decide +kernel,by decide +kernel,by decide +kernel,by decide +kernel,by omega,by omega⟩
theorem Im:cR (aP 128) (bZ 128) (f239,f239) true 8 300:=⟨by decide +kernel,by decide +kernel,by decide +kernel,by decide +kernel,by decide +kernel,by decide +kernel,by omega,by omega⟩
theorem VV (i:Nat) (hi:i≤2:=by omega):aD prog 40 ([gF (aP (32*2^i)) (bZ (32*2^i))]++([]:List aL).map .one) (.ret [dK (JM i)]):=by
 match i,hi with
 | 0,_=>exact MR _ _ 6 2 300 Hi nN
 | 1,_=>exact MR _ _ 13 4 300 Rs HE
 | 2,_=>exact MR _ _ 26 8 300 QK Im
theorem LG (i:Nat) (hi:i≤2:=by omega):Fit 4000 (JM i).1∧Fit 4000 (JM i).2:=by
 match i,hi with
 | 0,_=>decide +kernel
 | 1,_=>decide +kernel
 | 2,_=>decide +kernel
def Yq (k:Nat):Nat:=if k<25 then 0 else if k<56 then 1 else 2
def wid (V:Nat→Rat×Rat) (k i:Nat):Rat:=EA (V i).2 k-fK (V i).1 k
theorem ai2:∀ k,k<61→∀ i,i<Yq k→mkRat 1 (2^k)<wid JM k i:=by decide +kernel
theorem ak6:∀ k,k<61→wid JM k (Yq k)≤mkRat 1 (2^k):=by decide +kernel
theorem aj7 (k:Int) (hk:k≤60:=by omega):aD prog 9 [(.one (.int .i64 k):aE)] (.ret [dK (rC JM k (Yq k.toNat))]):=by
 refine bU func9 am0 ?_;have hR:Yq k.toNat≤2:=by unfold Yq;split<;>(try split)<;>omega
 apply aA (qO 40 []) rfl;apply aA (kO 40 [] JM (Yq k.toNat) (by omega) (fun i hi=>VV i) k (by omega) (fun i hi=>LG i) (ai2 k.toNat (by omega)) (ak6 k.toNat (by omega))) rfl;exact aK rfl
open Go Go.Proofs Go.RowKit Tryz Ord
attribute [local go_sem] Oper.semAt_some
def EH:Tr:=.retr [] 13
def EL:Tr:=.need (.strow 2 1 (.k (.int .i64 (0))) 0 [(.u 11 0)]) (.store 2 (.tmp 3) (.tmp 30)) 0 false EH
def Jm:Tr:=.need (.call 127 [(.agg [(U 6 0),(U 6 1),(U 6 2)])] [none,none]) (.call ⟨.value (.func 127),#[(.tmp 28)],#[30]⟩) 155 false EL
def Gi:Tr:=.fail 1034
def Ii:Tr:=.split (.u 10 0) Jm Gi
def Jp:Tr:=.need (.prim [(W 9 0),(WK (0))] none) (.binOp .eql 3 (.tmp 25) (.const (I3 (0))) 3) 4 false Ii
def IC:Tr:=.need (.call 68 [(.agg [(U 6 0),(U 6 1),(U 6 2)]),(.agg [(U 8 0),(U 8 1),(U 8 2)])] [none]) (.call ⟨.value (.func 68),#[(.tmp 23),(.tmp 24)],#[30,30]⟩) 3 true Jp
def Ik:Tr:=.need (.call 99 [(.agg [(U 7 0),(U 7 1),(U 7 2)])] [(some 3)]) (.call ⟨.value (.func 99),#[(.tmp 21)],#[30]⟩) 30 true IC
def HZ:Tr:=.need (.call 66 [(.agg [(U 0 0),(U 0 1),(U 0 2)]),(.agg [(U 4 3),(U 4 4),(U 4 5)])] [(some 3)]) (.call ⟨.value (.func 66),#[(.tmp 18),(.tmp 20)],#[30,30]⟩) 30 false Ik
def Ju:Tr:=.need (.call 99 [(.agg [(U 5 0),(U 5 1),(U 5 2)])] [(some 3)]) (.call ⟨.value (.func 99),#[(.tmp 16)],#[30]⟩) 30 false HZ
def IX:Tr:=.need (.call 66 [(.agg [(U 0 0),(U 0 1),(U 0 2)]),(.agg [(U 4 0),(U 4 1),(U 4 2)])] [(some 3)]) (.call ⟨.value (.func 66),#[(.tmp 13),(.tmp 15)],#[30,30]⟩) 30 false Ju
def Jq:Tr:=.need (.call 108 [(.agg [(U 1 0),(U 1 1),(U 1 2),(U 1 3),(U 1 4),(U 1 5)]),(.agg [(U 3 0),(U 3 1),(U 3 2)])] [(some 6)]) (.call ⟨.value (.func 108),#[(.tmp 10),(.tmp 11)],#[39,30]⟩) 39 true IX
def Ig:Tr:=.need (.call 101 [(WK (1))] [(some 3)]) (.call ⟨.value (.func 101),#[(.const (I3 (1)))],#[3]⟩) 30 true Jq
theorem Mb:cC prog 33 (fun _=>none) (bC [1,1,0,1,0,1] (bH f84)) [(1, .ref 3),(4, .ref 6)] 3 2 1 1 ([].map ResultVar.tmp)=Ig:=by kernel_rfl
theorem So {α:Type} {c:List α} (h:c.length=1):∃ a0,c = [a0]:=by
 match c,h with
 | [a0],_=>exact ⟨a0,rfl⟩
abbrev rY (p:Rat×Rat):Rat×Rat:=kA p (mkRat 1 (2^1))
theorem aj1 (x:Rat) (p:Rat×Rat) (z:Int) (c:List aL) (hc:c.length=1) (hx:Fit 300 x) (h1:Fit 4000 p.1) (h2:Fit 4000 p.2) (hI:aD prog 127 [qT (z:Rat)] (.ret [.one (.int .i64 z), .one (.bool true)])) (e1:gT (aZ x (rY p).1)=z) (e2:gT (aZ x (rY p).2)=z):vc prog (fun o=>o = .retr [] ([[.int .i64 z]])) (cC prog 33 (fun _=>none) (bC [1,1,0,1,0,1] (bH f84)) [(1, .ref 3),(4, .ref 6)] 3 2 1 1 ([].map ResultVar.tmp)) ([.ref (qC x), .ref (eB p.1 p.2)].map In.env ++ [.rows ([c])]) []:=by
 rw [Mb];dsimp only [List.map,In.env,aF,aG];obtain ⟨a0,rfl⟩:=So hc;have hm:Fit 3 (mkRat 1 (2^1)):=by decide +kernel
 have hs:=jA h1 h2 hm;have q1:=eA hx hs.1;have q2:=eA hx hs.2;have f1:=gS q1;rw [e1] at f1;apply aA (eS 1) rfl;apply aA (eN p (mkRat 1 (2^1)) 4000 3 h1 h2 hm) rfl;apply aA (bD x _ 300 4003 hx hs.1) rfl;apply aA (fB _ (300+4003) q1) rfl;rw [show gT (aZ x (kA p (mkRat 1 (2^1))).1)=z from e1];dsimp only [aF,aG];apply aA (bD x _ 300 4003 hx hs.2) rfl;apply aA (fB _ (300+4003) q2) rfl;rw [show gT (aZ x (kA p (mkRat 1 (2^1))).2)=z from e2];apply aA (bE (z:Rat) (z:Rat) (300+4003) (300+4003) f1 f1) rfl;apply vn aC rfl;dsimp only [aF,aG];refine aQ true (congrArg aL.bool (decide_eq_true (nG.2 rfl))) (fun _=>?_) (fun h=>by cases h);apply aA hI rfl;refine kD (ts:=[[a0]]) (us:=[[.int .i64 z]]) rfl rfl (by omega) (cells:=[a0]) rfl rfl ?_;dsimp only [aF,aG];exact dB rfl rfl
set_option maxRecDepth 100000 in
set_option maxHeartbeats 1000000 in
theorem Di (x:Rat) (z:Int) (hx:Fit 300 x) (hI:aD prog 127 [qT (z:Rat)] (.ret [.one (.int .i64 z), .one (.bool true)])) (e1:gT (aZ x (rY (JM 0)).1)=z) (e2:gT (aZ x (rY (JM 0)).2)=z) :
  aD prog 84 [qT x] (.ret [.one (.int .i64 z)]):=by
 refine ⟨enters_of func84 (by kernel_rfl) rfl,fun M w vs hM hv=>?_⟩;obtain ⟨v0,v1,v2,hpk,hx3⟩:=My hv
 match vs,hv with
 | [],hv=>exact hv.elim
 | _::_::_,hv=>exact hv.2.elim
 | [a0],hv=>
 obtain rfl:a0 = .agg #[v0,v1,v2]:=hpk;have hone:=hx3.one;refine (callsIn_wide (n:=1001)).1 ?_;refine callsIn_of_wp_marks func84 rfl trivial ?_ rfl;simp only [ntmps84,List.size_toArray,List.length_cons,List.length_nil,Nat.reduceAdd,Nat.reduceSub,Array.replicate_succ,Array.replicate_zero,List.push_toArray,List.append_toArray,List.nil_append,List.cons_append]
 gi_wp2
 obtain ⟨n0,hn0⟩:∃ n0,w.heap.size=n0:=⟨_,rfl⟩
 obtain ⟨W0,hW0⟩:∃ W0,((w.alloc (.cells #[v0,v1,v2] 30)).alloc (.cells #[.int .i64 0] 2))=W0:=⟨_,rfl⟩
 have hs0:W0.heap.size=n0+2:=by rw [←hW0];simp [hn0]
 have hb0:Below n0 w W0:=by
  rw [←hW0];exact ((Below.refl _ w).alloc (by omega) _).alloc (by simp;omega) _
 have hx0:W0.heap[n0]? = some (.cells #[v0,v1,v2] 30 (0,0)):=by rw [←hW0,heap_alloc_old _ _ _ (by simp;omega),←hn0];exact heap_alloc_new w _
 have ho0:W0.heap[n0+1]? = some (.cells #[.int .i64 0] 2 (0,0)):=by
  rw [←hW0];have:=heap_alloc_new (w.alloc (.cells #[v0,v1,v2] 30)) (.cells #[.int .i64 0] 2);rw [World.size_alloc,hn0] at this;exact this
 rw [hW0];have hlow:∀ b,M b→b<n0:=fun b hb=>by have:=hM.1 b hb;omega
 have hk1:aR M w (fun b=>M b∨b=n0+1) W0:=fun b o hb ho _=>by
  have hlt:=(dS.1 ho).1;exact ⟨fun h=>h.elim hb (by omega),(hb0.block b (by omega)).trans ho⟩
 have hM0:Fine (fun b=>M b∨b=n0+1) W0:=⟨fun b hb=>hb.elim (fun h=>by have:=hlow b h;omega) (by omega),hM.2.cE hk1⟩
 simp only [hn0];refine ⟨trivial,?_⟩;refine (callsIn_wide.2 ((qO 40 []).2 (fun b=>M b∨b=n0+1) W0 [.func (.func 40) #[] #[]] hM0 ⟨⟨[],rfl,trivial⟩,trivial⟩)).mono ?_;rintro e W1 ⟨hb1,us,rfl,hus⟩
 match us,hus with
 | [],hus=>exact hus.elim
 | _::_::_,hus=>exact hus.2.elim
 | [it],hus=>
 obtain ⟨⟨cvs,rfl,hcv⟩,_⟩:=hus
 match cvs,hcv with
 | [],hcv=>exact hcv.elim
 | _::_::_,hcv=>exact hcv.2.elim
 | [vp],hcv=>
 have hvp:(aL.bI [.dZ 40 []]).rep (fun b=>M b∨b=n0+1) W1 vp:=hcv.1;have hs1:=hb1.size;have hM1:Fine (fun b=>M b∨b=n0+1) W1:=⟨fun b hb=>by have:=hM0.1 b hb;omega,hM0.2.cE (aR.below hb1)⟩
 have hx1:=(hb1.block n0 (by omega)).trans hx0;have ho1:=(hb1.block (n0+1) (by omega)).trans ho0;have hxr:=(hx3.mono hk1).mono (aR.below hb1);dsimp only
 gi_wp2
 refine iJ (fun b=>M b∨b=n0+1) 40 [] JM 0 (by omega) (fun i hi=>VV i) (o:=n0+1) (T:=2) (p:=9) (d:=4) (id:=0) (cs:=fun i=>if i=0 then [.exact (.int .i64 0)] else [.int .i64 z]) hM1 hvp rfl (.inr rfl) ho1 ?_ ?_ ?_ ?_
 ·exact ⟨⟨rfl,rfl⟩,trivial⟩
 ·intro l u0 u1 u2 u3 u4 u5 W K hone hK
  gi_wp2
  rw [gK (heap_alloc_new W _) (hone _ (by simp)) (hone _ (by simp)) (hone _ (by simp)) (hone _ (by simp)) (hone _ (by simp)) (hone _ (by simp))]
  gi_wp2
  exact hK
 ·intro i hi l W cur b x' Q hq hMW hkp hcu hcr hp hQ;obtain rfl:i=0:=by omega
  have hxv:(aL.bI (qC x)).rep (fun b=>M b∨b=n0+1) W (.pointer (some ⟨n0,0,none⟩)):=⟨n0,0,#[v0,v1,v2],30,(0,0),rfl,fun h=>h.elim (fun h=>absurd (hlow _ h) (by omega)) (by omega),(hkp _ _ (fun h=>h.elim (fun h=>absurd (hlow _ h) (by omega)) (by omega)) hx1 rfl).2,by simpa using hxr.mono hkp⟩
  have hlen:cur.size=1:=by have:=hcr.length;simp only [Array.length_toList] at this;rw [←this];rfl
  refine fJ (N:=33) (t0:=3) (T:=2) (n:=1) (want:=1) (g:=n0+1) (cur:=cur) (ins:=[(1, .ref 3),(4, .ref 6)]) (xs:=[.ref (qC x), .ref (eB (JM 0).1 (JM 0).2)]) fo ⟨rfl,rfl,trivial⟩
   (aj1 x (JM 0) z _ (by rfl) hx (LG 0).1 (LG 0).2 hI e1 e2) (by kernel_rfl) (by kernel_rfl) hq hMW (.inr rfl) rfl rfl (by rfl) (by omega) ⟨hxv,hp,trivial⟩ rfl hcu hcr ?_
  intro a' W' us cur' hg _ _ _ hc' _ hr';rw [if_neg (by omega)] at hQ;exact hQ a' W' cur' hg hc' hr'
 ·intro W cur hos htape hout hsz hblk hD hcu hcr;rw [if_neg (by omega)] at hcr
  obtain ⟨u,rfl⟩:∃ u,cur = #[u]:=by
   have hl:=hcr.length
   match h:cur.toList,hl with
   | [u],_=>exact ⟨u,by rw [←Array.toArray_toList (xs:=cur),h]⟩
  obtain ⟨rfl,_⟩:u = .int .i64 z∧_:=hcr.1;have c0:W.cell? ⟨n0+1,0,none⟩=some (.int .i64 z):=aB hcu rfl
  gi_wp2
  refine ⟨by simp, .inl ⟨_,_,rfl,run_takeDeferred hD,?_⟩⟩;have hot5:∀ j,j≠W1.heap.size→(W.putObj W1.heap.size (.deferred none)).heap[j]? = W.heap[j]?:=fun j hj=>World.putObj_heap_other hj;have hs5:(W.putObj W1.heap.size (.deferred none)).heap.size=W.heap.size:=World.putObj_size;have ho5:(W.putObj W1.heap.size (.deferred none)).os=W.os∧(W.putObj W1.heap.size (.deferred none)).tape=W.tape∧(W.putObj W1.heap.size (.deferred none)).output=W.output:=⟨rfl,rfl,rfl⟩
  generalize W.putObj W1.heap.size (.deferred none)=W5 at *;refine ⟨.int .i64 z,?_,⟨ho5.1.trans (hos.trans (hb1.os.trans hb0.os)),ho5.2.1.trans (htape.trans (hb1.tape.trans hb0.tape)),ho5.2.2.trans (hout.trans (hb1.output.trans hb0.output)),by omega,fun j hj=>?_⟩,[.int .i64 z],rfl,⟨rfl,rfl⟩,trivial⟩
  ·simp [results,show f84.results = #[.tmp 2] from rfl,go_sem]
  ·exact (hot5 j (by omega)).trans ((hblk j (by omega) (by omega)).trans ((hb1.block j (by omega)).trans (hb0.block j (by omega))))
end Go.Sy
namespace Go.Sy
open Go Go.Proofs Tryz Ord
def Uc:Tr:=aI 108 [(G6 7),(G3 8)] [(some 6)] [22,23] [39,30] 39 false (aI 69 [] [(some 3)] [] [] 30 false (aI 66 [(G3 10),(G3 1)] [(some 3)] [26,27] [30,30] 30 false (aI 172 [(G6 0),(G3 11)] [(some 6)] [25,28] [81,30] 39 false (aI 109 [(G6 9),(G6 12)] [(some 6)] [24,29] [39,39] 39 true (aI 107 [(G6 0),(G6 13)] [(some 6)] [20,30] [81,39] 39 true (.ret [(G6 14)]))))))
def UW:Tr:=aI 107 [(G6 0),(G6 14)] [(some 6)] [42,44] [81,39] 39 false (.need (.call 106 [(G6 0),(G6 15),(tF true)] [(some 6)]) (.call ⟨.value (.func 106),#[(tT 41),(tT 45),(.const (.bool true))],#[81,39,4]⟩) 39 false (.need (.call 101 [(WK 1)] [(some 3)]) (.call ⟨.value (.func 101),#[(.const (I3 1))],#[3]⟩) 30 false (aI 92 [(G3 17)] [(some 6)] [48] [30] 39 false (.need (.call 106 [(G6 0),(G6 18),(tF true)] [(some 6)]) (.call ⟨.value (.func 106),#[(tT 47),(tT 49),(.const (.bool true))],#[81,39,4]⟩) 39 true (aI 156 [(G6 16),(G6 19)] [(some 6)] [46,50] [39,39] 39 true (.ret [(G6 20)]))))))
def Ub:Tr:=aI 72 [(G3 1),(G3 7)] [(some 3)] [32,33] [30,30] 30 false (aI 69 [] [(some 3)] [] [] 30 false (.need (.call 101 [(WK 1)] [(some 3)]) (.call ⟨.value (.func 101),#[(.const (I3 1))],#[3]⟩) 30 false (aI 32 [(G3 1),(G3 10)] [(some 3)] [36,37] [30,30] 30 false (aI 100 [(G3 9),(G3 11)] [(some 3)] [35,38] [30,30] 30 true (aI 66 [(G3 8),(G3 12)] [(some 3)] [34,39] [30,30] 30 true (aI 92 [(G3 13)] [(some 6)] [43] [30] 39 false UW))))))
def YQ:Tr:=.split (.u 3 0) (aI 36 [(G3 1)] [(some 3)] [11] [30] 30 false (aI 172 [(G6 0),(G3 4)] [(some 6)] [10,12] [81,30] 39 true (aI 37 [(G6 5)] [(some 6)] [13] [39] 39 true (.ret [(G6 6)])))) (aI 69 [] [(some 3)] [] [] 30 false (aI 68 [(G3 1),(G3 4)] [none] [16,17] [30,30] 3 true (aX .gtr 3 18 0 5 0 4 (.split (.u 6 0) (aI 40 [(G6 0)] [(some 6)] [21] [81] 39 false (.need (.call 101 [(WK 1)] [(some 3)]) (.call ⟨.value (.func 101),#[(.const (I3 1))],#[3]⟩) 30 false Uc)) (.need (.call 101 [(WK 1)] [(some 3)]) (.call ⟨.value (.func 101),#[(.const (I3 1))],#[3]⟩) 30 false Ub)))))
def XP:Tr:=aI 17 [(G3 1)] [none] [7] [30] 3 true (aX .lss 3 8 0 2 0 4 YQ)
theorem VM:aN prog f172 (fun _=>none) [.v (some 6), .v (some 3)]=XP:=by kernel_rfl
def rU:Rat:=mkRat 1 (2^1)
def atY (x:Rat):Rat:=aZ (x-rU) (((1:Int):Rat)+x*rU)
def We (up down:Rat) (x:Rat):Rat×Rat:=mU up down (atY x,atY x)
def atV (up down:Rat) (x:Rat) (Na Nb:Nat):Rat×Rat:=uJ (nA up down (We up down x) true Na) (nA up down (rU,rU) true Nb)
theorem qA (up down:Rat) (x:Rat) (Na Nb B:Nat) (h0:0≤x) (h1:x≤1) (hx:Fit B x) (Ka:cR up down (We up down x) true Na B) (Kb:cR up down (rU,rU) true Nb B):aD prog 172 [(gF up down:aE),(qT x:aE)] (.ret [dK (atV up down x Na Nb)]):=by
 refine bU func172 VM ?_;have fa:=Ka.fit;have fb:=Kb.fit;obtain ⟨A0,hA0⟩:∃ A,A=1+(Na+1)*(B+2+1):=⟨_,rfl⟩
 obtain ⟨A1,hA1⟩:∃ A,A=1+(Nb+1)*(B+2+1):=⟨_,rfl⟩
 have b0:(Na+1)*(B+2+1)≤1001*10003:=Nat.mul_le_mul (by have:=Ka.hN;omega) (by have:=Ka.hB;omega);have b1:(Nb+1)*(B+2+1)≤1001*10003:=Nat.mul_le_mul (by have:=Kb.hN;omega) (by have:=Ka.hB;omega);have hB:=Ka.hB;have hu:=Ka.hu;rw [←hA0] at fa;rw [←hA1] at fb;have hn:0≤x.num.sign:=Int.sign_nonneg_iff.2 (Rat.num_nonneg.2 h0);have ff:Fit 3 (mkRat 1 (2^1)):=by decide +kernel
 have f1:Fit 1 ((1:Int):Rat):=Fit.int (by omega) (by omega);have fy1:Fit (B+3+1) (x-rU):=hx.sub ff;have fy2:Fit (1+(B+3)+1) (((1:Int):Rat)+x*rU):=f1.add (hx.mul ff);have fy:Fit (B+3+1+(1+(B+3)+1)) (atY x):=eA fy1 fy2;apply aA (bB x) rfl;apply vn bA rfl;refine vs _ rfl ?_ ?_<;>intro h2
 ·exact absurd h2 (by omega)
 apply aA bW rfl;apply aA (bE x ((1:Int):Rat) B 1 hx f1) rfl;dsimp only [aF,aG];apply vn bJ rfl;refine vs _ rfl ?_ ?_<;>intro h10
 ·exact absurd (gU.1 h10) (by rw [show ((1:Int):Rat)=1 from rfl];grind)
 apply aA (eS 1) rfl;apply aA (jW x _ B 3 hx ff) rfl;apply aA bW rfl;dsimp only [aF,aG];apply aA (eS 1) rfl;apply aA (bG x _ B 3 hx ff) rfl;apply aA (hP ((1:Int):Rat) (x*mkRat 1 (2^1)) 1 (B+3) f1 (hx.mul ff)) rfl;apply aA (bD _ _ _ _ fy1 fy2) rfl;dsimp only [aF,aG];apply aA (sJ _) rfl;apply aA (oX up down (atY x,atY x) _ B fy fy hu.1 hu.2) rfl;apply aA (rD up down (We up down x) true Na B Ka) rfl;apply aA (eS 1) rfl;dsimp only [aF,aG];apply aA (sJ _) rfl;apply aA (rD up down (rU,rU) true Nb B Kb) rfl;apply aA (Jn _ _ _ _ A0 A1 fa.1 fa.2 fb.1 fb.2) rfl;exact aK rfl
theorem ax8:cR (aP 32) (bZ 32) (We (aP 32) (bZ 32) 1) true 9 300:=⟨by decide +kernel,by decide +kernel,by decide +kernel,by decide +kernel,by decide +kernel,by decide +kernel,by omega,by omega⟩
theorem ar5:cR (aP 32) (bZ 32) (rU,rU) true 14 300:=⟨by decide +kernel,by decide +kernel,by decide +kernel,by decide +kernel,by decide +kernel,by decide +kernel,by omega,by omega⟩
open Go Go.Proofs Tryz Ord
def tB:Tr:=.ret [(G3 1)]
def VI:Tr:=.split (.u 11 0) (.need (.call 22 [(WK 1)] [(some 3)]) (.call ⟨.value (.func 22),#[(.const (I3 1))],#[2]⟩) 30 true (aI 100 [(G3 1),(G3 12)] [(some 3)] [37,38] [30,30] 30 true (.ret [(G3 13)]))) (aX .eql 3 31 0 4 0 4 (.split (.u 12 0) (.split (.u 10 0) (.need (.call 22 [(WK 1)] [(some 3)]) (.call ⟨.value (.func 22),#[(.const (I3 1))],#[2]⟩) 30 true (aI 100 [(G3 1),(G3 13)] [(some 3)] [37,38] [30,30] 30 true (.ret [(G3 14)]))) tB) tB))
def ZE:Tr:=.need (.prim [(W 5 0)] none) (.unOp .not 4 (tT 16)) 4 false (.split (.u 6 0) (.need (.prim [(W 1 0),(WK 0)] none) (.indexAddr 24 (tT 22) (.const (I3 0))) 0 false (DV 7 0 none 167 23 (.need (.prim [(W 8 0),(.one (.c (.k (.int .u32 2))))] none) (.binOp .rem 167 (tT 24) (.const (.int .u32 2)) 167) 167 false (.need (.prim [(W 9 0),(.one (.c (.k (.int .u32 1))))] none) (.binOp .eql 167 (tT 25) (.const (.int .u32 1)) 167) 4 false (aX .gtr 3 28 0 4 0 4 VI))))) (aX .gtr 3 28 0 4 0 4 (.split (.u 7 0) (.need (.call 22 [(WK 1)] [(some 3)]) (.call ⟨.value (.func 22),#[(.const (I3 1))],#[2]⟩) 30 true (aI 100 [(G3 1),(G3 8)] [(some 3)] [37,38] [30,30] 30 true (.ret [(G3 9)]))) (aX .eql 3 31 0 4 0 4 (.split (.u 8 0) tB tB)))))
def Zp:Tr:=aI 99 [(G3 0)] [(some 3)] [6] [30] 30 true (aI 72 [(G3 0),(G3 1)] [(some 3)] [8,9] [30,30] 30 true (.need (.call 101 [(WK 1)] [(some 3)]) (.call ⟨.value (.func 101),#[(.const (I3 1))],#[3]⟩) 30 true (aI 68 [(G3 2),(G3 3)] [none] [10,11] [30,30] 3 true (aI 90 [(G1 1)] [none] [15] [26] 4 false ZE))))
theorem Mq:aN prog f138 (fun _=>none) [.v (some 3)]=Zp:=by kernel_rfl
def Qf:Tr:=.ret [(.one (.c (.k (.string ⟨#[]⟩)))),(tF false)]
def Tu:Tr:=.need (.prim [(W 20 0),(W 27 0)] none) (.slice 9 (tT 59) (some (tT 63)) none none) 9 false (cX .add 9 58 64 25 0 28 0 9 (aI 17 [(G3 7)] [none] [66] [30] 3 true (aX .lss 3 67 0 30 0 4 (.split (.u 31 0) (.need (.prim [(.one (.c (.k (.string ⟨#[45]⟩)))),(W 29 0)] none) (.binOp .add 9 (.const (.string ⟨#[45]⟩)) (tT 69) 9) 9 false (.ret [(W 32 0),(tF true)])) (.ret [(W 29 0),(tF true)])))))
def TN:Tr:=.split (.u 21 0) (kC 20 0 53 9 (cX .sub 3 54 55 22 0 2 0 3 (.need (.prim [(W 20 0),(W 23 0)] none) (.slice 9 (tT 52) none (some (tT 56)) none) 9 false (.need (.prim [(W 24 0),(.one (.c (.k (.string ⟨#[46]⟩))))] none) (.binOp .add 9 (tT 57) (.const (.string ⟨#[46]⟩)) 9) 9 false (kC 20 0 60 9 (cX .sub 3 61 62 26 0 2 0 3 Tu)))))) (aI 17 [(G3 7)] [none] [66] [30] 3 true (aX .lss 3 67 0 22 0 4 (.split (.u 23 0) (.need (.prim [(.one (.c (.k (.string ⟨#[45]⟩)))),(W 20 0)] none) (.binOp .add 9 (.const (.string ⟨#[45]⟩)) (tT 69) 9) 9 false (.ret [(W 24 0),(tF true)])) (.ret [(W 20 0),(tF true)]))))
def VL:Tr:=.need (.prim [(W 14 0),(W 25 0)] none) (.slice 9 (tT 59) (some (tT 63)) none none) 9 false (cX .add 9 58 64 23 0 26 0 9 (aI 17 [(G3 7)] [none] [66] [30] 3 true (aX .lss 3 67 0 28 0 4 (.split (.u 29 0) (.need (.prim [(.one (.c (.k (.string ⟨#[45]⟩)))),(W 27 0)] none) (.binOp .add 9 (.const (.string ⟨#[45]⟩)) (tT 69) 9) 9 false (.ret [(W 30 0),(tF true)])) (.ret [(W 27 0),(tF true)])))))
def TJ:Tr:=.split (.u 19 0) (kC 14 0 53 9 (cX .sub 3 54 55 20 0 2 0 3 (.need (.prim [(W 14 0),(W 21 0)] none) (.slice 9 (tT 52) none (some (tT 56)) none) 9 false (.need (.prim [(W 22 0),(.one (.c (.k (.string ⟨#[46]⟩))))] none) (.binOp .add 9 (tT 57) (.const (.string ⟨#[46]⟩)) 9) 9 false (kC 14 0 60 9 (cX .sub 3 61 62 24 0 2 0 3 VL)))))) (aI 17 [(G3 7)] [none] [66] [30] 3 true (aX .lss 3 67 0 20 0 4 (.split (.u 21 0) (.need (.prim [(.one (.c (.k (.string ⟨#[45]⟩)))),(W 14 0)] none) (.binOp .add 9 (.const (.string ⟨#[45]⟩)) (tT 69) 9) 9 false (.ret [(W 22 0),(tF true)])) (.ret [(W 14 0),(tF true)]))))
def Ve:Tr:=kC 14 0 41 9 (cX .sub 3 40 42 15 0 16 0 3 (aX .gtr 3 44 0 17 0 4 (.split (.u 18 0) (.need (.call 135 [(.one (.c (.k (.string ⟨#[48]⟩)))),(W 17 0)] [none]) (.call ⟨.value (.func 135),#[(.const (.string ⟨#[48]⟩)),(tT 46)],#[9,3]⟩) 9 false (cX .add 9 47 48 19 0 14 0 9 (aX .gtr 3 50 0 2 0 4 TN))) (aX .gtr 3 50 0 2 0 4 TJ))))
def Vl:Tr:=aI 32 [(.agg [(U 0 3),(U 0 4),(U 0 5)]),(G3 5)] [(some 3)] [28,29] [30,30] 30 false (aI 138 [(G3 10)] [(some 3)] [30] [30] 30 false (aI 68 [(G3 7),(G3 11)] [none] [26,31] [30,30] 3 false (aX .neq 3 32 0 12 0 4 (.split (.u 13 0) Qf (aI 89 [(G1 7)] [none] [37] [26] 9 true (aX .add 3 39 1 2 0 3 Ve))))))
def XQ:Tr:=aI 120 [(G1 3),(W 2 0)] [(some 1)] [12,13] [26,3] 26 true (aI 85 [(.agg [(U 4 0),(tE (.bool false))])] [(some 3)] [15] [28] 30 true (aI 32 [(G3 0),(G3 5)] [(some 3)] [18,19] [30,30] 30 true (aI 138 [(G3 6)] [(some 3)] [20] [30] 30 true (aI 80 [(G6 0)] [none] [22] [39] 4 false (.need (.prim [(W 8 0)] none) (.unOp .not 4 (tT 23)) 4 false (.split (.u 9 0) Qf Vl))))))
def WR:Tr:=.need (.call 119 [(W 1 0),(WK 100)] [none]) (.call ⟨.value (.func 119),#[(tT 10),(.const (I3 100))],#[3,3]⟩) 3 true (.need (.call 122 [(.one (.c (.k (.int .u64 10))))] [(some 1)]) (.call ⟨.value (.func 122),#[(.const (.int .u64 10))],#[153]⟩) 26 false XQ)
theorem OC:aN prog f93 (fun _=>none) [.v (some 6), .v none]=WR:=by kernel_rfl
def Ym:Tr:=aI 68 [(G3 0),(.agg [(U 0 3),(U 0 4),(U 0 5)])] [none] [4,6] [30,30] 3 true (aX .leq 3 7 0 1 0 4 (.ret [(W 2 0)]))
theorem Rw:aN prog f80 (fun _=>none) [.v (some 6)]=Ym:=by kernel_rfl
def oZ (q:Rat):Int:=
 if dM (q-(gT q:Rat)) (mkRat 1 (2^1))>0∨(dM (q-(gT q:Rat)) (mkRat 1 (2^1))=0∧(gT q).natAbs%1000000000%2=1) then gT q+1 else gT q
theorem Mf {q:Rat} (h:dM (q-(gT q:Rat)) (mkRat 1 (2^1))>0∨(dM (q-(gT q:Rat)) (mkRat 1 (2^1))=0∧(gT q).natAbs%1000000000%2=1)):(gT q:Rat)+((1:Int):Rat)=(oZ q:Rat):=by
 rw [oZ,if_pos h,Rat.intCast_add]
theorem pL {q:Rat} (h:¬ (dM (q-(gT q:Rat)) (mkRat 1 (2^1))>0∨(dM (q-(gT q:Rat)) (mkRat 1 (2^1))=0∧(gT q).natAbs%1000000000%2=1))):(gT q:Rat)=(oZ q:Rat):=by
 rw [oZ,if_neg h]
theorem QP {q:Rat} {H:Nat} (h:Fit H q) (h1:1≤H:=by omega):Fit (H+2) (oZ q:Rat):=by
 have hf:=gS h h1;unfold oZ;split
 ·rw [Rat.intCast_add];exact (hf.add (Fit.int (B:=1) (by omega) (by omega))).mono (by omega)
 ·exact hf.mono (by omega)
theorem yB (q:Rat) (H:Nat) (hq:Fit H q) (h1:1≤H:=by omega) (hH:H≤1000000000:=by omega):aD prog 138 [(qT q:aE)] (.ret [qT (oZ q:Rat)]):=by
 refine bU func138 Mq ?_;have hf:=gS hq h1;have ff:Fit 3 (mkRat 1 (2^1)):=by decide +kernel
 have f1:Fit 1 ((1:Int):Rat):=Fit.int (by omega) (by omega);have hd:=hq.sub hf;have hn:((gT q:Rat)).num.natAbs=(gT q).natAbs:=by rw [Rat.num_intCast]
 apply aA (fB q H hq) rfl;apply aA (jW q (gT q:Rat) H H hq hf) rfl;apply aA (eS 1) rfl;apply aA (bE _ _ (H+H+1) 3 hd ff) rfl;dsimp only [aF,aG];apply aA (hC (gT q:Rat).num.natAbs) rfl;apply vn rN rfl;refine vs _ rfl ?_ ?_<;>intro h6
 ·have h0:(gT q).natAbs≠0:=by
   rw [←hn];exact h6
  apply vn (Kq cI (show (rT (dg (gT q:Rat).num.natAbs))[(0:Int).toNat]? = some [.int .u32 (((gT q).natAbs%1000000000:Nat):Int)] by rw [hn,show dg (gT q).natAbs=_ from dR (by omega) h0];rfl)) rfl;apply vn (gD lP) rfl;dsimp only [aF,aG];apply vn (eU) rfl;apply vn aC rfl;apply vn bJ rfl;refine vs _ rfl ?_ ?_<;>intro h12
  ·apply aA (aY 1) rfl;dsimp only [aF,aG];apply aA (hP _ _ H 1 hf f1) rfl;dsimp only [aF,aG];rw [Mf (.inl h12)];exact aK rfl
  apply vn aC rfl;refine vs _ rfl ?_ ?_<;>intro h17
  ·refine vs _ rfl ?_ ?_<;>intro h18
   ·apply aA (aY 1) rfl;apply aA (hP _ _ H 1 hf f1) rfl;dsimp only [aF,aG];rw [Mf (.inr ⟨h17,by omega⟩)];exact aK rfl
   rw [←pL (fun h=>h.elim h12 fun h=>h18 (by omega))];exact aK rfl
  rw [←pL (fun h=>h.elim h12 fun h=>h17 h.1)];exact aK rfl
 apply vn bJ rfl;refine vs _ rfl ?_ ?_<;>intro h25
 ·apply aA (aY 1) rfl;apply aA (hP _ _ H 1 hf f1) rfl;dsimp only [aF,aG];rw [Mf (.inl h25)];exact aK rfl
 apply vn aC rfl;refine vs _ rfl ?_ ?_<;>intro h30
 ·have h0:(gT q).natAbs=0:=by rw [←hn];exact Decidable.not_not.1 h6
  rw [←pL (fun h=>h.elim h25 fun h=>by rw [h0] at h;omega)];exact aK rfl
 have h0:(gT q).natAbs=0:=by rw [←hn];exact Decidable.not_not.1 h6
 rw [←pL (fun h=>h.elim h25 fun h=>by rw [h0] at h;omega)];exact aK rfl
theorem uR (a b:Rat) (B:Nat) (ha:Fit B a) (hb:Fit B b) (h:B≤8589934592:=by omega):aD prog 80 [(gF a b:aE)] (.ret [.one (.bool (decide (a≤b)))]):=by
 refine bU func80 Rw ?_;apply aA (bE a b B B ha hb) rfl;apply vn jF rfl;dsimp only [aF,aG];rw [show decide (a≤b)=decide (dM a b≤0) by rw [decide_eq_decide];exact oQ.symm];exact aK rfl
theorem Nt {P:Program} {T ty:TypeId} {x y:Operand} {s:List UInt8} {k:IntKind} {n:Int} (hu:P.underlying T=some .string) (h0:0≤n:=by omega) (hn:n.toNat≤s.length:=by omega):aO P (.slice T x none (some y) none) ty [bS s, .one (.int k n)] (bS (s.take n.toNat)):=by
 have hs:(ByteArray.mk s.toArray).size=s.length:=by show s.toArray.size=_;simp
 have:=Ut (P:=P) (x:=x) (y:=y) (ty:=ty) (s:=⟨s.toArray⟩) (k:=k) hu h0 (by rw [hs];omega);rw [pW,List.drop_zero] at this;exact this
theorem TW (c:Nat) (hc:c≤9):aD prog 135 [bS [48], .one (.int .i64 (c:Int))] (.ret [bS (List.replicate c 48)]):=by
 refine ⟨enters_of func135 (by kernel_rfl) rfl,fun M w vs hM hv=>?_⟩
 match vs,hv with
 | [a,b],hv=>
   obtain ⟨⟨rfl,_⟩,⟨rfl,_⟩,_⟩:=hv;refine (GX c hc w).mono ?_;rintro e w' ⟨rfl,hb⟩;exact ⟨hb,[.string ⟨(List.replicate c (48:UInt8)).toArray⟩],rfl,⟨rfl,rfl⟩,trivial⟩
 | [],hv=>exact hv.elim
 | [_],hv=>exact hv.2.elim
 | _::_::_::_,hv=>exact hv.2.2.elim
theorem CV {T ty:TypeId} {x:Operand} {l:List UInt8} (hu:prog.underlying T=some .string):aO prog (.call ⟨.builtin .len,#[x],#[T]⟩) ty [bS l] (.one (.int .i64 l.length)):=
 PS hu (by show l.toArray.size=_;simp)
def rG (m n:Nat):List UInt8:=if (dec m).length<n+1 then List.replicate (n+1-(dec m).length) 48++dec m else dec m
def Rl (m n:Nat):List UInt8:=(rG m n).take ((rG m n).length-n) ++ [46]++(rG m n).drop ((rG m n).length-n)
def gH (n:Nat):Rat:=(((10^n:Nat):Int):Rat)
theorem rE (p:Rat×Rat) (n H:Nat) (h1:Fit H p.1) (h2:Fit H p.2) (hv:p.1≤p.2) (hpos:0<oZ (p.1*gH n)) (hc:n+1-(dec (oZ (p.1*gH n)).natAbs).length≤9) (hn0:0<n:=by omega) (hn:n≤100:=by omega) (hH1:1≤H:=by omega) (hH:H≤1000000:=by omega):aD prog 93 [(dK p:aE),(.one (.int .i64 (n:Int)):aE)] (.ret [bS (if oZ (p.1*gH n)=oZ (p.2*gH n) then Rl (oZ (p.1*gH n)).natAbs n else []), .one (.bool (decide (oZ (p.1*gH n)=oZ (p.2*gH n))))]):=by
 refine bU func93 OC ?_
 have hz:Fit 400 (gH n):=by
  refine Fit.int (by omega) ?_;rw [Int.natAbs_natCast];exact Nat.lt_of_le_of_lt (Nat.pow_le_pow_right (by omega) hn) (by decide +kernel)
 obtain ⟨A,hA⟩:∃ A,A=oZ (p.1*gH n):=⟨_,rfl⟩
 obtain ⟨B,hB⟩:∃ B,B=oZ (p.2*gH n):=⟨_,rfl⟩
 have fa:=QP (h1.mul hz);have fb:=QP (h2.mul hz);have hna:(A:Rat).num.natAbs=A.natAbs:=by rw [Rat.num_intCast]
 have hsg:(A:Rat).num.sign=1:=by rw [Rat.num_intCast,Int.sign_eq_one_of_pos (hA▸hpos)]
 rw [←hA] at fa hpos hc ⊢;rw [←hB] at fb ⊢;have hln:=gW (show (A:Rat).num.natAbs<2^(H+402) from fa.1);rw [hna] at hln;apply aA (wK (n:Int) 100) rfl;rw [show max 0 (min (n:Int) 100)=(n:Int) by omega];apply aA (eT 10) rfl;apply aA (nO 10 n 4) rfl;dsimp only [aF,aG];have hw:=nP (((10^n:Nat):Int));rw [show iT ((10^n:Nat):Int) = .agg [dT (10^n), .exact (.bool false)] from by rw [show iT ((10^n:Nat):Int) = .agg [dT (10^n), .bool (decide (((10^n:Nat):Int)<0))] from rfl,decide_eq_false (Int.not_lt.2 (Int.natCast_nonneg (10^n)))]] at hw;apply aA hw rfl;apply aA (bG p.1 (gH n) H 400 h1 hz) rfl;apply aA (yB (p.1*gH n) (H+400) (h1.mul hz)) rfl;rw [←hA];apply aA (uR p.1 p.2 H h1 h2) rfl;dsimp only [aF,aG];apply vn rN rfl;refine aQ false (congrArg aL.bool (decide_eq_false fun h=>h hv)) (fun h=>by cases h) (fun _=>?_);apply aA (bG p.2 (gH n) H 400 h2 hz) rfl;apply aA (yB (p.2*gH n) (H+400) (h2.mul hz)) rfl;rw [←hB];apply aA (bE (A:Rat) (B:Rat) (H+402) (H+402) fa fb) rfl;dsimp only [aF,aG];apply vn dE rfl;refine vs _ rfl ?_ ?_<;>intro h14
 ·have hne:A≠B:=fun e=>h14 (nG.2 (by rw [e]));rw [if_neg hne,decide_eq_false hne];exact aK rfl
 have hAB:A=B:=Rat.intCast_inj.1 (nG.1 (Decidable.not_not.1 h14));rw [if_pos hAB,decide_eq_true hAB];have hm:=UP (A:Rat).num.natAbs (by have:=DR fa.1;omega);rw [hna] at hm;obtain ⟨t,ht⟩:∃ t,t=dec A.natAbs:=⟨_,rfl⟩
 rw [←ht] at hm hln hc;apply aA hm rfl;apply vn (aH) rfl;apply vn (CV VB) rfl;dsimp only [aF,aG];apply vn (aW) rfl;apply vn bJ rfl;refine vs _ rfl ?_ ?_<;>intro h21
 ·have hpd:rG A.natAbs n=List.replicate (n+1-t.length) 48++t:=by rw [rG,←ht,if_pos (by omega)]
  rw [show (n:Int)+1-(t.length:Int)=((n+1-t.length:Nat):Int) by omega];apply aA (TW (n+1-t.length) hc) rfl;apply vn (eR (by rw [List.length_replicate];omega)) rfl;rw [←hpd];have hpl:(rG A.natAbs n).length=n+1:=by rw [hpd,eF,List.length_replicate];omega
  dsimp only [aF,aG];apply vn bJ rfl;refine vs _ rfl ?_ ?_<;>intro h25
  ·apply vn (CV VB) rfl;apply vn (aW) rfl;apply vn (Nt VB) rfl;dsimp only [aF,aG];apply vn (eR (b:=[46]) (by simp only [List.length_cons,List.length_nil,List.length_take];omega)) rfl;apply vn (CV VB) rfl;apply vn (aW) rfl;apply vn (Nn VB) rfl;dsimp only [aF,aG];apply vn (eR (by simp only [eF,List.length_cons,List.length_nil,List.length_take,List.length_drop];omega)) rfl;apply aA (bB (A:Rat)) rfl;rw [hsg];apply vn bA rfl;refine vs _ rfl ?_ ?_<;>intro h36
   ·exact absurd h36 (by omega)
   rw [Rl,show (((rG A.natAbs n).length:Int)-(n:Int)).toNat=(rG A.natAbs n).length-n by omega];exact aK rfl
  exact absurd h25 (by omega)
 have hpd:rG A.natAbs n=t:=by rw [rG,←ht,if_neg (by omega)]
 rw [←hpd] at hln h21 ⊢;apply vn bJ rfl;dsimp only [aF,aG];refine vs _ rfl ?_ ?_<;>intro h47
 ·apply vn (CV VB) rfl;apply vn (aW) rfl;apply vn (Nt VB) rfl;apply vn (eR (b:=[46]) (by simp only [List.length_cons,List.length_nil,List.length_take];omega)) rfl;dsimp only [aF,aG];apply vn (CV VB) rfl;apply vn (aW) rfl;apply vn (Nn VB) rfl;apply vn (eR (by simp only [eF,List.length_cons,List.length_nil,List.length_take,List.length_drop];omega)) rfl;dsimp only [aF,aG];apply aA (bB (A:Rat)) rfl;rw [hsg];apply vn bA rfl;refine vs _ rfl ?_ ?_<;>intro h58
  ·exact absurd h58 (by omega)
  rw [Rl,show (((rG A.natAbs n).length:Int)-(n:Int)).toNat=(rG A.natAbs n).length-n by omega];exact aK rfl
 exact absurd h47 (by omega)
open Go Go.Proofs Go.RowKit Tryz Ord
attribute [local go_sem] Oper.semAt_some
def Il:Tr:=.fail 1033
def JI:Tr:=.need (.strow 2 1 (.k (.int .i64 (0))) 0 [(.u 3 0)]) (.store 9 (.tmp 14) (.tmp 53)) 0 false Il
def HR:Tr:=.retr [] 2
def Hr:Tr:=.split (.u 4 0) JI HR
def Jc:Tr:=.need (.call 93 [(.agg [(U 1 0),(U 1 1),(U 1 2),(U 1 3),(U 1 4),(U 1 5)]),(W 0 0)] [none,none]) (.call ⟨.value (.func 93),#[(.tmp 47),(.tmp 48)],#[39,3]⟩) 131 false Hr
theorem Mc:cC prog 55 (fun _=>none) (bC [1,1,1,1,1,1,0,1,0,1] (bH f28)) [(5, .ref 1),(15, .ref 6)] 14 9 1 0 ([].map ResultVar.tmp)=Jc:=by kernel_rfl
def Jh:Tr:=.retr [] 5
def HJ:Tr:=.need (.strow 2 1 (.k (.int .i64 (0))) 0 [(.u 3 0)]) (.store 9 (.tmp 14) (.tmp 53)) 0 false Jh
def Ja:Tr:=.fail 1034
def It:Tr:=.split (.u 4 0) HJ Ja
def Hk:Tr:=.need (.call 93 [(.agg [(U 1 0),(U 1 1),(U 1 2),(U 1 3),(U 1 4),(U 1 5)]),(W 0 0)] [none,none]) (.call ⟨.value (.func 93),#[(.tmp 47),(.tmp 48)],#[39,3]⟩) 131 false It
theorem Mx:cC prog 55 (fun _=>none) (bC [1,1,1,1,1,1,0,1,0,1] (bH f28)) [(5, .ref 1),(15, .ref 6)] 14 9 1 1 ([].map ResultVar.tmp)=Hk:=by kernel_rfl
theorem an7 (n:Int) (p:Rat×Rat) (s:List UInt8) (c:List aL) (hc:c.length=1) (hD:aD prog 93 [dK p, .one (.int .i64 n)] (.ret [bS s, .one (.bool false)])):vc prog (fun o=>o = .retr [] ([c])) (cC prog 55 (fun _=>none) (bC [1,1,1,1,1,1,0,1,0,1] (bH f28)) [(5, .ref 1),(15, .ref 6)] 14 9 1 0 ([].map ResultVar.tmp)) ([.ref ([.int .i64 n]), .ref (eB p.1 p.2)].map In.env ++ [.rows ([c])]) []:=by
 rw [Mc];dsimp only [List.map,In.env,aF,aG];apply aA hD rfl;refine aQ false rfl (fun h=>by cases h) (fun _=>?_);exact dB rfl rfl
theorem aj0 (n:Int) (p:Rat×Rat) (s:List UInt8) (c:List aL) (hc:c.length=1) (hD:aD prog 93 [dK p, .one (.int .i64 n)] (.ret [bS s, .one (.bool true)])):vc prog (fun o=>o = .retr [] ([[.exact (.string ⟨s.toArray⟩)]])) (cC prog 55 (fun _=>none) (bC [1,1,1,1,1,1,0,1,0,1] (bH f28)) [(5, .ref 1),(15, .ref 6)] 14 9 1 1 ([].map ResultVar.tmp)) ([.ref ([.int .i64 n]), .ref (eB p.1 p.2)].map In.env ++ [.rows ([c])]) []:=by
 rw [Mx];dsimp only [List.map,In.env,aF,aG];obtain ⟨a0,rfl⟩:=So hc;apply aA hD rfl;refine aQ true rfl (fun _=>?_) (fun h=>by cases h);refine kD (ts:=[[a0]]) (us:=[[.exact (.string ⟨s.toArray⟩)]]) rfl rfl (by omega) (cells:=[a0]) rfl rfl ?_;dsimp only [aF,aG];exact dB rfl rfl
theorem lL {f:FuncId} {args:List aE} {k:IntKind} {n:Int} (hd:aD prog f args (.ret [.one (.int k n)])) {M:Nat→Prop} {w:World} {vs:List Value} (hM:Fine M w) (hv:bR M w args vs) :
  Calls prog f vs.toArray w fun e w'=>Below w.heap.size w w'∧e = .returned (.int k n):=by
 refine (hd.2 M w vs hM hv).mono ?_;rintro e w' ⟨hb,us,rfl,hus⟩
 match us,hus with
 | [v],hus=>obtain ⟨⟨rfl,_⟩,_⟩:=hus;exact ⟨hb,rfl⟩
 | [],hus=>exact hus.elim
 | _::_::_,hus=>exact hus.2.elim
theorem MZ {f:FuncId} {args:List aE} {q:Rat} {b:Bool} (hd:aD prog f args (.ret [qT q, .one (.bool b)])) {M:Nat→Prop} {w:World} {vs:List Value} (hM:Fine M w) (hv:bR M w args vs) :
  Calls prog f vs.toArray w fun e w'=>Below w.heap.size w w'∧∃ u0 u1 u2,e = .returned (.tuple #[.agg #[u0,u1,u2], .bool b])∧aM M w' (qC q) [u0,u1,u2]:=by
 refine (hd.2 M w vs hM hv).mono ?_;rintro e w' ⟨hb,us,rfl,hus⟩
 match us,hus with
 | [v,v'],hus=>
   obtain ⟨⟨cs,rfl,hcs⟩,⟨rfl,_⟩,_⟩:=hus
   match cs,hcs with
   | [a,b,c],hcs=>exact ⟨hb,a,b,c,rfl,hcs⟩
   | [],hcs=>exact hcs.elim
   | [_],hcs=>exact hcs.2.elim
   | [_,_],hcs=>exact hcs.2.2.elim
   | _::_::_::_::_,hcs=>exact hcs.2.2.2.elim
 | [],hus=>exact hus.elim
 | [_],hus=>exact hus.2.elim
 | _::_::_::_,hus=>exact hus.2.2.elim
theorem MP {P:Program} {W:World} {b T:Nat} {c0 c1 c2 c3 u1 u2 u3:Value} (h:W.heap[b]? = some (.cells #[c0,c1,c2,c3] T (0,0))) (o1:u1.oneCell'=true) (o2:u2.oneCell'=true) (o3:u3.oneCell'=true) :
  (((store ⟨b,1,none⟩ u1).run P W).andThen fun _ w'=>((store ⟨b,2,none⟩ u2).run P w').andThen fun _ w'=>(store ⟨b,3,none⟩ u3).run P w') = .ok () (W.setRow b #[c0,u1,u2,u3]):=by
 rw [eJ h (by simp) o1,Result.andThen_ok,eJ (setRow_heap W b _ _ T (0,0) h) (by simp) o2,Result.andThen_ok,setRow_setRow,eJ (setRow_heap W b _ _ T (0,0) h) (by simp) o3,setRow_setRow];rfl
set_option maxRecDepth 100000 in
set_option maxHeartbeats 1000000 in
theorem Hc (kind:Nat) (x y:Rat) (n:Int) (V:Nat→Rat×Rat) (R:Nat) (t:List UInt8)
  (hV:∀ i,i≤R→aD prog 130 ([gF (aP (32*2^i)) (bZ (32*2^i))] ++ [aL.bI (.int .u8 (kind:Int)::qC x)].map .one) (.ret [dK (V i)]))
  (hc:aD prog 81 [.one (.int .u8 (kind:Int)),qT x] (.ret [.one (.int .i64 0)])) (he:aD prog 87 [.agg (.int .u8 (kind:Int)::qC x)] (.ret [qT y, .one (.bool false)]))
  (hN:∀ i,i<R→∃ s,aD prog 93 [dK (V i), .one (.int .i64 n)] (.ret [bS s, .one (.bool false)])) (hX:aD prog 93 [dK (V R), .one (.int .i64 n)] (.ret [bS t, .one (.bool true)])) (hn:n≤70:=by omega) (hR:R≤4:=by omega) :
  aD prog 28 [.one (.int .u8 (kind:Int)),qT x, .one (.int .i64 n)] (.ret [bS t, .one (.int .i64 0)]):=by
 refine ⟨enters_of func28 (by kernel_rfl) rfl,fun M w vs hM hv=>?_⟩
 match vs,hv with
 | [],hv=>exact hv.elim
 | [_],hv=>exact hv.2.elim
 | [_,_],hv=>exact hv.2.2.elim
 | _::_::_::_::_,hv=>exact hv.2.2.2.elim
 | [w0,w1,w2],hv=>
 obtain ⟨⟨rfl,_⟩,hxs,⟨rfl,_⟩,_⟩:=hv;obtain ⟨v0,v1,v2,hpk,hx3⟩:=My (show bR M w [qT x] [w1] from ⟨hxs,trivial⟩);obtain rfl:w1 = .agg #[v0,v1,v2]:=hpk;have hone:=hx3.one;refine (callsIn_wide (n:=1001)).1 ?_;refine callsIn_of_wp_marks func28 rfl trivial ?_ rfl;simp only [ntmps28,List.size_toArray,List.length_cons,List.length_nil,Nat.reduceAdd,Nat.reduceSub,Array.replicate_succ,Array.replicate_zero,List.push_toArray,List.append_toArray,List.nil_append,List.cons_append]
 gi_wp2
 obtain ⟨n0,hn0⟩:∃ n0,w.heap.size=n0:=⟨_,rfl⟩
 obtain ⟨W0,hW0⟩:∃ W0,((w.alloc (.cells #[v0,v1,v2] 30)).alloc (.cells #[.int .i64 n] 3))=W0:=⟨_,rfl⟩
 have hs0:W0.heap.size=n0+2:=by rw [←hW0];simp [hn0]
 have hb0:Below n0 w W0:=by
  rw [←hW0];exact ((Below.refl _ w).alloc (by omega) _).alloc (by simp;omega) _
 have hx0:W0.heap[n0]? = some (.cells #[v0,v1,v2] 30 (0,0)):=by rw [←hW0,heap_alloc_old _ _ _ (by simp;omega),←hn0];exact heap_alloc_new w _
 have hk0:W0.heap[n0+1]? = some (.cells #[.int .i64 n] 3 (0,0)):=by
  rw [←hW0];have:=heap_alloc_new (w.alloc (.cells #[v0,v1,v2] 30)) (.cells #[.int .i64 n] 3);rw [World.size_alloc,hn0] at this;exact this
 rw [hW0];have hM0:Fine M W0:=⟨fun b hb=>by have:=hM.1 b hb;have:=hb0.size;omega,hM.2.cE (aR.below (hn0▸hb0))⟩
 have hx30:=hx3.mono (aR.below (M:=M) (hn0▸hb0));simp only [hn0];clear hW0;refine ⟨trivial,?_⟩;refine (callsIn_wide.2 (lL hc hM0 (vs:=[.int .u8 kind, .agg #[v0,v1,v2]]) ⟨⟨rfl,rfl⟩,⟨_,rfl,hx30⟩,trivial⟩)).mono ?_;rintro e W1 ⟨hb1,rfl⟩;dsimp only;have hs1:=hb1.size;have hx1:=(hb1.block n0 (by omega)).trans hx0;have hk1:=(hb1.block (n0+1) (by omega)).trans hk0;have hM1:Fine M W1:=⟨fun b hb=>by have:=hM0.1 b hb;omega,hM0.2.cE (aR.below hb1)⟩
 have hx31:=hx30.mono (aR.below (M:=M) hb1);have c0:W1.cell? ⟨n0,0,none⟩=some v0:=aB hx1 rfl;have c1:W1.cell? ⟨n0,1,none⟩=some v1:=aB hx1 rfl;have c2:W1.cell? ⟨n0,2,none⟩=some v2:=aB hx1 rfl;have d0:W1.cell? ⟨n0+1,0,none⟩=some (.int .i64 n):=aB hk1 rfl;have d1:W1.frozen? ⟨n0+1,0,none⟩=false:=zQ hk1 0
 gi_wp2
 have hW2:=setCell_eq_setRow W1 (n0+1) 0 _ _ _ (.int .i64 (min n 70)) hk1;simp only [hW2];have hk2:=setRow_heap W1 (n0+1) _ (#[.int .i64 n].setIfInBounds 0 (.int .i64 (min n 70))) 3 (0,0) hk1;have ho2:∀ j,j≠n0+1→(W1.setRow (n0+1) (#[.int .i64 n].setIfInBounds 0 (.int .i64 (min n 70)))).heap[j]? = W1.heap[j]?:=fun j hj=>setRow_other W1 (n0+1) j _ hj;have hs2:(W1.setRow (n0+1) (#[.int .i64 n].setIfInBounds 0 (.int .i64 (min n 70)))).heap.size=W1.heap.size:=by simp [World.setRow]
 have hb2:Below n0 w (W1.setRow (n0+1) (#[.int .i64 n].setIfInBounds 0 (.int .i64 (min n 70)))):=below_setRow (hb0.trans (hb1.mono (by omega))) _;rw [show (#[Value.int .i64 n].setIfInBounds 0 (.int .i64 (min n 70))) = #[.int .i64 n] by rw [show min n 70=n by omega];rfl] at *;generalize W1.setRow (n0+1) #[.int .i64 n]=W2 at *;obtain ⟨n2,hn2⟩:∃ n2,W2.heap.size=n2:=⟨_,rfl⟩
 have hs12:W0.heap.size≤n2:=by omega
 simp only [←hs2];rw [MP (heap_alloc_new W2 _) (hone _ (by simp)) (hone _ (by simp)) (hone _ (by simp))];have hp3:=setRow_heap _ _ _ #[.int .u8 (kind:Int),v0,v1,v2] 122 (0,0) (heap_alloc_new W2 (.cells #[.int .u8 (kind:Int), .slice none 0 0, .bool false, .slice none 0 0] 122));have hbp:Below W2.heap.size W2 ((W2.alloc (.cells #[.int .u8 (kind:Int), .slice none 0 0, .bool false, .slice none 0 0] 122)).setRow W2.heap.size #[.int .u8 (kind:Int),v0,v1,v2]):=below_setRow ((Below.refl _ W2).alloc (cD _) _) _ (cD _);have hs3:((W2.alloc (.cells #[.int .u8 (kind:Int), .slice none 0 0, .bool false, .slice none 0 0] 122)).setRow W2.heap.size #[.int .u8 (kind:Int),v0,v1,v2]).heap.size=W2.heap.size+1:=by simp [World.setRow]
 generalize (W2.alloc _).setRow _ _=W3 at hp3 hbp hs3 ⊢;rw [hn2] at *;have e0:W3.cell? ⟨n2,0,none⟩=some (.int .u8 (kind:Int)):=aB hp3 rfl;have e1:W3.cell? ⟨n2,1,none⟩=some v0:=aB hp3 rfl;have e2:W3.cell? ⟨n2,2,none⟩=some v1:=aB hp3 rfl;have e3:W3.cell? ⟨n2,3,none⟩=some v2:=aB hp3 rfl
 gi_wp2
 have hb3:Below n0 w W3:=hb2.trans (hbp.mono (by omega));have gG:∀ W',Below n0 w W'→Fine M W':=fun W' h=>⟨fun b hb=>by have:=hM.1 b hb;have:=h.size;omega,hM.2.cE (aR.below (hn0▸h))⟩
 have hk3:=(hbp.block (n0+1) (by omega)).trans hk2;refine ⟨trivial,?_⟩;refine (callsIn_wide.2 (MZ he (gG W3 hb3) (vs:=[.agg #[.int .u8 (kind:Int),v0,v1,v2]]) ⟨⟨_,rfl,⟨rfl,rfl⟩,hx3.mono (aR.below (hn0▸hb3))⟩,trivial⟩)).mono ?_;rintro e W4 ⟨hb4,y0,y1,y2,rfl,hy⟩;dsimp only;have hyo:=hy.one;have hs4:=hb4.size
 gi_wp2
 rw [wY (heap_alloc_new W4 _) (hyo _ (by simp)) (hyo _ (by simp)) (hyo _ (by simp))];have hb5:Below W4.heap.size W4 ((W4.alloc (.cells #[.slice none 0 0, .bool false, .slice none 0 0] 30)).setRow W4.heap.size #[y0,y1,y2]):=below_setRow ((Below.refl _ W4).alloc (cD _) _) _ (cD _);generalize (W4.alloc _).setRow _ _=W5 at hb5 ⊢;have hs5:=hb5.size;have hp5:=(hb5.block n2 (by omega)).trans ((hb4.block n2 (by omega)).trans hp3);have hk5:=(hb5.block (n0+1) (by omega)).trans ((hb4.block (n0+1) (by omega)).trans hk3);have hp6:(W5.alloc (.cells #[.string ⟨#[]⟩] 9)).heap[n2]? = some (.cells #[.int .u8 (kind:Int),v0,v1,v2] 122 (0,0)):=(heap_alloc_old _ _ _ (by omega)).trans hp5;have g0:(W5.alloc (.cells #[.string ⟨#[]⟩] 9)).cell? ⟨n2,0,none⟩=some (.int .u8 (kind:Int)):=aB hp6 rfl;have g1:(W5.alloc (.cells #[.string ⟨#[]⟩] 9)).cell? ⟨n2,1,none⟩=some v0:=aB hp6 rfl;have g2:(W5.alloc (.cells #[.string ⟨#[]⟩] 9)).cell? ⟨n2,2,none⟩=some v1:=aB hp6 rfl;have g3:(W5.alloc (.cells #[.string ⟨#[]⟩] 9)).cell? ⟨n2,3,none⟩=some v2:=aB hp6 rfl
 gi_wp2
 have hb6:Below W5.heap.size W5 (W5.alloc (.cells #[.string ⟨#[]⟩] 9)):=(Below.refl _ W5).alloc (cD _) _;have ho6:=heap_alloc_new W5 (.cells #[.string ⟨#[]⟩] 9);obtain ⟨n5,hn5⟩:∃ n5,W5.heap.size=n5:=⟨_,rfl⟩
 have hs6:(W5.alloc (.cells #[.string ⟨#[]⟩] 9)).heap.size=n5+1:=by simp [hn5]
 generalize W5.alloc _=W6 at hb6 ho6 hs6 ⊢;rw [hn5] at *;have hs56:=hb6.size;have hb6':Below n0 w W6:=hb3.trans ((hb4.mono (by omega)).trans ((hb5.mono (by omega)).trans (hb6.mono (by omega))));have hk6:=(hb6.block (n0+1) (by omega)).trans hk5;have hlow:∀ b,M b→b<n0:=fun b hb=>by have:=hM.1 b hb;omega
 have hkM:aR M w (fun b=>M b∨b=n5) W6:=fun b o hb ho _=>by
  have hlt:=(dS.1 ho).1;exact ⟨fun h=>h.elim hb (by omega),(hb6'.block b (by omega)).trans ho⟩
 have hM6:Fine (fun b=>M b∨b=n5) W6:=⟨fun b hb=>hb.elim (fun h=>by have:=hlow b h;omega) (by omega),hM.2.cE hkM⟩
 refine ⟨trivial,?_⟩;refine (callsIn_wide.2 ((eC kind x).2 (fun b=>M b∨b=n5) W6 [.agg #[.int .u8 (kind:Int),v0,v1,v2]] hM6 ⟨⟨_,rfl,⟨rfl,rfl⟩,hx3.mono hkM⟩,trivial⟩)).mono ?_;rintro e W7 ⟨hb7,us,rfl,hus⟩
 match us,hus with
 | [],hus=>exact hus.elim
 | _::_::_,hus=>exact hus.2.elim
 | [it],hus=>
 obtain ⟨⟨cvs,rfl,hcv⟩,_⟩:=hus
 match cvs,hcv with
 | [],hcv=>exact hcv.elim
 | _::_::_,hcv=>exact hcv.2.elim
 | [vp],hcv=>
 have hvp:=hcv.1;have hs7:=hb7.size;have hM7:Fine (fun b=>M b∨b=n5) W7:=⟨fun b hb=>by have:=hM6.1 b hb;omega,hM6.2.cE (aR.below hb7)⟩
 have hk7:=(hb7.block (n0+1) (by omega)).trans hk6;have ho7:=(hb7.block n5 (by omega)).trans ho6;dsimp only
 gi_wp2
 refine iJ (fun b=>M b∨b=n5) 130 [.bI (.int .u8 (kind:Int)::qC x)] V R hR hV (o:=n5) (T:=9) (p:=45) (d:=15) (id:=0) (cs:=fun i=>if i≤R then [.exact (.string ⟨#[]⟩)] else [.exact (.string ⟨t.toArray⟩)]) hM7 hvp rfl (.inr rfl) ho7 ?_ ?_ ?_ ?_
 ·exact ⟨⟨rfl,rfl⟩,trivial⟩
 ·intro l u0 u1 u2 u3 u4 u5 W K hone hK
  gi_wp2
  rw [gK (heap_alloc_new W _) (hone _ (by simp)) (hone _ (by simp)) (hone _ (by simp)) (hone _ (by simp)) (hone _ (by simp)) (hone _ (by simp))]
  gi_wp2
  exact hK
 ·intro i hi l W cur b x' Q hq hMW hkp hcu hcr hp hQ;have hkv:(aL.bI [.int .i64 n]).rep (fun b=>M b∨b=n5) W (.pointer (some ⟨n0+1,0,none⟩)):=⟨n0+1,0,#[.int .i64 n],3,(0,0),rfl,fun h=>h.elim (fun h=>absurd (hlow _ h) (by omega)) (by omega),(hkp _ _ (fun h=>h.elim (fun h=>absurd (hlow _ h) (by omega)) (by omega)) hk7 rfl).2,⟨rfl,rfl⟩,trivial⟩
  rw [if_pos hi] at hcr;by_cases hlt:i<R
  ·obtain ⟨s,hs⟩:=hN i hlt
   refine fJ (N:=55) (t0:=14) (T:=9) (n:=1) (want:=0) (g:=n5) (cur:=cur) (ins:=[(5, .ref 1),(15, .ref 6)]) (xs:=[.ref [.int .i64 n], .ref (eB (V i).1 (V i).2)]) fo ⟨rfl,rfl,trivial⟩
    (an7 n (V i) s [.exact (.string ⟨#[]⟩)] rfl hs) (by kernel_rfl) (by kernel_rfl) hq hMW (.inr rfl) rfl rfl (by rfl) (by omega) ⟨hkv,hp,trivial⟩ rfl hcu hcr ?_
   intro a' W' us cur' hg _ _ _ hc' _ hr';rw [if_pos hlt,if_pos (show i+1≤R by omega)] at hQ;exact hQ a' W' cur' hg hc' hr'
  ·obtain rfl:i=R:=by omega
   refine fJ (N:=55) (t0:=14) (T:=9) (n:=1) (want:=1) (g:=n5) (cur:=cur) (ins:=[(5, .ref 1),(15, .ref 6)]) (xs:=[.ref [.int .i64 n], .ref (eB (V i).1 (V i).2)]) fo ⟨rfl,rfl,trivial⟩
    (aj0 n (V i) t [.exact (.string ⟨#[]⟩)] rfl hX) (by kernel_rfl) (by kernel_rfl) hq hMW (.inr rfl) rfl rfl (by rfl) (by omega) ⟨hkv,hp,trivial⟩ rfl hcu hcr ?_
   intro a' W' us cur' hg _ _ _ hc' _ hr';rw [if_neg hlt,if_neg (show ¬ i+1≤i by omega)] at hQ;exact hQ a' W' cur' hg hc' hr'
 ·intro W cur hos htape hout hsz hblk hD hcu hcr;rw [if_neg (by omega)] at hcr
  obtain ⟨u,rfl⟩:∃ u,cur = #[u]:=by
   have hl:=hcr.length
   match h:cur.toList,hl with
   | [u],_=>exact ⟨u,by rw [←Array.toArray_toList (xs:=cur),h]⟩
  obtain ⟨rfl,_⟩:u = .string ⟨t.toArray⟩∧_:=hcr.1;have c0:W.cell? ⟨n5,0,none⟩=some (.string ⟨t.toArray⟩):=aB hcu rfl
  gi_wp2
  refine ⟨by simp, .inl ⟨_,_,rfl,run_takeDeferred hD,?_⟩⟩;have hot8:∀ j,j≠W7.heap.size→(W.putObj W7.heap.size (.deferred none)).heap[j]? = W.heap[j]?:=fun j hj=>World.putObj_heap_other hj;have hs8:(W.putObj W7.heap.size (.deferred none)).heap.size=W.heap.size:=World.putObj_size;have ho8:(W.putObj W7.heap.size (.deferred none)).os=W.os∧(W.putObj W7.heap.size (.deferred none)).tape=W.tape∧(W.putObj W7.heap.size (.deferred none)).output=W.output:=⟨rfl,rfl,rfl⟩
  generalize W.putObj W7.heap.size (.deferred none)=W8 at *;refine ⟨.tuple #[.string ⟨t.toArray⟩, .int .i64 0],?_,⟨ho8.1.trans (hos.trans (hb7.os.trans hb6'.os)),ho8.2.1.trans (htape.trans (hb7.tape.trans hb6'.tape)),ho8.2.2.trans (hout.trans (hb7.output.trans hb6'.output)),by omega,fun j hj=>?_⟩,[.string ⟨t.toArray⟩, .int .i64 0],rfl,⟨rfl,rfl⟩,⟨rfl,rfl⟩,trivial⟩
  ·simp [results,show f28.results = #[.tmp 6, .tmp 7] from rfl,go_sem]
  ·exact (hot8 j (by omega)).trans ((hblk j (by omega) (by omega)).trans ((hb7.block j (by omega)).trans (hb6'.block j (by omega))))
end Go.Sy
