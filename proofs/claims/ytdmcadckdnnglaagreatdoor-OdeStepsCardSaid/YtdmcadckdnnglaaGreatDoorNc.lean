/- slices.Backward over digits; word. Common divisors, powers; integers. Integers, ratios, rational numbers.
-/
import Derived.Test.YtdmcadckdnnglaaGreatDoorNb
import Derived.RangeFuncFrom
import Derived.RangeFuncBox
import Derived.RangeFuncLeaves
import Derived.Shelf.Abstract
import Derived.WalkKit
import Derived.OwnWalkIn
import Derived.TacticsInMore
import Derived.LoopNIn
import Derived.LoopIn
import Derived.Test.YtdmcadckdnnglaaGreatDoorPa
set_option linter.unusedVariables false
set_option linter.unusedSimpArgs false
namespace Go.Sy
open Go Go.Proofs Go.RowKit Go.Shelf Tryz Ord
attribute [local go_sem] Oper.semAt_some
section
variable {α:Type} [Inhabited α] {enc:α→Value}
def bk (vs:List α) (k:Nat):List (Nat×α):=(List.range k).map fun j=>(vs.length-1-j,vs[vs.length-1-j]?.getD default)
theorem Gm (vs:List α) (k:Nat):bk vs (k+1)=bk vs k ++ [(vs.length-1-k,vs[vs.length-1-k]?.getD default)]:=by simp [bk,List.range_succ]
theorem Fl (vs:List α) (k:Nat):(bk vs k).length=k:=by simp [bk]
def WL (n₀ Bs:Nat) (A B:World):Prop:=Below n₀ A B∧∀ v,A.cell? ⟨Bs,0,none⟩=some v→B.cell? ⟨Bs,0,none⟩=some v
set_option maxRecDepth 100000 in
set_option maxHeartbeats 2000000 in
theorem OG (l Bs n₀ b off cap:Nat) (vs:List α) (hlen:vs.length<4611686018427387904) (hb:b<n₀) (J Jx:List (Nat×α)→World→Prop)
  (hY:∀ pre x W,J pre W→pre.length<vs.length→YieldAt Fence.wide (1000-1) prog l #[.int .i64 (x.1:Int),enc x.2] W fun e W'=>
   (e = .returned (.bool true)∧J (pre ++ [x]) W'∧WL n₀ Bs W W')∨(e = .returned (.bool false)∧Jx (pre ++ [x]) W'))
  (W:World) (hBs:W.cell? ⟨Bs,0,none⟩=some (.slice (some ⟨b,off,none⟩) vs.length cap)) (hc:∀ j v,vs[j]? = some v→W.cell? ⟨b,off+j,none⟩=some (enc v)) (h0:J [] W) :
  CallsIn Fence.wide 1000 prog 274 #[.func (.yield l) #[] #[], .pointer (some ⟨Bs,0,none⟩)] W fun e W'=>(∃ v,e = .returned v) ∧
   ((∃ ys,ys=bk vs vs.length∧J ys W')∨(∃ pre,(∃ k,k≤vs.length∧pre=bk vs k)∧Jx pre W')):=by
 refine callsIn_of_wp func274 rfl trivial ?_ rfl;simp only [ntmps274,List.size_toArray,List.length_cons,List.length_nil,Nat.reduceAdd,Nat.reduceSub,Array.replicate_succ,Array.replicate_zero,List.push_toArray,List.append_toArray,List.nil_append,List.cons_append];obtain ⟨N,hN⟩:∃ N,vs.length=N:=⟨_,rfl⟩
 rw [hN] at hBs hY hlen ⊢
 gi_wp2
 gi_loopw [3] (fun i wr=>∃ k:Nat,k≤N∧i = .int .i64 ((N:Int)-1-k)∧J (bk vs k) wr∧Below n₀ W wr∧wr.cell? ⟨Bs,0,none⟩=some (.slice (some ⟨b,off,none⟩) N cap))
  (fun i _=>(intOf i+1).toNat)
 case atStart=>exact ⟨0,Nat.zero_le _,by simp,h0,Below.refl _ _,hBs⟩
 case round=>
  obtain ⟨k,hk,rfl,hJs,hnx,hBx⟩:=hrel;have hmeas:(intOf (.int .i64 ((N:Int)-1-k))+1).toNat=N-k:=by simp [intOf];omega
  by_cases hlt:k<N
  ·have hv:vs[N-1-k]? = some (vs[N-1-k]?.getD default):=by rw [List.getElem?_eq_getElem (by omega)];rfl
   have hcx:wr.cell? ⟨b,off+(N-1-k),none⟩=some (enc (vs[N-1-k]?.getD default)):=(hnx.cell (p:=⟨b,off+(N-1-k),none⟩) hb).trans (hc _ _ hv);obtain ⟨fn,tmps,assign,body,hy,hR⟩:=hY _ (N-1-k,vs[N-1-k]?.getD default) wr hJs (by rw [Fl];exact hlt);generalize hx:vs[N-1-k]?.getD default=x at hy hR hcx;have hsucc:bk vs (k+1)=bk vs k ++ [(N-1-k,x)]:=by rw [Gm,hN,hx]
   have e1:(N:Int)-1-k=((N-1-k:Nat):Int):=by omega
   have hn1:N-1-k<N:=by omega
   have e2:(wr.cell? ⟨b,off+(N-1-k),none⟩)=some (enc x):=hcx;rw [e1]
   gi_wp2
   refine hR.mono ?_;rintro e W3 (⟨rfl,hJ3,hk3⟩ | ⟨rfl,hJx3⟩)
   ·gi_wp2
    go_roundw
    case rel=>exact ⟨k+1,by omega,by congr 1;omega,by rw [hsucc];exact hJ3,hnx.trans hk3.1,hk3.2 _ hBx⟩
    case measure=>simp [intOf]
   ·gi_wp2
    refine bodyPost_ret (results_none rfl _ _ _) rfl ?_;exact ⟨⟨_,rfl⟩, .inr ⟨_,⟨k+1,by omega,rfl⟩,by rw [hsucc];exact hJx3⟩⟩
  ·obtain rfl:k=N:=by omega
   gi_wp2
   go_end0
   exact ⟨⟨_,rfl⟩, .inl ⟨_,rfl,hJs⟩⟩
set_option maxRecDepth 100000 in
set_option maxHeartbeats 1000000 in
theorem KA {α:Type} (l Bs:Nat) (a:Option Addr) (cap:Nat) (J:List (Nat×α)→World→Prop) (W:World) (hBs:W.cell? ⟨Bs,0,none⟩=some (.slice a 0 cap)) (h0:J [] W) :
  CallsIn Fence.wide 1000 prog 274 #[.func (.yield l) #[] #[], .pointer (some ⟨Bs,0,none⟩)] W fun e W'=>(∃ v,e = .returned v)∧J [] W':=by
 refine callsIn_of_wp func274 rfl trivial ?_ rfl;simp only [ntmps274,List.size_toArray,List.length_cons,List.length_nil,Nat.reduceAdd,Nat.reduceSub,Array.replicate_succ,Array.replicate_zero,List.push_toArray,List.append_toArray,List.nil_append,List.cons_append]
 gi_wp2
 gi_loopw [3] (fun i wr=>i = .int .i64 (-1)∧J [] wr) (fun _ _=>0)
 case atStart=>exact ⟨rfl,h0⟩
 case round=>
  obtain ⟨rfl,hJs⟩:=hrel
  gi_wp2
  go_end0
  exact ⟨⟨_,rfl⟩,hJs⟩
set_option maxHeartbeats 1000000 in
theorem Ie (n:Nat) (a:Option Addr) (len cap:Nat) (w:World) :
  CallsIn Fence.wide n prog 240 #[.slice a len cap] w fun e w'=>e = .returned (.func (.func 274) #[] #[.pointer (some ⟨w.heap.size,0,none⟩)])∧w'=w.alloc (.cells #[.slice a len cap] 33):=by
 refine callsIn_of_wp func240 rfl trivial ?_ rfl;simp only [ntmps240,List.size_toArray,List.length_cons,List.length_nil,Nat.reduceAdd,Nat.reduceSub,Array.replicate_succ,Array.replicate_zero,List.push_toArray,List.append_toArray,List.nil_append,List.cons_append]
 gi_wp2
 go_ret
 exact ⟨rfl,rfl⟩
def Zb (enc:α→Value) (n₀:Nat) (W:World) (sv:Value) (vs:List α):Prop:=
 ∃ a cap,sv = .slice a vs.length cap∧(vs = []∨∃ b off,a=some ⟨b,off,none⟩∧b<n₀∧∀ j v,vs[j]? = some v→W.cell? ⟨b,off+j,none⟩=some (enc v))
theorem Zb.below {α:Type} {enc:α→Value} {n₀:Nat} {A B:World} (h:Below n₀ A B) {sv:Value} {vs:List α}:Zb enc n₀ A sv vs→Zb enc n₀ B sv vs:=by
 rintro ⟨a,cap,e,rfl | ⟨b,off,rfl,hb,hc⟩⟩
 ·exact ⟨a,cap,e, .inl rfl⟩
 ·exact ⟨_,cap,e, .inr ⟨b,off,rfl,hb,fun j v hj=>(h.cell (p:=⟨b,off+j,none⟩) hb).trans (hc j v hj)⟩⟩
theorem Ac (Bs n₀:Nat) (sv:Value) (vs:List α) (hlen:vs.length<4611686018427387904) (w:World) (hBs:Bs<w.heap.size) (hn₀:n₀≤w.heap.size)
  (hc:w.cell? ⟨Bs,0,none⟩=some sv) (hI:Zb enc n₀ w sv vs) :
  SeqStopsK Fence.wide 1000 prog 274 #[.pointer (some ⟨Bs,0,none⟩)] (fun x:Nat×α=>#[Value.int .i64 (x.1:Int),enc x.2]) (WL n₀ Bs) (fun ys=>ys=bk vs vs.length) (fun pre=>∃ k,k≤vs.length∧pre=bk vs k) vs.length w:=fun l J Jx W hW _ _ hY h0=>by
 have hc':=(hW.cell (p:=⟨Bs,0,none⟩) hBs).trans hc;obtain ⟨a,cap,rfl,rfl | ⟨b,off,rfl,hb,hcs⟩⟩:=hI.below (hW.mono hn₀)
 ·exact (KA (α:=α) l Bs a cap J W hc' h0).mono fun e W' ⟨he,hj⟩=>⟨he, .inl ⟨_,rfl,hj⟩⟩
 ·exact (OG (enc:=enc) l Bs n₀ b off cap vs hlen hb J Jx hY W hc' hcs h0)
theorem Mj {n₀ Bs:Nat} {A B C:World} (h:WL n₀ Bs A B) (k:WL n₀ Bs B C):WL n₀ Bs A C:=⟨h.1.trans k.1,fun v hv=>k.2 v (h.2 v hv)⟩
theorem MD {n₀ Bs:Nat} {w:World} (hn:n₀≤w.heap.size) (hB:Bs<w.heap.size) (W:World) (l:Nat) (o o':Obj) (hl:w.heap.size≤l) (h:W.heap[l]? = some o) (h1:o.isCells=false) (h2:o.isWalk=false):WL n₀ Bs W (W.putObj l o'):=
 ⟨belowK_b hn W l o o' hl h h1 h2,fun v hv=>by
  have e:(W.putObj l o').heap[Bs]? = W.heap[Bs]?:=World.putObj_heap_other (by omega);simp only [World.cell?,e] at hv ⊢;exact hv⟩
end
def wv (pre:List (Nat×Int)):Int:=pre.foldl (fun n x=>IntKind.u64.wrap (IntKind.u64.wrap (n*1000000000)+IntKind.u64.wrap x.2)) 0
theorem Yp (pre:List (Nat×Int)) (x:Nat×Int):wv (pre ++ [x])=IntKind.u64.wrap (IntKind.u64.wrap (wv pre*1000000000)+IntKind.u64.wrap x.2):=by simp [wv]
theorem PL {n:Nat} (hn:n<1000000000000000000):wv (bk ((dg n).map (fun d:Nat=>(d:Int))) (dg n).length)=(n:Int):=by
 have hl:(dg n).length≤2:=CM (by omega);have hv:=gG n;have hd:=kF n;generalize dg n=ds at hl hv hd
 match ds,hl with
 | [],_=>simp [lv,val] at hv;subst hv;simp [bk,wv]
 | [a],_=>
   have ha:=hd a (by simp);simp [lv,val] at hv;simp [bk,wv,List.range_succ];simp only [IntKind.wrap_u64];omega
 | [a,b],_=>
   have ha:=hd a (by simp);have hb:=hd b (by simp);simp [lv,val] at hv;simp [bk,wv,List.range_succ];simp only [IntKind.wrap_u64];omega
theorem Qk {M:Nat→Prop} {w:World} {v:Value} {ds:List Nat} (h:(aH.slice 1 (rT ds)).rep M w v):Zb (fun d:Int=>Value.int .u32 d) w.heap.size w v (ds.map (fun d:Nat=>(d:Int))):=by
 obtain ⟨a,cap,rfl,hc,hm,hel⟩:=h;refine ⟨a,cap,by simp,?_⟩;rcases hel with h | ⟨b,off,cs,T,fz,rfl,hb,hh,hr⟩
 ·left
  have:ds = []:=by cases ds<;>simp_all
  subst this;rfl
 ·refine .inr ⟨b,off,rfl,(Array.getElem?_eq_some_iff.1 hh).1,fun j v hj=>?_⟩;rw [List.getElem?_map] at hj;cases hd:ds[j]? with
  | none=>rw [hd] at hj;simp at hj
  | some d=>
    rw [hd] at hj;simp only [Option.map_some,Option.some.injEq] at hj;subst hj;obtain ⟨_,hrep⟩:=hr j _ (pA hd);rw [Nat.mul_one] at hrep;have hl:=hrep.length
    have hlt:off+j<cs.toList.length:=by
     simp only [List.length_cons,List.length_nil,List.length_take,List.length_drop] at hl;omega
    rw [List.drop_eq_getElem_cons hlt,List.take_succ_cons,List.take_zero] at hrep;have h1:cs.toList[off+j] = .int .u32 d:=hrep.1.1;simp only [World.cell?,hh];rw [Array.getElem_toList] at h1;simp [h1,Array.getElem?_eq_getElem (show off+j<cs.size by simpa using hlt)]
set_option maxRecDepth 100000 in
set_option maxHeartbeats 2000000 in
theorem UP (a:Option Addr) (cap:Nat) (vs:List Int) (hlen:vs.length<4611686018427387904) (w:World) (hI:Zb (fun d:Int=>Value.int .u32 d) w.heap.size w (.slice a vs.length cap) vs) :
  CallsIn Fence.wide 1001 prog 249 #[.agg #[.slice a vs.length cap]] w fun e W'=>e = .returned (.int .u64 (wv (bk vs vs.length)))∧Below w.heap.size w W':=by
 refine callsIn_of_wp_marks func249 rfl trivial ?_ rfl;simp only [ntmps249,List.size_toArray,List.length_cons,List.length_nil,Nat.reduceAdd,Nat.reduceSub,Array.replicate_succ,Array.replicate_zero,List.push_toArray,List.append_toArray,List.nil_append,List.cons_append];generalize hL:vs.length=L at hI hlen ⊢
 gi_wp2_with (refine ⟨trivial,?_⟩;gi_at_call 240;refine (Ie _ _ _ _ _).mono ?_;rintro e w' ⟨rfl,rfl⟩)
 have bN:=Boxed.new (w.alloc (.cells #[.slice a L cap] 35)) 254 (.int .u64 0);have bS:=Boxed.new ((w.alloc (.cells #[.slice a L cap] 35)).alloc (.cells #[.int .u64 0] 254)) 33 (.slice a L cap);simp only [World.size_alloc] at bN bS;have hB0:Below w.heap.size w (((w.alloc (.cells #[.slice a L cap] 35)).alloc (.cells #[.int .u64 0] 254)).alloc (.cells #[.slice a L cap] 33)):=(((Below.refl _ w).alloc (Nat.le_refl _) _).alloc (by simp) _).alloc (by simp;omega) _;obtain ⟨W0,hW0⟩:∃ W0,(((w.alloc (.cells #[.slice a L cap] 35)).alloc (.cells #[.int .u64 0] 254)).alloc (.cells #[.slice a L cap] 33))=W0:=⟨_,rfl⟩
 have hs0:W0.heap.size=w.heap.size+3:=by rw [←hW0];simp
 have bN':=bN.alloc (.cells #[.slice a L cap] 33);rw [hW0] at hB0 bS bN' ⊢
 refine wpIn_rangeFunc_ownF (w0:=W0) rfl (by omega) (gf:=274) (lb:=#[.pointer (some ⟨w.heap.size+1+1,0,none⟩)]) rfl trivial (enters_of func274 (by kernel_rfl) rfl)
  (Ac (enc:=fun d:Int=>Value.int .u32 d) (w.heap.size+1+1) w.heap.size (.slice a L cap) vs (by omega) W0 (by omega) (by omega) bS.cell (hI.below hB0)) Mj (MD (by omega) (by omega)) (Below.refl _ _) (fun _=>rfl)
  (fun pre W=>(W.cell? ⟨w.heap.size+1,0,none⟩=some (.int .u64 (wv pre))∧W.frozen? ⟨w.heap.size+1,0,none⟩=false)∧Below w.heap.size w W)
  (fun _ _ _=>False)
  (OwnFrom.and (Own.from (fun s A B row hs hg hr=>⟨cell_kept hs.1 hg hr,(frozen_kept hs.1 hg hr).trans hs.2⟩) _) (ownFrom_below (Nat.le_refl _) (by omega)))
  (fun _=>by intro s A B row hs;exact hs.elim)
  ⟨⟨bN'.cell,bN'.frozen⟩,hB0⟩
  (fun x=>{ tmps:=#[.agg #[.slice a L cap], .pointer (some ⟨w.heap.size,0,none⟩), .int .u64 0, .pointer (some ⟨w.heap.size+1,0,none⟩),undef, .int .u32 x.2, .pointer (some ⟨w.heap.size,0,none⟩), .slice a L cap, .func (.func 274) #[] #[.pointer (some ⟨w.heap.size+1+1,0,none⟩)], .int .i64 (x.1:Int), .int .u32 x.2,undef,undef,undef,undef,undef,undef],defers:=[] }) ?assign ?body ?done ?stop
 case assign=>
  intro l x W K hK
  gi_wp2
  exact hK
 case body=>
  rintro l pre x W ⟨⟨hcr,hfr⟩,hB⟩ _
  gi_wp2
  refine ⟨KeepsOthers.setCell _ _ _,⟨(Below.refl w.heap.size W).setCell (p:=⟨w.heap.size+1,0,none⟩) (by simp) _,fun v hv=>?_⟩,⟨?_,by rw [World.frozen?_setCell];exact hfr⟩,hB.setCell (p:=⟨w.heap.size+1,0,none⟩) (by simp) _⟩
  ·refine Eq.trans (World.cell?_setCell_other _ _ _ _ ?_) hv;simp
  ·rw [Yp];exact World.cell?_setCell_same' _ _ _ (by rw [hcr];rfl)
 case done=>
  rintro D ys W hD rfl ⟨⟨hcr,hfr⟩,hB⟩ hK
  gi_wp2
  refine ⟨by simp, .inl ⟨_,_,rfl,run_takeDeferred hK,?_⟩⟩;exact ⟨_,results_tmp rfl _ _ _,rfl,hB.trans (belowK_b (w:=w) (Nat.le_refl _) W D _ _ (by omega) hK rfl rfl)⟩
 case stop=>
  rintro D c pre W hD _ h hK;exact h.elim
set_option maxRecDepth 100000 in
theorem TK (n:Nat) (hn:n<1000000000000000000):aM prog 249 [mT n] (.ret [.one (.int .u64 n)]):=by
 refine ⟨bR (by kernel_rfl),fun M w vs hM hv=>?_⟩
 match vs,hv with
 | [v],hv=>
   obtain ⟨⟨us,rfl,hus⟩,_⟩:=hv
   match us,hus with
   | [u],hus=>
     have hsl:=Qk hus.1;obtain ⟨a,cap,rfl,hel⟩:=hsl;have hl:((dg n).map (fun d:Nat=>(d:Int))).length=(dg n).length:=List.length_map _
     have hlen:(dg n).length<4611686018427387904:=by
      have h2:(dg n).length≤2:=CM (by rw [show (1000000000:Nat)^2=1000000000000000000 by decide];exact hn);omega
     have h1:=UP a cap ((dg n).map (fun d:Nat=>(d:Int))) (by rw [hl];exact hlen) w ⟨a,cap,rfl,hel⟩;rw [hl,PL hn] at h1;have h2:Calls prog 249 #[.agg #[.slice a (dg n).length cap]] w _:=(callsIn_wide (n:=1001)).1 h1;rw [hl];show Calls prog 249 #[.agg #[.slice a (dg n).length cap]] w _;refine h2.mono ?_;rintro e w' ⟨rfl,hb⟩;exact ⟨hb,[.int .u64 n],rfl,⟨rfl,rfl⟩,trivial⟩
   | [],hus=>exact hus.elim
   | _::_::_,hus=>exact hus.2.elim
 | [],hv=>exact hv.elim
 | _::_::_,hv=>exact hv.2.elim
end Go.Sy
namespace Go.Sy
open Go Go.Proofs Tryz Ord
def ZV:Tr:=aK 249 [(G1 2)] [none] [22] [35] 254 false (aK 249 [(G1 3)] [none] [24] [35] 254 true (.loop 1 [lV 11 0,lV 12 0] (.need (.prim [(W 14 0),(.one (.c (.k (.int .u64 0))))] none) (.binOp .neq 254 (tT 26) (.const (.int .u64 0)) 254) 4 false (.split (.u 15 0) (bJ .rem 254 29 30 13 0 14 0 254 (.back 1 [lV 14 0,lV 16 0])) (aK 195 [(W 13 0)] [(some 1)] [32] [254] 35 true (.ret [(G1 16)]))))))
def aK5:Tr:=aU .leq 3 14 2 7 0 4 (.split (.u 8 0) (cB 3 0 18 33 (aU .leq 3 19 2 9 0 4 (.split (.u 10 0) ZV (aK 193 [(G1 2),(G1 3)] [(some 1),(some 1)] [35,36] [35,35] 251 false (.back 0 [lV 3 0,lV 12 0,lV 4 0]))))) (aK 193 [(G1 2),(G1 3)] [(some 1),(some 1)] [35,36] [35,35] 251 false (.back 0 [lV 3 0,lV 10 0,lV 4 0])))
def Tc:Tr:=.ret [(G1 2)]
def aP2:Tr:=.loop 0 [lV 0 0,lV 1 0,lN] (aK 179 [(G1 3)] [none] [9] [35] 4 true (.need (.prim [(W 5 0)] none) (.unOp .not 4 (tT 10)) 4 false (.split (.u 6 0) (cB 2 0 13 33 aK5) Tc)))
theorem Qh:aN prog f191 (fun _=>none) [.v (some 1), .v (some 1)]=aP2:=by kernel_rfl
def aT6:Tr:=.split (.u 8 0) (aK 118 [(G1 5),(G1 4)] [(some 1)] [14,15] [35,35] 35 true (aU .gtr 3 17 1 3 0 4 (.split (.u 10 0) (aK 118 [(G1 4),(G1 4)] [(some 1)] [19,20] [35,35] 35 true (aU .quo 3 9 2 3 0 3 (.back 0 [lV 12 0,lV 11 0,lV 9 0]))) (aU .quo 3 9 2 3 0 3 (.back 0 [lV 11 0,lV 4 0,lV 9 0]))))) (aU .gtr 3 17 1 3 0 4 (.split (.u 9 0) (aK 118 [(G1 4),(G1 4)] [(some 1)] [19,20] [35,35] 35 true (aU .quo 3 9 2 3 0 3 (.back 0 [lV 11 0,lV 10 0,lV 5 0]))) (aU .quo 3 9 2 3 0 3 (.back 0 [lV 10 0,lV 4 0,lV 5 0]))))
def aR9:Tr:=.need (.call 195 [(.one (.c (.k (.int .u64 1))))] [(some 1)]) (.call ⟨.value (.func 195),#[(.const (.int .u64 1))],#[254]⟩) 35 true (.loop 0 [lV 1 0,lV 0 0,lV 2 0] (aU .gtr 3 7 0 3 0 4 (.split (.u 6 0) (aU .rem 3 11 2 3 0 3 (aU .eql 3 12 1 7 0 4 aT6)) (.ret [(G1 5)]))))
theorem Vl:aN prog f282 (fun _=>none) [.v (some 1), .v none]=aR9:=by kernel_rfl
def MN:Tr:=.ret [(G2 4)]
def aW0:Tr:=bJ .neq 4 6 8 0 1 1 1 4 (aK 118 [(G1 0),(G1 1)] [(some 1)] [11,13] [35,35] 35 true (aK 155 [(W 2 0),(G1 3)] [(some 2)] [9,14] [4,35] 37 true MN))
theorem aq9:aN prog f116 (fun _=>none) [.v (some 2), .v (some 2)]=aW0:=by kernel_rfl
def KT:Tr:=.ret [(G2 6)]
def aJ3:Tr:=bJ .eql 4 7 9 0 1 1 1 4 (.split (.u 2 0) (aK 196 [(G1 0),(G1 1)] [(some 1)] [14,16] [35,35] 35 true (aK 155 [(W 0 1),(G1 3)] [(some 2)] [12,17] [4,35] 37 true MN)) (aK 119 [(G1 0),(G1 1)] [none] [21,23] [35,35] 3 true (aU .lss 3 24 0 3 0 4 (.split (.u 4 0) (aK 194 [(G1 1),(G1 0)] [(some 1)] [29,31] [35,35] 35 true (aK 155 [(W 1 1),(G1 5)] [(some 2)] [27,32] [4,35] 37 true KT)) (aK 194 [(G1 0),(G1 1)] [(some 1)] [37,39] [35,35] 35 true (aK 155 [(W 0 1),(G1 5)] [(some 2)] [35,40] [4,35] 37 true KT))))))
theorem aj3:aN prog f154 (fun _=>none) [.v (some 2), .v (some 2)]=aJ3:=by kernel_rfl
def aO8:Tr:=aK 179 [(G1 3)] [none] [17] [35] 4 false (.need (.prim [(W 4 0)] none) (.unOp .not 4 (tT 18)) 4 false (.split (.u 5 0) (.need (.call 195 [(.one (.c (.k (.int .u64 1))))] [(some 1)]) (.call ⟨.value (.func 195),#[(.const (.int .u64 1))],#[254]⟩) 35 true (aK 196 [(G1 2),(G1 6)] [(some 1)] [21,22] [35,35] 35 true (aK 155 [(W 0 1),(G1 7)] [(some 2)] [25,26] [4,35] 37 true (.ret [(G2 8)])))) (aK 155 [(W 0 1),(G1 2)] [(some 2)] [25,26] [4,35] 37 true KT)))
def aP0:Tr:=aK 193 [(G1 0),(G1 1)] [(some 1),(some 1)] [9,10] [35,35] 251 false (.split (.u 0 1) aO8 (aK 155 [(W 0 1),(G1 2)] [(some 2)] [25,26] [4,35] 37 true MN))
theorem Uj:aN prog f294 (fun _=>none) [.v (some 2), .v (some 1)]=aP0:=by kernel_rfl
def aH0:Tr:=aU .lss 2 3 0 0 0 4 (.split (.u 1 0) (.need (.prim [(W 0 0)] none) (.convert 2 254 (tT 5)) 254 false (.need (.prim [(W 2 0)] none) (.unOp .neg 254 (tT 6)) 254 false (aK 195 [(W 3 0)] [(some 1)] [7] [254] 35 true (.need (.call 155 [(tF true),(G1 4)] [(some 2)]) (.call ⟨.value (.func 155),#[(.const (.bool true)),(tT 8)],#[4,35]⟩) 37 true (.ret [(G2 5)]))))) (.need (.prim [(W 0 0)] none) (.convert 2 254 (tT 10)) 254 false (aK 195 [(W 2 0)] [(some 1)] [11] [254] 35 true (.need (.call 155 [(tF false),(G1 3)] [(some 2)]) (.call ⟨.value (.func 155),#[(.const (.bool false)),(tT 12)],#[4,35]⟩) 37 true MN))))
theorem Wy:aN prog f158 (fun _=>none) [.v none]=aH0:=by kernel_rfl
theorem fJ {n B:Nat} (h:n<2^B):(dg n).length≤B:=
 CM (Nat.lt_of_lt_of_le h (Nat.pow_le_pow_left (by omega) B))
theorem Nh {n:Nat} (h:(dg n).length≤2):n<1000000000000000000:=by
 have h1:=Fs n;have h2:1000000000^(dg n).length≤1000000000^2:=Nat.pow_le_pow_right (by omega) h;rw [show (1000000000:Nat)^2=1000000000000000000 by decide] at h2;omega
theorem au1 (n:Nat):aM prog 192 [(mT n:aF)] (.ret [.one (.bool (decide (n=1)))]):=by
 refine aD (args:=[.v (some 1)]) (ins:=[.v (mT n)]) (hints:=(fun _=>none)) fo (by kernel_rfl) func192 ⟨rfl,trivial⟩ ?_;rw [ah7];dsimp only [List.map,In.env,aB,aA];refine vn (aP dC (List.length_map _)) rfl ?_;dsimp only [aB,aA];refine vn bL rfl ?_;dsimp only [aB,aA];refine vs _ rfl (fun h2=>?_) (fun h2=>?_)
 ·obtain ⟨d,hd⟩:∃ d,dg n = [d]:=by
   match h:dg n with
   | [d]=>exact ⟨d,rfl⟩
   | []=>rw [h] at h2;simp at h2
   | _::_::_=>rw [h] at h2;simp at h2;omega
  have hv:=gG n;rw [hd] at hv;refine vn (aW dC (by omega) (by omega) (show (dg n)[0]? = some d by rw [hd];rfl)) rfl ?_;dsimp only [aB,aA];refine vn (bF xU) rfl ?_;dsimp only [aB,aA];refine vn bL rfl ?_;dsimp only [aB,aA];refine aL ?_;have hv:d=n:=by simpa [lv,val] using hv
  subst hv;show [aF.one (.bool (decide ((d:Int)=1)))]=_;have e:((d:Int)=1)↔d=1:=by omega
  simp only [e]
 refine aL ?_
 have:¬ n=1:=fun e=>by
  subst e;rw [oW (by omega) (by omega)] at h2;exact h2 rfl
 simp [this];rfl
set_option maxHeartbeats 1000000 in
theorem QG (a b:Nat) (hs:(dg (max a b)).length<137438953472):aM prog 191 [(mT a:aF),(mT b:aF)] (.ret [mT (Nat.gcd a b)]):=by
 refine aD (args:=[.v (some 1), .v (some 1)]) (ins:=[.v (mT a), .v (mT b)]) (hints:=(fun _=>none)) fo (by kernel_rfl) func191 ⟨rfl,rfl,trivial⟩ ?_;rw [Qh];dsimp only [List.map,In.env,aB,aA];refine bC {p:Nat×Nat // Nat.gcd p.1 p.2=Nat.gcd a b∧p.1≤max a b∧p.2≤max a b} (fun p=>[.one (dT p.1.1), .one (dT p.1.2), .one (.exact (.slice none 0 0))]) (fun p=>p.1.2) ⟨(a,b),rfl,by omega,by omega⟩ aO.rfl (fun _=>rfl) ?_;rintro ⟨⟨x,y⟩,hg,hx,hy⟩;dsimp only [aB,aA] at hg hx hy ⊢;have hxl:=kW hx;have hyl:=kW hy;refine aC (zQ y) rfl ?_;dsimp only [aB,aA];refine vn BF rfl ?_;dsimp only [aB,aA];refine vs _ rfl (fun h3=>?_) (fun h3=>?_)
 ·have hy0:0<y:=by omega
  refine vn (aP dC (List.length_map _)) rfl ?_;dsimp only [aB,aA];refine vn fV rfl ?_;dsimp only [aB,aA];refine vs _ rfl (fun h6=>?_) (fun h6=>?_)
  ·refine vn (aP dC (List.length_map _)) rfl ?_;dsimp only [aB,aA];refine vn fV rfl ?_;dsimp only [aB,aA];refine vs _ rfl (fun h9=>?_) (fun h9=>?_)
   ·refine aC (TK x (Nh (by omega))) rfl ?_;dsimp only [aB,aA];refine aC (TK y (Nh (by omega))) rfl ?_;dsimp only [aB,aA];have hx18:=Nh (n:=x) (by omega);have hy18:=Nh (n:=y) (by omega);clear hxl hyl;refine bC {p:Nat×Nat // Nat.gcd p.1 p.2=Nat.gcd a b∧p.1<1000000000000000000∧p.2<1000000000000000000} (fun p=>[.one (.int .u64 p.1.1), .one (.int .u64 p.1.2)]) (fun p=>p.1.2) ⟨(x,y),hg,hx18,hy18⟩ aO.rfl (fun _=>rfl) ?_;rintro ⟨⟨p,q⟩,hpq,hp,hq⟩;dsimp only [aB,aA] at hpq hp hq ⊢;refine vn gO rfl ?_;dsimp only [aB,aA];refine vs _ rfl (fun h14=>?_) (fun h14=>?_)
    ·refine vn (Cw (c:=((p%q:Nat):Int)) (by omega) (by rw [Int.tmod_eq_emod_of_nonneg (oL _),←Int.natCast_emod])) rfl ?_;dsimp only [aB,aA];exact aR rfl ⟨⟨(q,p%q),by rw [←hpq,Nat.gcd_comm p q,Nat.gcd_rec q p,Nat.gcd_comm],hq,Nat.lt_of_le_of_lt (Nat.mod_le _ _) hp⟩,aO.rfl,Nat.mod_lt _ (by omega)⟩
    have hq0:q=0:=by omega
    subst hq0;rw [Nat.gcd_zero_right] at hpq;refine aC (iE p (by omega)) rfl ?_;dsimp only [aB,aA];rw [hpq];exact aL rfl
   refine aC (BL x y hy0 (by omega)) rfl ?_;dsimp only [aB,aA];exact aR rfl ⟨⟨(y,x%y),by rw [←hg,Nat.gcd_comm x y,Nat.gcd_rec y x,Nat.gcd_comm],hy,Nat.le_trans (Nat.mod_le _ _) hx⟩,aO.rfl,Nat.mod_lt _ hy0⟩
  refine aC (BL x y hy0 (by omega)) rfl ?_;dsimp only [aB,aA];exact aR rfl ⟨⟨(y,x%y),by rw [←hg,Nat.gcd_comm x y,Nat.gcd_rec y x,Nat.gcd_comm],hy,Nat.le_trans (Nat.mod_le _ _) hx⟩,aO.rfl,Nat.mod_lt _ hy0⟩
 have hy0:y=0:=by omega
 subst hy0;rw [Nat.gcd_zero_right] at hg;rw [hg];exact aL rfl
theorem HM {a B n:Nat} (h:a<2^B) (hB:1≤B):a^n<2^(B*n+1):=by
 rw [Nat.pow_succ,Nat.pow_mul];have h1:a^n≤(2^B)^n:=Nat.pow_le_pow_left (Nat.le_of_lt h) n;have h2:0<(2^B)^n:=Nat.pow_pos (Nat.pow_pos (by omega));omega
structure FK (a n:Nat) (k x y:Nat):Prop where
 eq:y*x^k=a^n
 z:a=0→x=0
 x1:k≠0→x≤max 1 (a^n)
 y1:y≤max 1 (a^n)
theorem FK.mk' {a n k x y:Nat} (hn:n≠0) (eq:y*x^k=a^n) (z:a=0→x=0) (hy:x=0→y≤1):FK a n k x y:=by
 have hk:∀ t,0<t→t≤x→0<x^k:=fun t h1 h2=>Nat.pow_pos (by omega);refine ⟨eq,z,fun h0=>?_,?_⟩
 ·rcases Nat.eq_zero_or_pos x with hx | hx
  ·omega
  ·rcases Nat.eq_zero_or_pos y with hy0 | hy0
   ·rw [hy0,Nat.zero_mul] at eq;have:=z (Nat.eq_zero_of_not_pos fun ha=>by have:=Nat.pow_pos (n:=n) ha;omega);omega
   ·have h1:x≤x^k:=Nat.le_self_pow h0 x;have h2:x^k≤y*x^k:=Nat.le_mul_of_pos_left _ hy0;omega
 ·rcases Nat.eq_zero_or_pos x with hx | hx
  ·have:=hy hx;omega
  ·have h2:y≤y*x^k:=Nat.le_mul_of_pos_right _ (Nat.pow_pos hx);omega
set_option maxHeartbeats 1000000 in
theorem Mf (a n:Nat) (B:Nat) (hB:1≤B) (ha:a<2^B) (hn:n<1099511627776) (hs:B*n<137438953472):aM prog 282 [(mT a:aF),(.one (.int .i64 n):aF)] (.ret [mT (a^n)]):=by
 refine aD (args:=[.v (some 1), .v none]) (ins:=[.v (mT a), .v (.one (.int .i64 n))]) (hints:=(fun _=>none)) fo (by kernel_rfl) func282 ⟨rfl,rfl,trivial⟩ ?_;rw [Vl];dsimp only [List.map,In.env,aB,aA]
 have hbd:∀ j,j≤max 1 (a^n)→(dg j).length≤B*n+1:=fun j hj=>fJ (by
  have h1:=HM (n:=n) ha hB;have h2:2^1≤2^(B*n+1):=Nat.pow_le_pow_right (by omega) (by omega);omega)
 refine aC (iE 1 (by omega)) rfl ?_;dsimp only [aB,aA];refine bC {p:Nat×Nat×Nat // FK a n p.1 p.2.1 p.2.2∧(p.1≠0→n≠0)∧(p.2.1=0→p.2.2≤1)∧p.1≤n} (fun p=>[.one (.int .i64 p.1.1), .one (dT p.1.2.1), .one (dT p.1.2.2)]) (fun p=>p.1.1) ⟨(n,a,1),⟨by simp,fun h=>h,fun h=>by have:=Nat.le_self_pow h a;show a≤max 1 (a^n);exact Nat.le_trans this (Nat.le_max_right _ _),Nat.le_max_left _ _⟩,fun h=>h,fun _=>Nat.le_refl _,Nat.le_refl _⟩ aO.rfl (fun _=>rfl) ?_;rintro ⟨⟨k,x,y⟩,hI,hn0,hy1,hkn⟩;dsimp only [aB,aA] at hI hn0 hy1 hkn ⊢;have hyl:=hbd y hI.y1;refine vn dB rfl ?_;dsimp only [aB,aA];refine vs _ rfl (fun h3=>?_) (fun h3=>?_)
 ·have hk0:k≠0:=by omega
  have hnn:=hn0 hk0;have hxl:=hbd x (hI.x1 hk0)
  have hev:k%2=0→y*(x*x)^(k/2)=a^n:=fun h=>by
   rw [←hI.eq,←Nat.pow_two,←Nat.pow_mul];congr 2;omega
  have hod:k%2=1→y*x*(x*x)^(k/2)=a^n:=fun h=>by
   rw [←hI.eq,←Nat.pow_two,←Nat.pow_mul,Nat.mul_assoc,←Nat.pow_succ'];congr 2;omega
  have hz2:a=0→x*x=0:=fun h=>by rw [hI.z h]
  have hx2:x*x=0→x=0:=fun h=>by rcases Nat.mul_eq_zero.1 h with h | h<;>exact h
  have hyx2:x=0→y*x≤1:=fun h=>by rw [h];omega
  refine vn (fL (by omega) (by omega)) rfl ?_;dsimp only [aB,aA];refine vn bL rfl ?_;dsimp only [aB,aA];refine vs _ rfl (fun h6=>?_) (fun h6=>?_)
  ·refine aC (jK y x (by omega)) rfl ?_;dsimp only [aB,aA];refine vn dB rfl ?_;dsimp only [aB,aA];refine vs _ rfl (fun h9=>?_) (fun h9=>?_)
   ·refine aC (jK x x (by omega)) rfl ?_;dsimp only [aB,aA];refine vn (gM (by omega) (by omega) (by omega)) rfl ?_;dsimp only [aB,aA];exact aR rfl ⟨⟨(k/2,x*x,y*x),FK.mk' hnn (hod (by omega)) hz2 (hyx2 ∘ hx2),fun _=>hnn,hyx2 ∘ hx2,by show k/2≤n;omega⟩,aO.rfl,by show k/2<k;omega⟩
   refine vn (gM (by omega) (by omega) (by omega)) rfl ?_;dsimp only [aB,aA];have hk1:k=1:=by omega
   subst hk1;exact aR rfl ⟨⟨(1/2,x,y*x),FK.mk' hnn (by have:=hI.eq;rw [Nat.pow_one] at this;simpa using this) hI.z hyx2,fun _=>hnn,hyx2,by show 1/2≤n;omega⟩,aO.rfl,by show 1/2<1;omega⟩
  refine vn dB rfl ?_;dsimp only [aB,aA];refine vs _ rfl (fun h16=>?_) (fun h16=>?_)
  ·refine aC (jK x x (by omega)) rfl ?_;dsimp only [aB,aA];refine vn (gM (by omega) (by omega) (by omega)) rfl ?_;dsimp only [aB,aA];exact aR rfl ⟨⟨(k/2,x*x,y),FK.mk' hnn (hev (by omega)) hz2 (fun h=>hy1 (hx2 h)),fun _=>hnn,fun h=>hy1 (hx2 h),by show k/2≤n;omega⟩,aO.rfl,by show k/2<k;omega⟩
  exfalso;omega
 have hk0:k=0:=by omega
 subst hk0;have:=hI.eq;rw [Nat.pow_zero,Nat.mul_one] at this;rw [this];exact aL rfl
open Go Go.Proofs Tryz Ord
def aF1:Tr:=.split (.u 4 0) (aK 193 [(G1 0),(G1 2)] [(some 1),(some 1)] [15,16] [35,35] 251 false (aK 193 [(G1 1),(G1 2)] [(some 1),(some 1)] [22,23] [35,35] 251 false (aK 155 [(W 0 1),(G1 5)] [(some 2)] [28,30] [4,35] 37 false (.need (.call 195 [(.one (.c (.k (.int .u64 1))))] [(some 1)]) (.call ⟨.value (.func 195),#[(.const (.int .u64 1))],#[254]⟩) 35 false (aK 194 [(G1 7),(G1 10)] [(some 1)] [32,33] [35,35] 35 true (.ret [(.agg [(U 9 0),(U 9 1),(U 11 0)])])))))) (aK 155 [(W 0 1),(G1 0)] [(some 2)] [28,30] [4,35] 37 false (.need (.call 195 [(.one (.c (.k (.int .u64 1))))] [(some 1)]) (.call ⟨.value (.func 195),#[(.const (.int .u64 1))],#[254]⟩) 35 false (aK 194 [(G1 1),(G1 6)] [(some 1)] [32,33] [35,35] 35 true (.ret [(.agg [(U 5 0),(U 5 1),(U 7 0)])]))))
def aV8:Tr:=aK 191 [(G1 0),(G1 1)] [(some 1)] [7,8] [35,35] 35 true (aK 192 [(G1 2)] [none] [10] [35] 4 true (.need (.prim [(W 3 0)] none) (.unOp .not 4 (tT 11)) 4 false aF1))
theorem Xp:aN prog f115 (fun _=>none) [.v (some 2), .v (some 1)]=aV8:=by kernel_rfl
def aG0:Tr:=.need (.call 195 [(.one (.c (.k (.int .u64 1))))] [(some 1)]) (.call ⟨.value (.func 195),#[(.const (.int .u64 1))],#[254]⟩) 35 true (aK 196 [(.agg [(U 0 2)]),(G1 1)] [(some 1)] [4,5] [35,35] 35 true Tc)
theorem NR:aN prog f117 (fun _=>none) [.v (some 3)]=aG0:=by kernel_rfl
def aC4:Tr:=.ret [(.agg [(U 0 0),(U 0 1),tN])]
theorem Vx:aN prog f157 (fun _=>none) [.v (some 2)]=aC4:=by kernel_rfl
def aD0:Tr:=aK 158 [(W 0 0)] [(some 2)] [3] [2] 37 true (aK 157 [(G2 1)] [(some 3)] [4] [37] 39 true (.ret [(G3 2)]))
theorem aM4:aN prog f68 (fun _=>none) [.v none]=aD0:=by kernel_rfl
def aM9:Tr:=.need (.prim [(W 0 0),(W 1 0)] none) (.call ⟨.builtin .min,#[(tT 5),(tT 6)],#[3,3]⟩) 3 false (.need (.prim [(WK 0),(W 2 0)] none) (.call ⟨.builtin .max,#[(.const (I3 0)),(tT 7)],#[3,3]⟩) 3 false (.ret [(W 3 0)]))
theorem RM:aN prog f283 (fun _=>none) [.v none, .v none]=aM9:=by kernel_rfl
def aD7:Tr:=aK 114 [(G2 0)] [none] [4] [37] 3 true (.ret [(W 1 0)])
theorem VT:aN prog f35 (fun _=>none) [.v (some 3)]=aD7:=by kernel_rfl
def aK7:Tr:=.need (.prim [(W 0 1)] none) (.unOp .not 4 (tT 5)) 4 false (aK 155 [(W 1 0),(G1 0)] [(some 2)] [6,9] [4,35] 37 false (.ret [(.agg [(U 2 0),(U 2 1),(U 0 2)])]))
theorem am7:aN prog f65 (fun _=>none) [.v (some 3)]=aK7:=by kernel_rfl
def aO1:Tr:=.need (.call 155 [(tF false),(G1 0)] [(some 2)]) (.call ⟨.value (.func 155),#[(.const (.bool false)),(tT 5)],#[4,35]⟩) 37 false (.ret [(.agg [(U 1 0),(U 1 1),(U 0 2)])])
theorem ah0:aN prog f146 (fun _=>none) [.v (some 3)]=aO1:=by kernel_rfl
def aS4:Tr:=aK 117 [(G3 1)] [(some 1)] [9] [39] 35 true (aK 116 [(G2 0),(.agg [(U 3 0),(tE (.bool false))])] [(some 2)] [12,14] [37,37] 37 false (aK 116 [(G2 1),(.agg [(U 2 0),(tE (.bool false))])] [(some 2)] [17,19] [37,37] 37 false (aK 154 [(G2 4),(G2 5)] [(some 2)] [15,20] [37,37] 37 false (aK 118 [(G1 2),(G1 3)] [(some 1)] [22,23] [35,35] 35 true (aK 115 [(G2 6),(G1 7)] [(some 3)] [21,24] [37,35] 39 true (.ret [(G3 8)]))))))
def aF8:Tr:=aK 117 [(G3 0)] [(some 1)] [7] [39] 35 false aS4
theorem an3:aN prog f64 (fun _=>none) [.v (some 3), .v (some 3)]=aF8:=by kernel_rfl
def aH3:Tr:=aK 65 [(G3 1)] [(some 3)] [6] [39] 39 true (aK 64 [(G3 0),(G3 2)] [(some 3)] [5,7] [39,39] 39 true (.ret [(G3 3)]))
theorem ad9:aN prog f167 (fun _=>none) [.v (some 3), .v (some 3)]=aH3:=by kernel_rfl
def aL5:Tr:=aK 116 [(G2 0),(G2 1)] [(some 2)] [6,8] [37,37] 37 false (aK 117 [(G3 0)] [(some 1)] [10] [39] 35 false (aK 117 [(G3 1)] [(some 1)] [12] [39] 35 false (aK 118 [(G1 3),(G1 4)] [(some 1)] [11,13] [35,35] 35 true (aK 115 [(G2 2),(G1 5)] [(some 3)] [9,14] [37,35] 39 true (.ret [(G3 6)])))))
theorem ah8:aN prog f36 (fun _=>none) [.v (some 3), .v (some 3)]=aL5:=by kernel_rfl
def aH8:Tr:=aK 117 [(G3 1)] [(some 1)] [10] [39] 35 false (aK 155 [(W 1 1),(G1 2)] [(some 2)] [9,11] [4,35] 37 false (aK 116 [(G2 0),(G2 3)] [(some 2)] [6,12] [37,37] 37 false (aK 117 [(G3 0)] [(some 1)] [14] [39] 35 false (aK 118 [(G1 5),(G1 1)] [(some 1)] [15,18] [35,35] 35 true (aK 115 [(G2 4),(G1 6)] [(some 3)] [13,19] [37,35] 39 true (.ret [(G3 7)]))))))
theorem UC:aN prog f255 (fun _=>none) [.v (some 3), .v (some 3)]=aH8:=by kernel_rfl
def aE3:Tr:=aK 35 [(G3 1)] [none] [6] [39] 3 true (aU .eql 3 7 0 2 0 4 (.split (.u 3 0) (.ret [(.agg [tN,(tE (.bool false)),tN]),(WK 9)]) (aK 255 [(G3 0),(G3 1)] [(some 3)] [10,11] [39,39] 39 true (.ret [(G3 4),(WK 0)]))))
theorem ag7:aN prog f200 (fun _=>none) [.v (some 3), .v (some 3)]=aE3:=by kernel_rfl
def aK1:Tr:=aK 68 [(W 0 0)] [(some 3)] [6] [2] 39 false (aK 68 [(W 1 0)] [(some 3)] [8] [2] 39 false (aK 200 [(G3 2),(G3 3)] [(some 3),none] [7,9] [39,39] 90 true (.ret [(G3 4),(W 5 0)])))
theorem aZ3:aN prog f120 (fun _=>none) [.v none, .v none]=aK1:=by kernel_rfl
def ar0:Tr:=aK 117 [(G3 1)] [(some 1)] [31] [39] 35 false (aK 118 [(G1 0),(G1 7)] [(some 1)] [30,32] [35,35] 35 false (aK 117 [(G3 0)] [(some 1)] [37] [39] 35 false (aK 118 [(G1 1),(G1 9)] [(some 1)] [36,38] [35,35] 35 false (aK 119 [(G1 8),(G1 10)] [none] [33,39] [35,35] 3 true (bJ .mul 3 27 40 6 0 11 0 3 (.ret [(W 12 0)]))))))
def aC1:Tr:=aU .eql 3 15 0 2 0 4 (.split (.u 5 0) (bJ .sub 3 18 19 2 0 3 0 3 (bJ .sub 3 21 22 2 0 3 0 3 (aU .quo 3 23 2 7 0 3 (bJ .sub 3 20 24 6 0 8 0 3 (.ret [(W 9 0)]))))) (aK 35 [(G3 0)] [none] [26] [39] 3 false ar0))
def aM8:Tr:=bJ .neq 3 11 12 2 0 3 0 4 (.split (.u 4 0) (bJ .sub 3 18 19 2 0 3 0 3 (bJ .sub 3 21 22 2 0 3 0 3 (aU .quo 3 23 2 6 0 3 (bJ .sub 3 20 24 5 0 7 0 3 (.ret [(W 8 0)]))))) aC1)
def aQ5:Tr:=aK 35 [(G3 0)] [none] [7] [39] 3 false (aK 35 [(G3 1)] [none] [9] [39] 3 true aM8)
theorem al8:aN prog f38 (fun _=>none) [.v (some 3), .v (some 3)]=aQ5:=by kernel_rfl
theorem Gz (x y:Int) (hs:(dg x.natAbs).length+(dg y.natAbs).length<1099511627776):aM prog 116 [(iT x:aF),(iT y:aF)] (.ret [iT (x*y)]):=by
 refine aD (args:=[.v (some 2), .v (some 2)]) (ins:=[.v (iT x), .v (iT y)]) (hints:=(fun _=>none)) fo (by kernel_rfl) func116 ⟨rfl,rfl,trivial⟩ ?_;rw [aq9];dsimp only [List.map,In.env,aB,aA];refine vn (ar6 un4) rfl ?_;dsimp only [aB,aA];refine aC (jK _ _ hs) rfl ?_;dsimp only [aB,aA]
 refine aC (eM _ _ (x*y) (by
  rw [←Int.natAbs_mul];have hsg:(x*y).natAbs=x.natAbs*y.natAbs:=Int.natAbs_mul _ _;by_cases h1:x<0<;>by_cases h2:y<0<;>simp only [h1,h2,decide_true,decide_false,ne_eq,not_true_eq_false,not_false_eq_true,Bool.true_eq_false,Bool.false_eq_true,if_true,if_false]
  ·have:=Int.mul_pos_of_neg_of_neg h1 h2;omega
  ·have:=Int.mul_nonpos_of_nonpos_of_nonneg (Int.le_of_lt h1) (Int.not_lt.1 h2);omega
  ·have:=Int.mul_nonpos_of_nonneg_of_nonpos (Int.not_lt.1 h1) (Int.le_of_lt h2);omega
  ·have:=Int.mul_nonneg (Int.not_lt.1 h1) (Int.not_lt.1 h2);omega)) rfl ?_
 exact aL rfl
theorem aj7 (x y:Int) (hs:(dg x.natAbs).length+(dg y.natAbs).length<1099511627776):aM prog 154 [(iT x:aF),(iT y:aF)] (.ret [iT (x+y)]):=by
 refine aD (args:=[.v (some 2), .v (some 2)]) (ins:=[.v (iT x), .v (iT y)]) (hints:=(fun _=>none)) fo (by kernel_rfl) func154 ⟨rfl,rfl,trivial⟩ ?_;rw [aj3];dsimp only [List.map,In.env,aB,aA];refine vn (az5 un4) rfl ?_;dsimp only [aB,aA];refine vs _ rfl (fun h1=>?_) (fun h1=>?_)
 ·have h1:x<0↔y<0:=by simpa using h1
  refine aC (Le _ _ hs) rfl ?_;dsimp only [aB,aA];refine aC (eM _ _ (x+y) (by by_cases h2:x<0<;>simp only [h2,decide_true,decide_false,Bool.false_eq_true,if_true,if_false]<;>omega)) rfl ?_;exact aL rfl
 have h1:¬ (x<0↔y<0):=by simpa using h1
 refine aC (tQ _ _ hs) rfl ?_;dsimp only [aB,aA];refine vn bB rfl ?_;dsimp only [aB,aA];rw [show decide (eE (x.natAbs:Int) (y.natAbs:Int)<0)=decide (x.natAbs<y.natAbs) by rw [decide_eq_decide,sO];omega];refine vs _ rfl (fun h7=>?_) (fun h7=>?_)
 ·refine aC (GW _ _ (by omega) (by omega) (by omega)) rfl ?_;dsimp only [aB,aA];refine aC (eM _ _ (x+y) (by by_cases h2:y<0<;>simp only [h2,decide_true,decide_false,Bool.false_eq_true,if_true,if_false]<;>omega)) rfl ?_;exact aL rfl
 refine aC (GW _ _ (by omega) (by omega) (by omega)) rfl ?_;dsimp only [aB,aA];refine aC (eM _ _ (x+y) (by by_cases h2:x<0<;>simp only [h2,decide_true,decide_false,Bool.false_eq_true,if_true,if_false]<;>omega)) rfl ?_;exact aL rfl
theorem sD (x:Int) (d:Nat) (hd:0<d):x/(d:Int)=if x<0 then (if x.natAbs%d=0 then -((x.natAbs/d:Nat):Int) else -((x.natAbs/d+1:Nat):Int)) else ((x.natAbs/d:Nat):Int):=by
 by_cases h:x<0
 ·rw [if_pos h];have hx:x = -(x.natAbs:Int):=by omega
  generalize x.natAbs=n at hx;subst hx;have h1:=Nat.div_add_mod n d;split
  ·rename_i h0;have:(n:Int)=(d:Int)*((n/d:Nat):Int):=by rw [←Int.natCast_mul];omega
   conv=>lhs;rw [this]
   rw [←Int.mul_neg,Int.mul_ediv_cancel_left _ (by omega)]
  ·rename_i h0;have h2:=Nat.mod_lt n hd;rw [Int.ediv_eq_iff_of_pos (by omega)];have e1:((n:Nat):Int)=(d:Int)*((n/d:Nat):Int)+((n%d:Nat):Int):=by rw [←Int.natCast_mul];omega
   generalize n/d=q at *;generalize n%d=r at *
   constructor
   ·rw [e1];simp only [Int.natCast_add,Int.mul_add,Int.neg_add,Int.add_mul,Int.neg_mul,Int.natCast_one,Int.one_mul];rw [Int.mul_comm (q:Int)];omega
   ·rw [e1];simp only [Int.natCast_add,Int.mul_add,Int.neg_add,Int.add_mul,Int.neg_mul,Int.natCast_one,Int.one_mul];rw [Int.mul_comm (q:Int)];omega
 ·rw [if_neg h,Int.natCast_ediv]
  congr 1;omega
theorem Ry (x:Int) (d:Nat) (hd:0<d) (hs:(dg x.natAbs).length+(dg d).length<274877906944):aM prog 294 [(iT x:aF),(mT d:aF)] (.ret [iT (x/(d:Int))]):=by
 refine aD (args:=[.v (some 2), .v (some 1)]) (ins:=[.v (iT x), .v (mT d)]) (hints:=(fun _=>none)) fo (by kernel_rfl) func294 ⟨rfl,rfl,trivial⟩ ?_;rw [Uj];dsimp only [List.map,In.env,aB,aA];have hle:=kW (Nat.div_le_self x.natAbs d);refine aC (BL _ _ hd (by omega)) rfl ?_;dsimp only [aB,aA];refine vs _ rfl (fun h1=>?_) (fun h1=>?_)
 ·refine aC (zQ _) rfl ?_;dsimp only [aB,aA];refine vn BF rfl ?_;dsimp only [aB,aA];refine vs _ rfl (fun h4=>?_) (fun h4=>?_)
  ·refine aC (iE 1 (by omega)) rfl ?_;dsimp only [aB,aA];refine aC (Le _ _ (by rw [oW (n:=1) (by omega) (by omega)];simp;omega)) rfl ?_;dsimp only [aB,aA];refine aC (eM _ _ (x/(d:Int)) (by rw [sD x d hd,if_pos h1,if_neg h4,decide_eq_true h1,if_pos rfl])) rfl ?_;exact aL rfl
  refine aC (eM _ _ (x/(d:Int)) (by rw [sD x d hd,if_pos h1,if_pos (by simpa using h4),decide_eq_true h1,if_pos rfl])) rfl ?_;exact aL rfl
 refine aC (eM _ _ (x/(d:Int)) (by rw [sD x d hd,if_neg h1,decide_eq_false h1,if_neg (by simp)])) rfl ?_;exact aL rfl
theorem GY (n:Int) (h1:-9223372036854775808≤n) (h2:n<9223372036854775808):aM prog 158 [(.one (.int .i64 n):aF)] (.ret [iT n]):=by
 refine aD (args:=[.v none]) (ins:=[.v (.one (.int .i64 n))]) (hints:=(fun _=>none)) fo (by kernel_rfl) func158 ⟨rfl,trivial⟩ ?_;rw [Wy];dsimp only [List.map,In.env,aB,aA];refine vn bB rfl ?_;dsimp only [aB,aA];refine vs _ rfl (fun h1=>?_) (fun h1=>?_)
 ·refine vn (iG ⟨_,Up⟩ hU (c:=n+18446744073709551616) (by rw [IntKind.wrap_u64];omega)) rfl ?_;dsimp only [aB,aA];refine vn (YN (c:=((n.natAbs:Nat):Int)) (by rw [IntKind.wrap_u64];omega)) rfl ?_;dsimp only [aB,aA];refine aC (iE _ (by omega)) rfl ?_;dsimp only [aB,aA];refine aC (eM true _ n (by rw [if_pos rfl];omega)) rfl ?_;exact aL rfl
 refine vn (iG ⟨_,Up⟩ hU (c:=((n.natAbs:Nat):Int)) (by rw [IntKind.wrap_u64];omega)) rfl ?_;dsimp only [aB,aA];refine aC (iE _ (by omega)) rfl ?_;dsimp only [aB,aA];refine aC (eM false _ n (by rw [if_neg (by simp)];omega)) rfl ?_;exact aL rfl
abbrev qC (q:Rat):List aH:=[dT q.num.natAbs, .bool (decide (q.num<0)),dT (q.den-1)]
abbrev qT (q:Rat):aF:=.agg (qC q)
theorem iZ:aY aH.Sub [.exact (.slice none 0 0), .bool false, .exact (.slice none 0 0)] (qC 0):=⟨jI rfl,aH.Sub.same,jI rfl,trivial⟩
theorem Pf {z:Int} {d:Nat} (hd:d≠0):(mkRat z d).num=(if decide (z<0)=true then -((z.natAbs/z.natAbs.gcd d:Nat):Int) else ((z.natAbs/z.natAbs.gcd d:Nat):Int))∧(mkRat z d).den=d/z.natAbs.gcd d:=by
 rw [←Rat.normalize_eq_mkRat hd,Rat.normalize_eq hd];refine ⟨?_,rfl⟩;show z/_=_;have hg:0<z.natAbs.gcd d:=Nat.gcd_pos_of_pos_right _ (by omega);have hdv:(((z.natAbs.gcd d:Nat)):Int)∣z:=Int.ofNat_dvd_left.2 (Nat.gcd_dvd_left _ _);have h1:=Int.natAbs_ediv_of_dvd hdv;rw [Int.natAbs_natCast] at h1;by_cases h:z<0
 ·rw [decide_eq_true h,if_pos rfl,←h1];have:=Int.ediv_neg_of_neg_of_pos h (b:=((z.natAbs.gcd d:Nat):Int)) (by omega);omega
 ·rw [decide_eq_false h,if_neg (by simp),←h1];have:=Int.ediv_nonneg (Int.not_lt.1 h) (b:=((z.natAbs.gcd d:Nat):Int)) (by omega);omega
theorem vZ (z:Int) (d:Nat) (hd:0<d) (hs:(dg z.natAbs).length+(dg d).length<137438953472):aM prog 115 [(iT z:aF),(mT d:aF)] (.ret [qT (mkRat z d)]):=by
 refine aD (args:=[.v (some 2), .v (some 1)]) (ins:=[.v (iT z), .v (mT d)]) (hints:=(fun _=>none)) fo (by kernel_rfl) func115 ⟨rfl,rfl,trivial⟩ ?_;rw [Xp];dsimp only [List.map,In.env,aB,aA];have hg:0<z.natAbs.gcd d:=Nat.gcd_pos_of_pos_right _ hd;have hgd:z.natAbs.gcd d≤d:=Nat.gcd_le_right _ hd;have hgl:=kW hgd;obtain ⟨hm1,hm2⟩:=Pf (z:=z) (d:=d) (by omega);have hq:0<d/z.natAbs.gcd d:=Nat.div_pos hgd hg;have hql:=kW (Nat.div_le_self d (z.natAbs.gcd d));have hone:(dg 1).length=1:=by rw [oW (by omega) (by omega)];rfl
 generalize hG:z.natAbs.gcd d=g at *
 refine aC (QG _ _ (by
  rcases Nat.le_total z.natAbs d with h | h
  ·rw [Nat.max_eq_right h];omega
  ·rw [Nat.max_eq_left h];omega)) rfl ?_
 rw [hG];dsimp only [aB,aA];refine aC (au1 _) rfl ?_;dsimp only [aB,aA];refine vn BF rfl ?_;dsimp only [aB,aA];refine vs _ rfl (fun h3=>?_) (fun h3=>?_)
 ·refine aC (BL _ _ hg (by omega)) rfl ?_;dsimp only [aB,aA];refine aC (BL _ _ hg (by omega)) rfl ?_;dsimp only [aB,aA];refine aC (eM _ _ (mkRat z d).num hm1) rfl ?_;dsimp only [aB,aA];refine aC (iE 1 (by omega)) rfl ?_;dsimp only [aB,aA];refine aC (GW _ _ hq hq (by omega)) rfl ?_;rw [←hm2];exact aL rfl
 have hg1:g=1:=by simpa using h3
 subst hg1;rw [Nat.div_one] at hm1 hm2;refine aC (eM _ _ (mkRat z d).num hm1) rfl ?_;dsimp only [aB,aA];refine aC (iE 1 (by omega)) rfl ?_;dsimp only [aB,aA];refine aC (GW _ _ hd hd (by omega)) rfl ?_;dsimp only [aB,aA];refine aL ?_;show [aF.agg [dT _, .bool _,dT (d-1)]] = [aF.agg [_,_,dT ((mkRat z d).den-1)]];rw [hm2]
theorem fD (q:Rat) (h:(dg q.den).length<1099511627775):aM prog 117 [(qT q:aF)] (.ret [mT q.den]):=by
 refine aD (args:=[.v (some 3)]) (ins:=[.v (qT q)]) (hints:=(fun _=>none)) fo (by kernel_rfl) func117 ⟨rfl,trivial⟩ ?_;rw [NR];dsimp only [List.map,In.env,aB,aA];have hp:=q.den_pos;have hl:=kW (Nat.sub_le q.den 1);have hone:(dg 1).length=1:=by rw [oW (by omega) (by omega)];rfl
 refine aC (iE 1 (by omega)) rfl ?_;dsimp only [aB,aA];refine aC (Le _ _ (by omega)) rfl ?_;rw [show q.den-1+1=q.den by omega];exact aL rfl
theorem GL (z:Int):aM prog 157 [(iT z:aF)] (.ret [qT (z:Rat)]):=by
 refine aD (args:=[.v (some 2)]) (ins:=[.v (iT z)]) (hints:=(fun _=>none)) fo (by kernel_rfl) func157 ⟨rfl,trivial⟩ ?_;rw [Vx];dsimp only [List.map,In.env,aB,aA];exact eG ⟨⟨aH.Sub.same,aH.Sub.same,jI rfl,trivial⟩,trivial⟩
theorem jP (n:Int) (h1:-9223372036854775808≤n) (h2:n<9223372036854775808):aM prog 68 [(.one (.int .i64 n):aF)] (.ret [qT (n:Rat)]):=by
 refine aD (args:=[.v none]) (ins:=[.v (.one (.int .i64 n))]) (hints:=(fun _=>none)) fo (by kernel_rfl) func68 ⟨rfl,trivial⟩ ?_;rw [aM4];dsimp only [List.map,In.env,aB,aA];refine aC (GY _ h1 h2) rfl ?_;dsimp only [aB,aA];refine aC (GL _) rfl ?_;exact aL rfl
theorem IW (n m:Int):aM prog 283 [(.one (.int .i64 n):aF),(.one (.int .i64 m):aF)] (.ret [.one (.int .i64 (max 0 (min n m)))]):=by
 refine aD (args:=[.v none, .v none]) (ins:=[.v (.one (.int .i64 n)), .v (.one (.int .i64 m))]) (hints:=(fun _=>none)) fo (by kernel_rfl) func283 ⟨rfl,rfl,trivial⟩ ?_;rw [RM];dsimp only [List.map,In.env,aB,aA];refine vn Si rfl ?_;dsimp only [aB,aA];refine vn PC rfl ?_;exact aL rfl
theorem oD (q:Rat):aM prog 35 [(qT q:aF)] (.ret [.one (.int .i64 q.num.sign)]):=by
 refine aD (args:=[.v (some 3)]) (ins:=[.v (qT q)]) (hints:=(fun _=>none)) fo (by kernel_rfl) func35 ⟨rfl,trivial⟩ ?_;rw [VT];dsimp only [List.map,In.env,aB,aA];refine aC (Wt _) rfl ?_;exact aL rfl
theorem Fit.dl {B:Nat} {q:Rat} (h:Fit B q):(dg q.num.natAbs).length≤B∧(dg q.den).length≤B:=⟨fJ h.1,fJ h.2⟩
theorem GJ (q:Rat):aM prog 65 [(qT q:aF)] (.ret [qT (-q)]):=by
 refine aD (args:=[.v (some 3)]) (ins:=[.v (qT q)]) (hints:=(fun _=>none)) fo (by kernel_rfl) func65 ⟨rfl,trivial⟩ ?_;rw [am7];dsimp only [List.map,In.env,aB,aA];refine vn BF rfl ?_;dsimp only [aB,aA]
 refine aC (eM _ _ (-q).num (by
  rw [Rat.neg_num];by_cases h:q.num<0<;>simp only [h,not_true_eq_false,not_false_eq_true,decide_true,decide_false,Bool.false_eq_true,if_true,if_false]<;>omega)) rfl ?_
 dsimp only [aB,aA];refine aL ?_;show [qT _]=_;simp only [qT,qC,Rat.neg_den]
theorem oM (q:Rat):q.abs.num=(q.num.natAbs:Int)∧q.abs.den=q.den:=by
 unfold Rat.abs;have h:=Rat.num_nonneg (q:=q);split
 ·rename_i h0;have:=h.2 h0;exact ⟨by omega,rfl⟩
 ·rename_i h0;have:¬ 0≤q.num:=fun e=>h0 (h.1 e);exact ⟨by rw [Rat.neg_num];omega,Rat.neg_den _⟩
theorem qK (q:Rat):aM prog 146 [(qT q:aF)] (.ret [qT q.abs]):=by
 refine aD (args:=[.v (some 3)]) (ins:=[.v (qT q)]) (hints:=(fun _=>none)) fo (by kernel_rfl) func146 ⟨rfl,trivial⟩ ?_;rw [ah0];dsimp only [List.map,In.env,aB,aA];refine aC (eM false _ (q.abs).num (by rw [if_neg (by simp)];exact (oM q).1)) rfl ?_;dsimp only [aB,aA];refine aL ?_;show [aF.agg [dT q.abs.num.natAbs, .bool (decide (q.abs.num<0)),dT (q.den-1)]] = [qT q.abs];simp only [qT,qC,(oM q).2]
theorem dF (a b:Rat) (A B:Nat) (ha:Fit A a) (hb:Fit B b) (h:A+B≤34359738368):aM prog 36 [(qT a:aF),(qT b:aF)] (.ret [qT (a*b)]):=by
 refine aD (args:=[.v (some 3), .v (some 3)]) (ins:=[.v (qT a), .v (qT b)]) (hints:=(fun _=>none)) fo (by kernel_rfl) func36 ⟨rfl,rfl,trivial⟩ ?_;rw [ah8];dsimp only [List.map,In.env,aB,aA];obtain ⟨ha1,ha2⟩:=Fit.dl ha;obtain ⟨hb1,hb2⟩:=Fit.dl hb;have hn:=fJ (bI ha.1 hb.1);have hd:=fJ (bI ha.2 hb.2);refine aC (Gz _ _ (by omega)) rfl ?_;dsimp only [aB,aA];refine aC (fD a (by omega)) rfl ?_;dsimp only [aB,aA];refine aC (fD b (by omega)) rfl ?_;dsimp only [aB,aA];refine aC (jK _ _ (by omega)) rfl ?_;dsimp only [aB,aA];refine aC (vZ _ _ (Nat.mul_pos a.den_pos b.den_pos) (by rw [Int.natAbs_mul];omega)) rfl ?_;rw [←Rat.mul_def'];exact aL rfl
theorem mL (a b:Rat) (A B:Nat) (ha:Fit A a) (hb:Fit B b) (h:A+B≤34359738368):aM prog 64 [(qT a:aF),(qT b:aF)] (.ret [qT (a+b)]):=by
 refine aD (args:=[.v (some 3), .v (some 3)]) (ins:=[.v (qT a), .v (qT b)]) (hints:=(fun _=>none)) fo (by kernel_rfl) func64 ⟨rfl,rfl,trivial⟩ ?_;rw [an3];dsimp only [List.map,In.env,aB,aA];obtain ⟨ha1,ha2⟩:=Fit.dl ha;obtain ⟨hb1,hb2⟩:=Fit.dl hb;have hn1:=fJ (bI ha.1 hb.2);have hn2:=fJ (bI hb.1 ha.2);have hd:=fJ (bI ha.2 hb.2)
 have hsum:(dg (a.num*(b.den:Int)+b.num*(a.den:Int)).natAbs).length≤A+B+1:=by
  apply fJ;have h1:=bI ha.1 hb.2;have h2:=bI hb.1 ha.2;rw [Nat.add_comm B A] at h2;rw [Nat.pow_succ];refine Nat.lt_of_le_of_lt (Int.natAbs_add_le _ _) ?_;rw [Int.natAbs_mul,Int.natAbs_mul,Int.natAbs_natCast,Int.natAbs_natCast];omega
 refine aC (fD a (by omega)) rfl ?_;dsimp only [aB,aA];refine aC (fD b (by omega)) rfl ?_;dsimp only [aB,aA];refine aC (Gz a.num (b.den:Int) (by rw [Int.natAbs_natCast];omega)) rfl ?_;dsimp only [aB,aA];refine aC (Gz b.num (a.den:Int) (by rw [Int.natAbs_natCast];omega)) rfl ?_;dsimp only [aB,aA];refine aC (aj7 _ _ (by rw [Int.natAbs_mul,Int.natAbs_mul,Int.natAbs_natCast,Int.natAbs_natCast];omega)) rfl ?_;dsimp only [aB,aA];refine aC (jK _ _ (by omega)) rfl ?_;dsimp only [aB,aA];refine aC (vZ _ _ (Nat.mul_pos a.den_pos b.den_pos) (by omega)) rfl ?_;rw [←Rat.add_def'];exact aL rfl
theorem Ue (a b:Rat) (A B:Nat) (ha:Fit A a) (hb:Fit B b) (h:A+B≤34359738368):aM prog 167 [(qT a:aF),(qT b:aF)] (.ret [qT (a-b)]):=by
 refine aD (args:=[.v (some 3), .v (some 3)]) (ins:=[.v (qT a), .v (qT b)]) (hints:=(fun _=>none)) fo (by kernel_rfl) func167 ⟨rfl,rfl,trivial⟩ ?_;rw [ad9];dsimp only [List.map,In.env,aB,aA];refine aC (GJ b) rfl ?_;dsimp only [aB,aA];refine aC (mL a (-b) A B ha hb.neg h) rfl ?_;rw [←Rat.sub_eq_add_neg];exact aL rfl
theorem RX {a b:Rat} (hb:b≠0):mkRat (a.num*(if decide (b.num<0)=true then -(b.den:Int) else b.den)) (a.den*b.num.natAbs)=a/b:=by
 have hn:b.num≠0:=fun e=>hb (Rat.num_eq_zero.1 e)
 have e:b⁻¹=mkRat (if decide (b.num<0)=true then -(b.den:Int) else b.den) b.num.natAbs:=by
  rw [Rat.inv_def];by_cases h:b.num<0
  ·rw [decide_eq_true h,if_pos rfl]
   conv=>lhs;rw [show b.num = -((b.num.natAbs:Nat):Int) by omega]
   rw [Rat.divInt_neg',Rat.divInt_ofNat]
  ·rw [decide_eq_false h,if_neg (by simp)]
   conv=>lhs;rw [show b.num=((b.num.natAbs:Nat):Int) by omega]
   rw [Rat.divInt_ofNat]
 rw [Rat.div_def,e]
 conv=>rhs;rw [←Rat.mkRat_self a]
 rw [Rat.mkRat_mul_mkRat]
theorem Wq (a b:Rat) (A B:Nat) (hb0:b≠0) (ha:Fit A a) (hb:Fit B b) (h:A+B≤34359738368):aM prog 255 [(qT a:aF),(qT b:aF)] (.ret [qT (a/b)]):=by
 refine aD (args:=[.v (some 3), .v (some 3)]) (ins:=[.v (qT a), .v (qT b)]) (hints:=(fun _=>none)) fo (by kernel_rfl) func255 ⟨rfl,rfl,trivial⟩ ?_;rw [UC];dsimp only [List.map,In.env,aB,aA];obtain ⟨ha1,ha2⟩:=Fit.dl ha;obtain ⟨hb1,hb2⟩:=Fit.dl hb;have hn:b.num≠0:=fun e=>hb0 (Rat.num_eq_zero.1 e);have hn1:=fJ (bI ha.1 hb.2);have hd:=fJ (bI ha.2 hb.1);obtain ⟨z,hz⟩:∃ z:Int,(if decide (b.num<0)=true then -(b.den:Int) else b.den)=z:=⟨_,rfl⟩
 have hza:z.natAbs=b.den:=by rw [←hz];split<;>simp
 refine aC (fD b (by omega)) rfl ?_;dsimp only [aB,aA];refine aC (eM _ _ z hz.symm) rfl ?_;dsimp only [aB,aA];refine aC (Gz a.num z (by rw [hza];omega)) rfl ?_;dsimp only [aB,aA];refine aC (fD a (by omega)) rfl ?_;dsimp only [aB,aA];refine aC (jK _ _ (by omega)) rfl ?_;dsimp only [aB,aA];refine aC (vZ _ _ (Nat.mul_pos a.den_pos (by omega)) (by rw [Int.natAbs_mul,hza];omega)) rfl ?_;rw [←hz,RX hb0];exact aL rfl
theorem sign_zero {q:Rat}:q.num.sign=0↔q=0:=by rw [Int.sign_eq_zero_iff_zero,Rat.num_eq_zero]
theorem QA (a b:Rat) (A B:Nat) (ha:Fit A a) (hb:Fit B b) (h:A+B≤34359738368):aM prog 200 [(qT a:aF),(qT b:aF)] (.ret [qT (if b=0 then 0 else a/b), .one (.int .i64 (if b=0 then 9 else 0))]):=by
 refine aD (args:=[.v (some 3), .v (some 3)]) (ins:=[.v (qT a), .v (qT b)]) (hints:=(fun _=>none)) fo (by kernel_rfl) func200 ⟨rfl,rfl,trivial⟩ ?_;rw [ag7];dsimp only [List.map,In.env,aB,aA];refine aC (oD b) rfl ?_;dsimp only [aB,aA];refine vn bL rfl ?_;dsimp only [aB,aA];refine vs _ rfl (fun h2=>?_) (fun h2=>?_)
 ·have h2:b=0:=sign_zero.1 h2;rw [if_pos h2,if_pos h2];exact eG ⟨iZ,aF.Sub.same,trivial⟩
 have h2:¬ b=0:=fun e=>h2 (sign_zero.2 e);rw [if_neg h2,if_neg h2];refine aC (Wq a b A B h2 ha hb h) rfl ?_;exact aL rfl
theorem eA {n:Int} (h1:-9223372036854775808≤n) (h2:n<9223372036854775808):Fit 64 (n:Rat):=Fit.int (by omega) (by omega)
theorem ao8 (n d:Int) (h1:-9223372036854775808≤n) (h2:n<9223372036854775808) (h3:-9223372036854775808≤d) (h4:d<9223372036854775808):aM prog 120 [(.one (.int .i64 n):aF),(.one (.int .i64 d):aF)] (.ret [qT (if d=0 then 0 else (n:Rat)/(d:Rat)), .one (.int .i64 (if d=0 then 9 else 0))]):=by
 refine aD (args:=[.v none, .v none]) (ins:=[.v (.one (.int .i64 n)), .v (.one (.int .i64 d))]) (hints:=(fun _=>none)) fo (by kernel_rfl) func120 ⟨rfl,rfl,trivial⟩ ?_;rw [aZ3];dsimp only [List.map,In.env,aB,aA]
 have e:((d:Rat)=0)↔d=0:=by
  rw [←Rat.num_eq_zero,Rat.num_intCast]
 have hd:=QA (n:Rat) (d:Rat) 64 64 (eA h1 h2) (eA h3 h4) (by omega);simp only [e] at hd;refine aC (jP n h1 h2) rfl ?_;dsimp only [aB,aA];refine aC (jP d h3 h4) rfl ?_;dsimp only [aB,aA];refine aC hd rfl ?_;exact aL rfl
def lE (a b:Rat):Int:=if a<b then -1 else if b<a then 1 else 0
theorem zM (a b:Rat):lE a b=eE (a.num*b.den) (b.num*a.den):=by
 unfold lE eE;simp only [Rat.lt_iff]
theorem bW (z:Int):(z<0∧z.sign = -1)∨(z=0∧z.sign=0)∨(0<z∧z.sign=1):=by
 rcases Int.lt_trichotomy z 0 with h | h | h
 ·exact .inl ⟨h,Int.sign_eq_neg_one_of_neg h⟩
 ·exact .inr (.inl ⟨h,by rw [h];rfl⟩)
 ·exact .inr (.inr ⟨h,Int.sign_eq_one_of_pos h⟩)
theorem LO {a b:Rat} (h:a.num.sign≠b.num.sign∨a.num.sign=0):lE a b=a.num.sign-b.num.sign-(a.num.sign-b.num.sign).tdiv 2:=by
 rw [zM];have ha:=a.den_pos;have hb:=b.den_pos
 have key:∀ (x:Int) (d:Nat),0<d→(x<0→x*(d:Int)<0)∧(x=0→x*(d:Int)=0)∧(0<x→0<x*(d:Int)):=fun x d hd=>
  ⟨fun h=>Int.mul_neg_of_neg_of_pos h (by omega),fun h=>by rw [h,Int.zero_mul],fun h=>Int.mul_pos h (by omega)⟩
 obtain ⟨k1,k2,k3⟩:=key a.num b.den hb;obtain ⟨l1,l2,l3⟩:=key b.num a.den ha
 rcases bW a.num with ⟨h1,e1⟩ | ⟨h1,e1⟩ | ⟨h1,e1⟩<;>rcases bW b.num with ⟨h2,e2⟩ | ⟨h2,e2⟩ | ⟨h2,e2⟩<;>rw [e1,e2] at h ⊢ <;> simp only [eE]<;>(try (exfalso;revert h;decide)) <;>
  (first
   | have i1:=k1 h1
   | have i1:=k2 h1
   | have i1:=k3 h1) <;>
  (first
   | have i2:=l1 h2
   | have i2:=l2 h2
   | have i2:=l3 h2) <;>
  (first
   | (rw [if_pos (by omega)];rfl)
   | (rw [if_neg (by omega),if_pos (by omega)];rfl)
   | (rw [if_neg (by omega),if_neg (by omega)];rfl))
theorem Vj {a b:Rat} (h:a.num.sign=b.num.sign) (h0:a.num.sign≠0):lE a b=a.num.sign*eE ((a.num.natAbs*b.den:Nat):Int) ((b.num.natAbs*a.den:Nat):Int):=by
 rw [zM];rcases bW a.num with ⟨h1,e1⟩ | ⟨h1,e1⟩ | ⟨h1,e1⟩
 ·have h2:b.num<0:=by
   rcases bW b.num with ⟨h2,e2⟩ | ⟨h2,e2⟩ | ⟨h2,e2⟩
   ·exact h2
   ·omega
   ·omega
  have ea:a.num*(b.den:Int) = -((a.num.natAbs*b.den:Nat):Int):=by
   rw [Int.natCast_mul,←Int.neg_mul];congr 1;omega
  have eb:b.num*(a.den:Int) = -((b.num.natAbs*a.den:Nat):Int):=by
   rw [Int.natCast_mul,←Int.neg_mul];congr 1;omega
  rw [e1,ea,eb];generalize ((a.num.natAbs*b.den:Nat):Int)=p;generalize ((b.num.natAbs*a.den:Nat):Int)=q;unfold eE;split<;>(try split)<;>(try split)<;>(try split)<;>omega
 ·omega
 ·have h2:0<b.num:=by
   rcases bW b.num with ⟨h2,e2⟩ | ⟨h2,e2⟩ | ⟨h2,e2⟩
   ·omega
   ·omega
   ·exact h2
  have ea:a.num*(b.den:Int)=((a.num.natAbs*b.den:Nat):Int):=by
   rw [Int.natCast_mul];congr 1;omega
  have eb:b.num*(a.den:Int)=((b.num.natAbs*a.den:Nat):Int):=by
   rw [Int.natCast_mul];congr 1;omega
  rw [e1,ea,eb,Int.one_mul]
theorem uZ (a b:Rat) (A B:Nat) (ha:Fit A a) (hb:Fit B b) (h:A+B≤34359738368):aM prog 38 [(qT a:aF),(qT b:aF)] (.ret [.one (.int .i64 (lE a b))]):=by
 refine aD (args:=[.v (some 3), .v (some 3)]) (ins:=[.v (qT a), .v (qT b)]) (hints:=(fun _=>none)) fo (by kernel_rfl) func38 ⟨rfl,rfl,trivial⟩ ?_;rw [al8];dsimp only [List.map,In.env,aB,aA];obtain ⟨ha1,ha2⟩:=Fit.dl ha;obtain ⟨hb1,hb2⟩:=Fit.dl hb;have hn1:=fJ (bI ha.1 hb.2);have hn2:=fJ (bI hb.1 ha.2);have hsa:-1≤a.num.sign∧a.num.sign≤1:=by rcases bW a.num with ⟨_,e⟩ | ⟨_,e⟩ | ⟨_,e⟩<;>omega
 have hsb:-1≤b.num.sign∧b.num.sign≤1:=by rcases bW b.num with ⟨_,e⟩ | ⟨_,e⟩ | ⟨_,e⟩<;>omega
 have htd:-1≤(a.num.sign-b.num.sign).tdiv 2∧(a.num.sign-b.num.sign).tdiv 2≤1:=by
  rcases bW a.num with ⟨_,e⟩ | ⟨_,e⟩ | ⟨_,e⟩<;>rcases bW b.num with ⟨_,e2⟩ | ⟨_,e2⟩ | ⟨_,e2⟩<;>rw [e,e2]<;>decide
 refine aC (oD a) rfl ?_;dsimp only [aB,aA];refine aC (oD b) rfl ?_;dsimp only [aB,aA];refine vn gO rfl ?_;dsimp only [aB,aA];refine vs _ rfl (fun h3=>?_) (fun h3=>?_)
 ·refine vn (aG (by omega) (by omega)) rfl ?_;dsimp only [aB,aA];refine vn (aG (by omega) (by omega)) rfl ?_;dsimp only [aB,aA];refine vn (pY (c:=(a.num.sign-b.num.sign).tdiv 2) (by decide) (dN (by omega) (by omega))) rfl ?_;dsimp only [aB,aA];refine vn (aG (by omega) (by omega)) rfl ?_;dsimp only [aB,aA];rw [LO (.inl h3)];exact aL rfl
 refine vn bL rfl ?_;dsimp only [aB,aA];refine vs _ rfl (fun h10=>?_) (fun h10=>?_)
 ·refine vn (aG (by omega) (by omega)) rfl ?_;dsimp only [aB,aA];refine vn (aG (by omega) (by omega)) rfl ?_;dsimp only [aB,aA];refine vn (pY (c:=(a.num.sign-b.num.sign).tdiv 2) (by decide) (dN (by omega) (by omega))) rfl ?_;dsimp only [aB,aA];refine vn (aG (by omega) (by omega)) rfl ?_;dsimp only [aB,aA];rw [LO (.inr h10)];exact aL rfl
 refine aC (oD a) rfl ?_;dsimp only [aB,aA];refine aC (fD b (by omega)) rfl ?_;dsimp only [aB,aA];refine aC (jK _ _ (by omega)) rfl ?_;dsimp only [aB,aA];refine aC (fD a (by omega)) rfl ?_;dsimp only [aB,aA];refine aC (jK _ _ (by omega)) rfl ?_;dsimp only [aB,aA];refine aC (tQ _ _ (by omega)) rfl ?_;dsimp only [aB,aA]
 have hci:-1≤eE ((a.num.natAbs*b.den:Nat):Int) ((b.num.natAbs*a.den:Nat):Int)∧eE ((a.num.natAbs*b.den:Nat):Int) ((b.num.natAbs*a.den:Nat):Int)≤1:=by
  unfold eE;split<;>(try split)<;>omega
 rw [Vj (by omega) h10];generalize eE ((a.num.natAbs*b.den:Nat):Int) ((b.num.natAbs*a.den:Nat):Int)=c at hci ⊢;generalize a.num.sign=s at hsa h10 ⊢
 refine vn (rY (c:=s*c) (by
  rcases (by omega:s = -1∨s=1) with rfl | rfl
  ·exact dN (by omega) (by omega)
  ·exact dN (by omega) (by omega))) rfl ?_
 exact aL rfl
end Go.Sy
