/- Members of families: the range over the program's own iterator. A member of a family. Family.
-/
import Derived.Test.YtdmcadckdnnglaaGreatDoorFb
import Derived.Test.YtdmcadckdnnglaaGreatDoorQe
set_option linter.unusedVariables false
set_option linter.unusedSimpArgs false
namespace Go.Sy
open Go Go.Proofs Go.RowKit Tryz Ord
attribute [local go_sem] Oper.semAt_some
def Ae:Tr:=.ret [(W 0 0),(.one (.ref 0 [(.u 1 0),(.u 1 1)])),(W 3 0),(W 1 0),(WK (1))]
def Aw:Tr:=.need (.call 190 [(.agg [(U 2 0),(U 2 1),(U 2 2)])] [none]) (.call ⟨.value (.func 190),#[(.tmp 6)],#[39]⟩) 72 false Ae
def Ad:Tr:=.need (.call 68 [(WK (1))] [(some 3)]) (.call ⟨.value (.func 68),#[(.const (I3 (1)))],#[2]⟩) 39 false Aw
theorem Es:nN prog 22 (fun _=>none) (eU [] (lJ f265)) [(0, .v none),(1, .ref 2)] ([0,1,3,4,5].map ResultVar.tmp) (some 1) false=Ad:=by kernel_rfl
def Ac:Tr:=.ret [(W 0 0),(.one (.ref 0 [(.u 1 0),(.u 1 1)])),(W 3 0),(W 5 0),(W 6 0)]
def Aj:Tr:=.need (.prim [(W 4 0),(WK (1))] none) (.binOp .add 2 (.tmp 13) (.const (I3 (1))) 2) 2 false Ac
def Av:Tr:=.need (.callv (.u 1 1) [(W 4 0),(W 3 0),(W 2 0)] [none]) (.call ⟨.value (.tmp 17),#[(.tmp 18),(.tmp 19),(.tmp 20)],#[2,72,72]⟩) 72 true Aj
theorem Eu:nN prog 22 (fun _=>none) (eU [1,1,0,0,1] (lJ f265)) [(0, .v none),(1, .ref 2),(3, .v none),(4, .v none),(5, .v none)] ([0,1,3,4,5].map ResultVar.tmp) none false=Av:=by kernel_rfl
def OY:Tr:=.ret [(.one (.dK 265 [(.ref 0 [(.u 0 0),(.u 0 1)])]))]
theorem Fz:aO prog f224 (fun _=>none) [.v (some 2)]=OY:=by kernel_rfl
theorem Tm (t:Array Value) (h:t.size=22):t = #[t.getD 0 Go.undef,t.getD 1 Go.undef,t.getD 2 Go.undef,t.getD 3 Go.undef,t.getD 4 Go.undef,t.getD 5 Go.undef,t.getD 6 Go.undef,t.getD 7 Go.undef,t.getD 8 Go.undef,t.getD 9 Go.undef,t.getD 10 Go.undef,t.getD 11 Go.undef,t.getD 12 Go.undef,t.getD 13 Go.undef,t.getD 14 Go.undef,t.getD 15 Go.undef,t.getD 16 Go.undef,t.getD 17 Go.undef,t.getD 18 Go.undef,t.getD 19 Go.undef,t.getD 20 Go.undef,t.getD 21 Go.undef]:=(oA t 22 h).trans rfl
theorem TK (t:Array Value) (h:t.size=14):t = #[t.getD 0 Go.undef,t.getD 1 Go.undef,t.getD 2 Go.undef,t.getD 3 Go.undef,t.getD 4 Go.undef,t.getD 5 Go.undef,t.getD 6 Go.undef,t.getD 7 Go.undef,t.getD 8 Go.undef,t.getD 9 Go.undef,t.getD 10 Go.undef,t.getD 11 Go.undef,t.getD 12 Go.undef,t.getD 13 Go.undef]:=(oA t 14 h).trans rfl
theorem EM (one:List Rat) (F:FuncId) (caps:List aF):aJ prog 224 [(.agg [sQ one, .dK F caps]:aH)] (.ret [.one (.dK 265 [.bM [sQ one, .dK F caps]])]):=by
 refine aD (args:=[.v (some 2)]) (ins:=[.v (.agg [sQ one, .dK F caps])]) (hints:=(fun _=>none)) fo (by kernel_rfl) func224 ⟨rfl,trivial⟩ ?_;rw [Fz];dsimp only [List.map,In.env,aA,aB];exact aP rfl
theorem Rq (yv:Value) (hy:yv.oneCell'=true) (one:List Rat) (F:FuncId) (caps:List aF):vc prog (fun o=>gN o (.ret [.one (.exact yv), .one (.bM [sQ one, .dK F caps]), .one (sQ (trim [((1:Int):Rat)])), .one (sQ one), .one (.int .i64 1)])) (nN prog 22 (fun _=>none) (eU [] (lJ f265)) [(0, .v none),(1, .ref 2)] ([0,1,3,4,5].map ResultVar.tmp) (some 1) false) ([.v (.one (.exact yv)), .ref ([sQ one, .dK F caps])].map In.env) []:=by
 rw [Es];dsimp only [List.map,In.env,aA,aB];refine aC (fK 1 (by omega) (by omega)) rfl ?_;dsimp only [aA,aB];refine aC (tM ((1:Int):Rat)) rfl ?_;exact aP rfl
theorem Rj (yv:Value) (hy:yv.oneCell'=true) (one last p r:List Rat) (F:FuncId) (caps:List aF) (n:Nat) (hn:n≤1000) (hd:aJ prog F ([.one (.int .i64 n), .one (sQ p), .one (sQ last)]++caps.map .one) (.ret [.one (sQ r)])):vc prog (fun o=>gN o (.ret [.one (.exact yv), .one (.bM [sQ one, .dK F caps]), .one (sQ p), .one (sQ r), .one (.int .i64 ((n+1:Nat):Int))])) (nN prog 22 (fun _=>none) (eU [1,1,0,0,1] (lJ f265)) [(0, .v none),(1, .ref 2),(3, .v none),(4, .v none),(5, .v none)] ([0,1,3,4,5].map ResultVar.tmp) none false) ([.v (.one (.exact yv)), .ref ([sQ one, .dK F caps]), .v (.one (sQ last)), .v (.one (sQ p)), .v (.one (.int .i64 n))].map In.env) []:=by
 rw [Eu];dsimp only [List.map,In.env,aA,aB];refine Ft (f:=F) (caps:=caps) rfl hd rfl ?_;dsimp only [aA,aB];refine vn (aG (by omega) (by omega)) rfl ?_;exact aP rfl
noncomputable def dJ:Code×Code:=match f143.body with
 | some (.seq _ (.seq (.seq _ (.block _ (.rangeFunc _ _ a b))) _))=>(a,b)
 | _=>(.skip, .skip)
structure MW (M:Nat→Prop) (w:World) (n0 D l:Nat) (lo:Obj) (k j:Nat) (rv:Value) (W:World):Prop where
 wb:Below n0 w W
 big:n0+3≤D∧D<l∧l<W.heap.size
 hD:W.heap[D]? = some (.deferred (some []))
 hl:W.heap[l]? = some lo
 hN:W.heap[n0+1]? = some (.cells #[.int .i64 ((k:Int)-j)] 3 (0,0))
 hO:W.heap[n0+2]? = some (.cells #[rv] 72 (0,0))
abbrev Bn (M:Nat→Prop) (n0:Nat):Nat→Prop:=fun b=>M b∨b=n0+1∨b=n0+2
theorem Bi {M:Nat→Prop} {w:World} {n0 D l:Nat} {lo0:Obj} {k j j':Nat} {rv rv':Value} {W W3 W5:World} (I:MW M w n0 D l lo0 k j rv W) (hlo0:lo0.isCells=false) (hput:∀ x,x≠l→W3.heap[x]? = W.heap[x]?) (hs3:W3.heap.size=W.heap.size) (hos3:W3.os=W.os∧W3.tape=W.tape∧W3.output=W.output)
  (h5:∀ x,x≠n0+1→x≠n0+2→W5.heap[x]? = W3.heap[x]?) (hs5:W5.heap.size=W3.heap.size) (ho5:W5.os=W3.os∧W5.tape=W3.tape∧W5.output=W3.output)
  (hN5:W5.heap[n0+1]? = some (.cells #[.int .i64 ((k:Int)-j')] 3 (0,0))) (hO5:W5.heap[n0+2]? = some (.cells #[rv'] 72 (0,0))) (lo:Obj) :
  MW M w n0 D l lo k j' rv' (W5.putObj l lo)∧bF (Bn M n0) W (Bn M n0) (W5.putObj l lo):=by
 have hbig:=I.big;obtain ⟨W6,hW6⟩:∃ W6,W5.putObj l lo=W6:=⟨_,rfl⟩
 have hl6:W6.heap[l]? = some lo:=by rw [←hW6];exact World.putObj_heap_same (by omega)
 have h6:∀ x,x≠l→W6.heap[x]? = W5.heap[x]?:=fun x hx=>by rw [←hW6];exact World.putObj_heap_other hx
 have hs6:W6.heap.size=W5.heap.size:=by rw [←hW6];simp [World.putObj]
 have ho6:W6.os=W5.os∧W6.tape=W5.tape∧W6.output=W5.output:=by rw [←hW6];exact ⟨rfl,rfl,rfl⟩
 rw [hW6];have hall:∀ x,x≠l→x≠n0+1→x≠n0+2→W6.heap[x]? = W.heap[x]?:=fun x h1 h2 h3=>by rw [h6 x h1,h5 x h2 h3,hput x h1]
 refine ⟨⟨I.wb.trans ⟨by rw [ho6.1,ho5.1,hos3.1],by rw [ho6.2.1,ho5.2.1,hos3.2.1],by rw [ho6.2.2,ho5.2.2,hos3.2.2],by omega,fun x hx=>hall x (by omega) (by omega) (by omega)⟩,⟨hbig.1,hbig.2.1,by omega⟩,(hall D (by omega) (by omega) (by omega)).trans I.hD,hl6,(h6 _ (by omega)).trans hN5,(h6 _ (by omega)).trans hO5⟩,fun b o hb ho hc=>⟨hb,(hall b (fun e=>?_) (fun e=>hb (.inr (.inl e))) (fun e=>hb (.inr (.inr e)))).trans ho⟩⟩;subst e;rw [I.hl] at ho;cases ho;rw [hlo0] at hc;cases hc
set_option maxRecDepth 100000 in
set_option maxHeartbeats 1000000 in
theorem Hk (M:Nat→Prop) (w:World) (n0 D l fn:Nat) (tm:Array Value) (htm:tm.size=14) (t3:tm.getD 3 Go.undef = .pointer (some ⟨n0+1,0,none⟩)) (t4:tm.getD 4 Go.undef = .pointer (some ⟨n0+2,0,none⟩))
  (k j:Nat) (hjk:j≤k) (hk:k≤1000) (v:Value) (hv1:v.oneCell'=true) (W:World) (I:MW M w n0 D l (.loop (fV fn tm #[8] dJ.1 dJ.2 D .ready none)) k j (.slice none 0 0) W) (mm:Nat) :
  YieldAt Fence.wide mm prog l #[v] W fun e W'=>∃ (b:Bool) (_c:Option Code),e = .returned (.bool b) ∧
   ((b=true∧j<k∧MW M w n0 D l (.loop (fV fn tm #[8] dJ.1 dJ.2 D .ready none)) k (j+1) (.slice none 0 0) W'∧bF (Bn M n0) W (Bn M n0) W') ∨
    (b=false∧j=k∧MW M w n0 D l (.loop (fV fn tm #[8] dJ.1 dJ.2 D .done (some .ret))) k j v W'∧bF (Bn M n0) W (Bn M n0) W')):=by
 refine DC (F:=Fence.wide) (R:=fun b c W'=>((b=true∧j<k∧MW M w n0 D l (.loop (fV fn tm #[8] dJ.1 dJ.2 D .ready none)) k (j+1) (.slice none 0 0) W'∧bF (Bn M n0) W (Bn M n0) W') ∨
    (b=false∧j=k∧MW M w n0 D l (.loop (fV fn tm #[8] dJ.1 dJ.2 D .done (some .ret))) k j v W'∧bF (Bn M n0) W (Bn M n0) W'))) I.hl rfl trivial ?_
 rw [show (#[8].zip #[v]).foldl (fun t (p,v)=>t.setIfInBounds p v) tm=tm.setIfInBounds 8 v by simp];rw [TK (tm.setIfInBounds 8 v) (by simp [htm])];rw [nY (show 8<tm.size by omega),getD_set_ne (t:=tm) (i:=8) (j:=3) (by omega),getD_set_ne (t:=tm) (i:=8) (j:=4) (by omega),t3,t4];have hbig:=I.big;obtain ⟨ca,cb,hcab⟩:∃ ca cb,dJ=(ca,cb):=⟨_,_,rfl⟩
 dsimp only [dJ,f143]
 gi_wp2
 refine ⟨I.hl,?_⟩;generalize hW3:W.putObj l _=W3;have hl2:l<W.heap.size:=hbig.2.2;have hl3:W3.heap[l]? = some (.loop (fV fn tm #[8] dJ.1 dJ.2 D .busy none)):=by rw [←hW3];exact World.putObj_heap_same hl2
 have hput:∀ j,j≠l→W3.heap[j]? = W.heap[j]?:=fun j hj=>by rw [←hW3];exact World.putObj_heap_other hj
 have hs3:W3.heap.size=W.heap.size:=by rw [←hW3];simp [World.putObj]
 have hos3:W3.os=W.os∧W3.tape=W.tape∧W3.output=W.output:=by rw [←hW3];exact ⟨rfl,rfl,rfl⟩
 clear hW3;have hN3:W3.heap[n0+1]? = some (.cells #[.int .i64 ((k:Int)-j)] 3 (0,0)):=(hput _ (by omega)).trans I.hN;have hO3:W3.heap[n0+2]? = some (.cells #[.slice none 0 0] 72 (0,0)):=(hput _ (by omega)).trans I.hO;have cN:W3.cell? ⟨n0+1,0,none⟩=some (.int .i64 ((k:Int)-j)):=aE hN3 rfl;have cO:W3.cell? ⟨n0+2,0,none⟩=some (.slice none 0 0):=aE hO3 rfl;have fN:W3.frozen? ⟨n0+1,0,none⟩=false:=by simp [World.frozen?,hN3]
 have fO:W3.frozen? ⟨n0+2,0,none⟩=false:=by simp [World.frozen?,hO3]
 have hf:∀ (b:Nat) (cs cs':Array Value) (T:TypeId),W3.heap[b]? = some (.cells cs T (0,0))→(W3.setRow b cs').heap[b]? = some (.cells cs' T (0,0))∧(W3.setRow b cs').heap.size=W3.heap.size∧∀ x,x≠b→(W3.setRow b cs').heap[x]? = W3.heap[x]?:=fun b cs cs' T h=>⟨setRow_heap _ _ _ _ _ _ h,by simp [World.setRow],fun x hx=>setRow_other _ _ _ _ hx⟩
 by_cases hkj:(k:Int)-j=0
 ·gi_wp2
  have hst:(storeCells ⟨n0+2,0,none⟩ [v]).run prog W3 = .ok () (W3.setRow (n0+2) #[v]):=by
   have h:=fG (P:=prog) hO3 (j:=0) (by simp) hv1
   simpa [storeCells,Addr.add] using h
  rw [hst];obtain ⟨e1,e2,e3⟩:=hf (n0+2) _ #[v] _ hO3;have hA:=Bi (j':=j) (rv':=v) I rfl hput hs3 hos3 (fun x _ hx=>e3 x hx) e2 ⟨rfl,rfl,rfl⟩ ((e3 _ (by omega)).trans hN3) e1;have hl5:(W3.setRow (n0+2) #[v]).heap[l]? = some (.loop (fV fn tm #[8] dJ.1 dJ.2 D .busy none)):=(e3 l (by omega)).trans hl3
  gi_wp2
  exact ⟨hl5, .inr ⟨rfl,by omega,(hA _).1,(hA _).2⟩⟩
 ·gi_wp2
  rw [setCell_eq_setRow W3 (n0+1) 0 _ _ _ _ hN3];obtain ⟨e1,e2,e3⟩:=hf (n0+1) _ (#[Value.int .i64 ((k:Int)-j)].setIfInBounds 0 (.int .i64 ((k:Int)-j-1))) _ hN3;have hA:=Bi (j':=j+1) (rv':=.slice none 0 0) I rfl hput hs3 hos3 (fun x hx _=>e3 x hx) e2 ⟨rfl,rfl,rfl⟩ (by rw [e1];show some (Obj.cells #[Value.int .i64 ((k:Int)-j-1)] 3 (0,0))=_;rw [show (k:Int)-j-1=(k:Int)-((j+1:Nat):Int) by omega]) ((e3 _ (by omega)).trans hO3);exact ⟨(e3 l (by omega)).trans hl3, .inl ⟨rfl,by omega,(hA _).1,(hA _).2⟩⟩
end Go.Sy
namespace Go.Sy
open Go Go.Proofs Go.RowKit Tryz Ord
attribute [local go_sem] Oper.semAt_some
theorem Cx (M:Nat→Prop) (w:World) (hM:cM M w) (one:List Rat) (F:FuncId) (caps:List aF) (u1 u2:Value) (hs:aL M w [sQ one, .dK F caps] [u1,u2]) :
  Calls prog 224 #[.agg #[u1,u2]] w fun e w'=>Below w.heap.size w w'∧∃ sp,e = .returned (.func (.func 265) #[] #[sp])∧(aF.bM [sQ one, .dK F caps]).rep M w' sp:=by
 refine ((EM one F caps).2 M w [.agg #[u1,u2]] hM ⟨⟨_,rfl,hs⟩,trivial⟩).mono ?_;rintro e w' ⟨hb,vs,rfl,hvs⟩
 match vs,hvs with
 | [v],hvs=>
   obtain ⟨us,e1,hus⟩:=hvs.1;subst e1
   match us,hus with
   | [sp],hus=>exact ⟨hb,sp,rfl,hus.1⟩
   | [],hus=>exact hus.elim
   | _::_::_,hus=>exact hus.2.elim
 | [],hvs=>exact hvs.elim
 | _::_::_,hvs=>exact hvs.2.elim
theorem MW.below {M:Nat→Prop} {w:World} {n0 D l:Nat} {lo:Obj} {k j:Nat} {rv:Value} {W W':World} (I:MW M w n0 D l lo k j rv W) (h:Below W.heap.size W W'):MW M w n0 D l lo k j rv W':=by
 have hbig:=I.big;have hs:=h.size;exact ⟨I.wb.trans (h.mono (by omega)),⟨hbig.1,hbig.2.1,by omega⟩,(h.block D (by omega)).trans I.hD,(h.block l (by omega)).trans I.hl,(h.block _ (by omega)).trans I.hN,(h.block _ (by omega)).trans I.hO⟩
structure SM (M:Nat→Prop) (n0:Nat) (W:World) (l:Nat) (one:List Rat) (F:FuncId) (caps:List aF) (last p:List Rat) (j:Nat) (t:Array Value):Prop where
 sz:t.size=22
 t0:t.getD 0 Go.undef = .func (.yield l) #[] #[]
 t1:(aF.bM [sQ one, .dK F caps]).rep (Bn M n0) W (t.getD 1 Go.undef)
 t3:(sQ last).rep (Bn M n0) W (t.getD 3 Go.undef)
 t4:(sQ p).rep (Bn M n0) W (t.getD 4 Go.undef)
 t5:t.getD 5 Go.undef = .int .i64 ((j+1:Nat):Int)
set_option maxRecDepth 100000 in
set_option maxHeartbeats 1000000 in
theorem HN (M:Nat→Prop) (w:World) (hM:cM M w) (one:List Rat) (nx:Nat→List Rat→List Rat→List Rat) (F:FuncId) (caps:List aF) (k:Nat) (hk:k≤900)
  (hd:∀ j,j<k→aJ prog F ([.one (.int .i64 ((j+1:Nat):Int)), .one (sQ (dD one nx j).2), .one (sQ (dD one nx j).1)]++caps.map .one) (.ret [.one (sQ (dD one nx (j+1)).2)]))
  (u1 u2:Value) (hs:aL M w [sQ one, .dK F caps] [u1,u2]) :
  CallsIn Fence.wide 1001 prog 143 #[.agg #[u1,u2], .int .i64 (k:Int)] w fun e W'=>Below w.heap.size w W'∧∃ v,e = .returned v∧(sQ (dD one nx k).1).rep M W' v:=by
 refine callsIn_of_wp_marks func143 rfl trivial ?_ rfl;simp only [ntmps143,List.size_toArray,List.length_cons,List.length_nil,Nat.reduceAdd,Nat.reduceSub,Array.replicate_succ,Array.replicate_zero,List.push_toArray,List.append_toArray,List.nil_append,List.cons_append];obtain ⟨n0,hn0⟩:∃ n0,w.heap.size=n0:=⟨_,rfl⟩
 obtain ⟨Wa,hWa⟩:∃ Wa,(((w.alloc (.cells #[u1,u2] 204)).alloc (.cells #[.int .i64 (k:Int)] 3)).alloc (.cells #[.slice none 0 0] 72))=Wa:=⟨_,rfl⟩
 have hsa:Wa.heap.size=n0+3:=by rw [←hWa];simp [hn0]
 have hNa:Wa.heap[n0+1]? = some (.cells #[.int .i64 (k:Int)] 3 (0,0)):=by
  rw [←hWa,heap_alloc_old _ _ _ (by simp;omega)];have:=heap_alloc_new (w.alloc (.cells #[u1,u2] 204)) (.cells #[.int .i64 (k:Int)] 3);rw [World.size_alloc,hn0] at this;exact this
 have hOa:Wa.heap[n0+2]? = some (.cells #[.slice none 0 0] 72 (0,0)):=by
  rw [←hWa];have:=heap_alloc_new ((w.alloc (.cells #[u1,u2] 204)).alloc (.cells #[.int .i64 (k:Int)] 3)) (.cells #[.slice none 0 0] 72);rw [World.size_alloc,World.size_alloc,hn0] at this;exact this
 have hSa:Wa.heap[n0]? = some (.cells #[u1,u2] 204 (0,0)):=by rw [←hWa,heap_alloc_old _ _ _ (by simp;omega),heap_alloc_old _ _ _ (by simp;omega),←hn0];exact heap_alloc_new w _
 have cS0:Wa.cell? ⟨n0,0,none⟩=some u1:=aE hSa rfl;have cS1:Wa.cell? ⟨n0,1,none⟩=some u2:=aE hSa rfl
 have hBa:Below w.heap.size w Wa:=by
  rw [←hWa];exact (((Below.refl _ w).alloc (by omega) _).alloc (by simp) _).alloc (by simp;omega) _
 have hka:bF M w (Bn M n0) Wa:=fun b o hb ho _=>by
  have hlt:=(Array.getElem?_eq_some_iff.1 ho).1;exact ⟨fun h=>h.elim hb (by omega),(hBa.block b hlt).trans ho⟩
 have hMa:cM (Bn M n0) Wa:=⟨fun b hb=>hb.elim (fun h=>Nat.lt_of_lt_of_le (hM.1 b h) hBa.size) (fun h=>by omega),hM.2.gS hka⟩
 gi_wp2
 refine ⟨trivial,?_⟩;refine (callsIn_wide.2 (Cx (Bn M n0) Wa hMa one F caps u1 u2 (hs.mono hka))).mono ?_;rintro e W0 ⟨hb0,sp,rfl,hsp⟩
 gi_wp2
 refine Ee rfl (by omega) (gf:=265) (lb:=#[sp]) rfl trivial (enters_of func265 (by kernel_rfl) rfl) ?_;intro fn D l W1 hfn hD hl hsz1 hb1 hK1 hL1;have hk1:bF (Bn M n0) W0 (Bn M n0) W1:=bF.below hb1;replace hsp:=aF.mono _ hk1 hsp;refine callsIn_of_wp func265 rfl trivial ?_ rfl;simp only [ntmps265,List.size_toArray,List.length_cons,List.length_nil,Nat.reduceAdd,Nat.reduceSub,Array.replicate_succ,Array.replicate_zero,List.push_toArray,List.append_toArray,List.nil_append,List.cons_append];have hW1s:W1.heap.size=W0.heap.size+2:=hsz1;have hs0:n0+3≤W0.heap.size:=by have:=hb0.size;omega
 have hM1:cM (Bn M n0) W1:=⟨fun b hb=>Nat.lt_of_lt_of_le (hMa.1 b hb) (by omega),(hMa.2.below rfl hb0).below rfl hb1⟩
 obtain ⟨tm,htm,t3,t4,hLr⟩:∃ tm:Array Value,tm.size=14∧tm.getD 3 Go.undef = .pointer (some ⟨n0+1,0,none⟩)∧tm.getD 4 Go.undef = .pointer (some ⟨n0+2,0,none⟩)∧W1.heap[l]? = some (.loop (fV fn tm #[8] dJ.1 dJ.2 D .ready none)):=⟨_,rfl,rfl,rfl,hL1⟩
 have htl:=congrArg Loop.tmps (Obj.loop.inj (Option.some.inj (hL1.symm.trans hLr)));dsimp only at htl;refine wpIn_wide.2 (FT (n:=1) (ins:=[(0, .v none),(1, .ref 2)]) (xs:=[.v (.one (.exact (.func (.yield l) #[] #[]))), .ref [sQ one, .dK F caps]]) fo ⟨rfl,rfl,trivial⟩ (Rq (.func (.yield l) #[] #[]) rfl one F caps) (by kernel_rfl) hM1 rfl rfl ⟨⟨by rw [hl];rfl,rfl⟩,hsp,trivial⟩ ?_ (by intro c v a' w' h;cases h));intro e a' W2 rs us hrs hex hB2 hsz hdf hrun hus;cases hrs;cases e with
 | exit id=>cases hex
 | ret=>cases hex
 | normal=>
 have huse:=iI hrun;subst huse;obtain ⟨r0,r1,r3,r4,r5,_⟩:=hus;obtain ⟨t,ds⟩:=a';have hds:ds = []:=hdf;subst hds;have hsz:t.size=22:=hsz;show Code.wp _ (qV 1 _) _ _ _;simp only [qV];refine (wpIn_wide (n:=1000)).1 ?_;refine wpIn_block ?_;refine wpIn_loop_ghost (fun i a' W=>∃ j t,i=k-j∧a'=⟨t,[]⟩∧j≤k∧SM M n0 W l one F caps (dD one nx j).1 (dD one nx j).2 j t∧MW M w n0 D l (.loop (fV fn tm #[8] dJ.1 dJ.2 D .ready none)) k j (.slice none 0 0) W) (k-0) ⟨0,t,rfl,rfl,Nat.zero_le _,⟨hsz,r0.1,r1,r3,r4,r5.1⟩,?_⟩ ?_
 ·have hs2:=hB2.size;have hkeep:∀ x,x<n0+3→W2.heap[x]? = Wa.heap[x]?:=fun x hx=>by rw [hB2.block x (by omega),hb1.block x (by omega),hb0.block x (by omega)]
  refine ⟨?_,⟨by omega,by omega,by omega⟩,(hB2.block D (by omega)).trans hK1,(hB2.block l (by omega)).trans hLr,(hkeep _ (by omega)).trans (by rw [hNa];simp),(hkeep _ (by omega)).trans hOa⟩;rw [←hn0];exact ((hBa.trans (hb0.mono (by omega))).trans (hb1.mono (by omega))).trans (hB2.mono (by omega))
 ·rintro i a' W ⟨j,t,rfl,rfl,hjk,S,I⟩;have hround:=Hk M w n0 D l fn tm htm t3 t4 k j hjk (by omega) (t.getD 3 Go.undef) (aF.one _ S.t3) W I 999;obtain ⟨fnr,tmr,asr,bdr,hy,hR⟩:=hround;refine wpIn_seq_k fun K hK=>?_;have hKH:Nonempty (PLift _):=⟨⟨hK⟩⟩
  clear hK;rw [Tm t S.sz,S.t0,S.t5];have s1:=S.t1;have s3:=S.t3;have s4:=S.t4;generalize hx1:t.getD 1 Go.undef=x1 at s1 ⊢;generalize hx3:t.getD 3 Go.undef=x3 at s3 hy ⊢;generalize hx4:t.getD 4 Go.undef=x4 at s4 ⊢;subst hl;clear hK1 hLr hL1
  gi_wp2
  refine hR.mono ?_;rintro e W5 ⟨b,_,rfl,(⟨rfl,hj1,I5,hk5⟩ | ⟨rfl,hj1,I5,hk5⟩)⟩
  ·gi_wp2
   obtain ⟨⟨hK⟩⟩:=hKH
   refine hK _ _ (wpIn_wide.2 (CE (N:=22) (ins:=[(0, .v none),(1, .ref 2),(3, .v none),(4, .v none),(5, .v none)]) (xs:=[.v (.one (.exact (.func (.yield (W0.heap.size+1)) #[] #[]))), .ref [sQ one, .dK F caps], .v (.one (sQ (dD one nx j).1)), .v (.one (sQ (dD one nx j).2)), .v (.one (.int .i64 ((j+1:Nat):Int)))]) fo ⟨rfl,rfl,rfl,rfl,rfl,trivial⟩
    (Rj (.func (.yield (W0.heap.size+1)) #[] #[]) rfl one _ _ _ F caps (j+1) (by omega) (hd j hj1)) (by kernel_rfl) (M:=Bn M n0) ?_ rfl rfl
    ⟨⟨rfl,rfl⟩,aF.mono _ hk5 s1,aF.mono _ hk5 s3,aF.mono _ hk5 s4,⟨rfl,rfl⟩,trivial⟩ ?_ (by intro c v a' w' h;cases h)))
   ·exact ⟨fun b hb=>(by have:=I5.big;rcases hb with h | h | h<;>first | (have:=hM.1 b h;omega) | omega),hM.2.gS fun b o hb ho _=>(by
     have hlt:=(Array.getElem?_eq_some_iff.1 ho).1;exact ⟨fun h=>h.elim hb (by omega),(I5.wb.block b (by omega)).trans ho⟩)⟩
   ·intro e a' W6 rs us hrs hex hB6 hsz6 hdf6 hrun6 hus6;cases hrs;cases e with
    | exit id=>cases hex
    | ret=>cases hex
    | normal=>
    have huse:=iI hrun6;subst huse;obtain ⟨q0,q1,q3,q4,q5,_⟩:=hus6;obtain ⟨t',ds⟩:=a';have hds:ds = []:=hdf6;subst hds;exact ⟨k-(j+1),by omega,j+1,t',rfl,rfl,by omega,⟨hsz6,q0.1,q1,q3,q4,q5.1⟩,I5.below hB6⟩
  ·gi_wp2
   have hl5:=I5.hl;rw [←htl] at hl5;refine bodyPost_end (results_none rfl _ _ _) rfl ⟨⟨_,rfl⟩, .inr ⟨.ret,hl5,wpIn_ret ?_⟩⟩;generalize hW6:W5.putObj (W0.heap.size+1) _=W6;have hbig:=I5.big;have h6:∀ j,j≠W0.heap.size+1→W6.heap[j]? = W5.heap[j]?:=fun j hj=>by rw [←hW6];exact World.putObj_heap_other hj
   have hD6:W6.heap[D]? = some (.deferred (some [])):=(h6 D (by omega)).trans I5.hD;have hO6:W6.heap[n0+2]? = some (.cells #[x3] 72 (0,0)):=(h6 _ (by omega)).trans (by rw [I5.hO,hx3]);have hb6:Below n0 w W6:=I5.wb.trans ⟨by rw [←hW6];rfl,by rw [←hW6];rfl,by rw [←hW6];rfl,by rw [←hW6];simp [World.putObj],fun j hj=>h6 j (by omega)⟩;have hs6:W6.heap.size=W5.heap.size:=by rw [←hW6];simp [World.putObj]
   clear hW6;dsimp only [Exit.inBlock,Exit.then];subst hD;show bodyPostM Fence.wide 1001 prog f143 _ .ret _ _;have hDc:=hD6;refine ⟨by simp, .inl ⟨_,_,rfl,run_takeDeferred hDc,?_⟩⟩;have hne:n0+2≠W0.heap.size:=by omega
   have cO7:(W6.putObj W0.heap.size (.deferred none)).cell? ⟨n0+2,0,none⟩=some x3:=aE ((World.putObj_heap_other hne).trans hO6) rfl;refine ⟨x3,?_,?_,_,rfl,?_⟩
   ·simp [results,show f143.results = #[.cell 4 72] from rfl,go_sem,cO7]
   ·rw [hn0];exact hb6.trans (belowK_b (w:=w) (by omega) W6 W0.heap.size _ _ (by omega) hDc rfl rfl)
   ·obtain rfl:j=k:=hj1;refine aF.mono _ (fun b o hb ho hc=>?_) (aF.mono _ hk5 s3);have hne1:b≠W0.heap.size+1:=by rintro rfl;rw [I5.hl] at ho;cases ho;cases hc
    have hne2:b≠W0.heap.size:=by
     intro e;rw [e,I5.hD] at ho;cases ho;cases hc
    exact ⟨fun h=>hb (.inl h),(World.putObj_heap_other hne2).trans ((h6 b hne1).trans ho)⟩
end Go.Sy
namespace Go.Sy
open Go Go.Proofs Go.RowKit Tryz Ord
attribute [local go_sem] Oper.semAt_some
theorem DX {W:World} {b n:Nat} {D:DataW Value} {q:Int} {v:Value} (h:W.ownsMap prog 5 hR b n D) (hq:(Lit.int .u8 q).wf=true) (hat:∀ z,D.atKey (.int .u8 q) z = .held v):(Instr.lookup 206 (.map (some b)) (.int .u8 q) true).run prog W = .ok (.tuple #[v, .bool true]) W:=by
 obtain ⟨es,clk,hb,F,_,rfl⟩:=h;obtain ⟨i,zv,hi,hz,hzc,_,_⟩:=cV (show iZ prog 204=some [.slice none 0 0, .nilFunc] by kernel_rfl);have hzr:(zeroValue 204).run prog W = .ok zv W:=by simp [zeroValue,typeInfo,hi,hz]
 rcases Maps.fit_look true (Maps.int_keyed TB) NP hzr hb F (Maps.keyOf_int_mk TB hq) with ⟨_,_,h2⟩ | ⟨e0,y,_,_,hrun,hR0,h2,_⟩
 ·have:=(h2 .nil).symm.trans (hat .nil);cases this
 ·have h3:=(h2 .nil).symm.trans (hat .nil);have h4:y=(DataW.held e0.val,[]):=(Option.some.inj hR0).symm;rw [h4] at h3;have h5:e0.val=v:=by injection h3
  rw [h5] at hrun;exact hrun
theorem PF {P:Program} {W:World} {b T:Nat} {c0 c1 u0 u1:Value} (h:W.heap[b]? = some (.cells #[c0,c1] T (0,0))) (o0:u0.oneCell'=true) (o1:u1.oneCell'=true) :
  (((store ⟨b,0,none⟩ u0).run P W).andThen fun _ w'=>(store ⟨b,1,none⟩ u1).run P w') = .ok () (W.setRow b #[u0,u1]):=by
 rw [fG h (by simp) o0,Result.andThen_ok,fG (setRow_heap W b _ _ T (0,0) h) (by simp) o1,setRow_setRow];rfl
set_option maxRecDepth 100000 in
set_option maxHeartbeats 1000000 in
theorem Hu (M:Nat→Prop) (w:World) (hM:cM M w) (q:Int) (one:List Rat) (nx:Nat→List Rat→List Rat→List Rat) (F:FuncId) (caps:List aF) (k:Nat) (hk:k≤40)
  (hd:∀ j,j<k→aJ prog F ([.one (.int .i64 ((j+1:Nat):Int)), .one (sQ (dD one nx j).2), .one (sQ (dD one nx j).1)]++caps.map .one) (.ret [.one (sQ (dD one nx (j+1)).2)]))
  (hq:∀ W v,Mo M w.heap.size W v→∃ b u f,v = .map (some b)∧(Instr.lookup 206 (.map (some b)) (.int .u8 q) true).run prog W = .ok (.tuple #[.agg #[u,f], .bool true]) W∧aL M W [sQ one, .dK F caps] [u,f]) :
  Calls prog 54 #[.int .u8 q, .int .i64 (k:Int)] w fun e w'=>Below w.heap.size w w'∧∃ v,e = .returned (.tuple #[v, .int .i64 0])∧(sQ (dD one nx k).1).rep M w' v:=by
 refine calls_of_wp func54 rfl ?_;simp only [ntmps54,List.size_toArray,List.length_cons,List.length_nil,Nat.reduceAdd,Nat.reduceSub,Array.replicate_succ,Array.replicate_zero,List.push_toArray,List.append_toArray,List.nil_append,List.cons_append]
 go_wp2_with (go_at_call 142;refine (DK M w hM).mono ?_)
 rintro e w1 ⟨hb1,v,rfl,hF⟩;obtain ⟨b,u,f,rfl,hlook,hr⟩:=hq w1 v hF
 go_wp2
 obtain ⟨o0,o1⟩:u.oneCell'=true∧f.oneCell'=true:=⟨hr.one _ (by simp),hr.one _ (by simp)⟩
 have hnew:=heap_alloc_new w1 (.cells #[.slice none 0 0, .nilFunc] 204);rw [PF hnew o0 o1];obtain ⟨W2,hW2⟩:∃ W2,(w1.alloc (.cells #[.slice none 0 0, .nilFunc] 204)).setRow w1.heap.size #[u,f]=W2:=⟨_,rfl⟩
 have hself:W2.heap[w1.heap.size]? = some (.cells #[u,f] 204 (0,0)):=by rw [←hW2];exact setRow_heap _ _ _ _ _ _ hnew
 have hb2:Below w1.heap.size w1 W2:=by rw [←hW2];exact below_setRow ((Below.refl _ w1).alloc (Nat.le_refl _) _) (Nat.le_refl _) _
 rw [hW2];clear hW2 hlook;have c0:W2.cell? ⟨w1.heap.size,0,none⟩=some u:=aE hself rfl;have c1:W2.cell? ⟨w1.heap.size,1,none⟩=some f:=aE hself rfl;have hB2:Below w.heap.size w W2:=hb1.trans (hb2.mono hb1.size);have hM2:cM M W2:=⟨fun b hb=>Nat.lt_of_lt_of_le (hM.1 b hb) hB2.size,hM.2.below rfl hB2⟩
 have k0:¬ ((k:Int)<0):=by omega
 have k40:¬ ((40:Int)<(k:Int)):=by omega
 have hmem:=callsIn_wide.1 (HN M W2 hM2 one nx F caps k (by omega) hd u f (hr.mono (bF.below hb2)))
 go_wp2_with (go_at_call 143;refine hmem.mono ?_)
 rintro e w3 hb3 v rfl hv
 go_wp2
 simp [bodyPost,results,show f54.results = #[.tmp 4, .tmp 5] from rfl,go_sem];exact ⟨hB2.trans (hb3.mono hB2.size),hv⟩
theorem BK {M:Nat→Prop} {n0:Nat} {W:World} {v:Value} (h:Mo M n0 W v) :
  (∃ b u f,v = .map (some b)∧(Instr.lookup 206 (.map (some b)) (.int .u8 3) true).run prog W = .ok (.tuple #[.agg #[u,f], .bool true]) W∧aL M W [sQ [0,1], .dK 220 []] [u,f]) ∧
  (∃ b u f,v = .map (some b)∧(Instr.lookup 206 (.map (some b)) (.int .u8 5) true).run prog W = .ok (.tuple #[.agg #[u,f], .bool true]) W∧aL M W [sQ fU, .dK 223 [.bM [sQ fU]]] [u,f]):=by
 obtain ⟨b,n,D,u3,u5,p1,rfl,_,hown,h3,r3,h5,r5,rp⟩:=h.ex;exact ⟨⟨b,u3,_,rfl,DX hown (by decide) h3,r3,⟨[],rfl,trivial⟩,trivial⟩,⟨b,u5,_,rfl,DX hown (by decide) h5,r5,⟨[p1],rfl,rp,trivial⟩,trivial⟩⟩
end Go.Sy
