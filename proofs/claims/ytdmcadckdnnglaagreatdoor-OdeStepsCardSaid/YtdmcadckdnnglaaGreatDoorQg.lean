/- Reach, by hand: it writes what it has found through a closure, under a deferred recover. The law's own examples.
-/
import Derived.Test.YtdmcadckdnnglaaGreatDoorQf
import Derived.RecoverIn
import Derived.TacticsInMore
import Derived.BigRegion
import Derived.Test.YtdmcadckdnnglaaGreatDoorTb
set_option linter.unusedVariables false
set_option linter.unusedSimpArgs false
namespace Go.Sy
open Go Go.Proofs Go.RowKit Tryz Ord
attribute [local go_sem] Oper.semAt_some
theorem aB1 {P:Program} {W:World} {b T:Nat} {c0 c1 c2 c3 c4 c5 c6 c7 c8 u0 u1 u2 u3 u4 u5 u6 u7 u8:Value} (h:W.heap[b]? = some (.cells #[c0,c1,c2,c3,c4,c5,c6,c7,c8] T (0,0))) (o:∀ u ∈ [u0,u1,u2,u3,u4,u5,u6,u7,u8],u.oneCell'=true) :
  (((store ⟨b,0,none⟩ u0).run P W).andThen fun _ w=>((store ⟨b,1,none⟩ u1).run P w).andThen fun _ w=>((store ⟨b,2,none⟩ u2).run P w).andThen fun _ w=>((store ⟨b,3,none⟩ u3).run P w).andThen fun _ w=>((store ⟨b,4,none⟩ u4).run P w).andThen fun _ w=>((store ⟨b,5,none⟩ u5).run P w).andThen fun _ w=>((store ⟨b,6,none⟩ u6).run P w).andThen fun _ w=>((store ⟨b,7,none⟩ u7).run P w).andThen fun _ w=>(store ⟨b,8,none⟩ u8).run P w) = .ok () (W.setRow b #[u0,u1,u2,u3,u4,u5,u6,u7,u8]):=by
 have s0:(store ⟨b,0,none⟩ u0).run P W = .ok () (W.setRow b #[u0,c1,c2,c3,c4,c5,c6,c7,c8]):=by
  rw [kN h (by simp) (o _ (by simp))];rfl
 have s1:(store ⟨b,1,none⟩ u1).run P (W.setRow b #[u0,c1,c2,c3,c4,c5,c6,c7,c8]) = .ok () (W.setRow b #[u0,u1,c2,c3,c4,c5,c6,c7,c8]):=by
  rw [kN (setRow_heap W b _ _ T (0,0) h) (by simp) (o _ (by simp)),setRow_setRow];rfl
 have s2:(store ⟨b,2,none⟩ u2).run P (W.setRow b #[u0,u1,c2,c3,c4,c5,c6,c7,c8]) = .ok () (W.setRow b #[u0,u1,u2,c3,c4,c5,c6,c7,c8]):=by
  rw [kN (setRow_heap W b _ _ T (0,0) h) (by simp) (o _ (by simp)),setRow_setRow];rfl
 have s3:(store ⟨b,3,none⟩ u3).run P (W.setRow b #[u0,u1,u2,c3,c4,c5,c6,c7,c8]) = .ok () (W.setRow b #[u0,u1,u2,u3,c4,c5,c6,c7,c8]):=by
  rw [kN (setRow_heap W b _ _ T (0,0) h) (by simp) (o _ (by simp)),setRow_setRow];rfl
 have s4:(store ⟨b,4,none⟩ u4).run P (W.setRow b #[u0,u1,u2,u3,c4,c5,c6,c7,c8]) = .ok () (W.setRow b #[u0,u1,u2,u3,u4,c5,c6,c7,c8]):=by
  rw [kN (setRow_heap W b _ _ T (0,0) h) (by simp) (o _ (by simp)),setRow_setRow];rfl
 have s5:(store ⟨b,5,none⟩ u5).run P (W.setRow b #[u0,u1,u2,u3,u4,c5,c6,c7,c8]) = .ok () (W.setRow b #[u0,u1,u2,u3,u4,u5,c6,c7,c8]):=by
  rw [kN (setRow_heap W b _ _ T (0,0) h) (by simp) (o _ (by simp)),setRow_setRow];rfl
 have s6:(store ⟨b,6,none⟩ u6).run P (W.setRow b #[u0,u1,u2,u3,u4,u5,c6,c7,c8]) = .ok () (W.setRow b #[u0,u1,u2,u3,u4,u5,u6,c7,c8]):=by
  rw [kN (setRow_heap W b _ _ T (0,0) h) (by simp) (o _ (by simp)),setRow_setRow];rfl
 have s7:(store ⟨b,7,none⟩ u7).run P (W.setRow b #[u0,u1,u2,u3,u4,u5,u6,c7,c8]) = .ok () (W.setRow b #[u0,u1,u2,u3,u4,u5,u6,u7,c8]):=by
  rw [kN (setRow_heap W b _ _ T (0,0) h) (by simp) (o _ (by simp)),setRow_setRow];rfl
 have s8:(store ⟨b,8,none⟩ u8).run P (W.setRow b #[u0,u1,u2,u3,u4,u5,u6,u7,c8]) = .ok () (W.setRow b #[u0,u1,u2,u3,u4,u5,u6,u7,u8]):=by
  rw [kN (setRow_heap W b _ _ T (0,0) h) (by simp) (o _ (by simp)),setRow_setRow];rfl
 rw [s0,Result.andThen_ok,s1,Result.andThen_ok,s2,Result.andThen_ok,s3,Result.andThen_ok,s4,Result.andThen_ok,s5,Result.andThen_ok,s6,Result.andThen_ok,s7,Result.andThen_ok,s8]
theorem aD4 {M:Nat→Prop} {w:World} {a b c d e f g h i:aH} {vs:List Value} (hr:aZ M w [a,b,c,d,e,f,g,h,i] vs):∃ u0 u1 u2 u3 u4 u5 u6 u7 u8,vs = [u0,u1,u2,u3,u4,u5,u6,u7,u8]:=by
 have hl:=hr.length
 match vs,hl with
 | [u0,u1,u2,u3,u4,u5,u6,u7,u8],_=>exact ⟨_,_,_,_,_,_,_,_,_,rfl⟩
theorem bc5 {M:Nat→Prop} {w:World} {a b c d e:aH} {vs:List Value} (hr:aZ M w [a,b,c,d,e] vs):∃ u0 u1 u2 u3 u4,vs = [u0,u1,u2,u3,u4]:=by
 have hl:=hr.length
 match vs,hl with
 | [u0,u1,u2,u3,u4],_=>exact ⟨_,_,_,_,_,rfl⟩
theorem am8 {M:Nat→Prop} {w:World} {cs:List aH} {vs:List Value} (h:cI M w [.agg cs] vs):∃ us,pack vs = .agg us.toArray∧aZ M w cs us:=by
 match vs,h with
 | [v],h=>
   obtain ⟨us,rfl,hus⟩:=h.1;exact ⟨us,rfl,hus⟩
 | [],h=>exact h.elim
 | _::_::_,h=>exact h.2.elim
abbrev yE (q:List (List Rat)) (m:Nat) (lead aJ:Rat) (st:Int):List aH:=([eQ q, .int .i64 m]++qC lead)++qC aJ ++ [.int .i64 st]
set_option maxRecDepth 100000 in
set_option maxHeartbeats 400000 in
theorem Ou (M:Nat→Prop) (w:World) (hM:dL M w) (e:List (List Rat)) (c:Rat) (q:List (List Rat)) (m:Nat) (lead aJ:Rat) (st:Int)
  (hat:aM prog 100 [.one (eQ e),qT c] (.ret [xA q m lead])) (hre:aM prog 123 [xA q m lead] (.ret [.agg (yE q m lead aJ st)]))
  (b0 b1 A:Nat) (ev u0 u1 u2:Value) (T0 T1:Nat) (z0 z1 z2 z3 z4 z5 z6 z7 z8:Value) (h0:w.heap[b0]? = some (.cells #[ev] T0 (0,0))) (h1:w.heap[b1]? = some (.cells #[u0,u1,u2] T1 (0,0))) (hA:w.heap[A]? = some (.cells #[z0,z1,z2,z3,z4,z5,z6,z7,z8] 185 (0,0)))
  (hMA:M A) (he:(eQ e).rep M w ev) (hc:aZ M w (qC c) [u0,u1,u2]) :
  Calls prog 122 #[.pointer (some ⟨b0,0,none⟩), .pointer (some ⟨b1,0,none⟩), .pointer (some ⟨A,0,none⟩)] w fun e w'=>e = .returned (.tuple #[])∧w.grownBy w' (some A) ∧
   ∃ y0 y1 y2 y3 y4 y5 y6 y7 y8,w'.heap[A]? = some (.cells #[y0,y1,y2,y3,y4,y5,y6,y7,y8] 185 (0,0))∧aZ M w' (yE q m lead aJ st) [y0,y1,y2,y3,y4,y5,y6,y7,y8]:=by
 refine calls_of_wp func122 rfl ?_;simp only [ntmps122,List.size_toArray,List.length_cons,List.length_nil,Nat.reduceAdd,Nat.reduceSub,Array.replicate_succ,Array.replicate_zero,List.push_toArray,List.append_toArray,List.nil_append,List.cons_append];have c0:w.cell? ⟨b0,0,none⟩=some ev:=aI h0 rfl;have d0:w.cell? ⟨b1,0,none⟩=some u0:=aI h1 rfl;have d1:w.cell? ⟨b1,1,none⟩=some u1:=aI h1 rfl;have d2:w.cell? ⟨b1,2,none⟩=some u2:=aI h1 rfl
 have k1:Calls prog 100 #[ev, .agg #[u0,u1,u2]] w fun e w'=>Below w.heap.size w w'∧∃ s0 s1 s2 s3 s4,e = .returned (.agg #[s0,s1,s2,s3,s4])∧aZ M w' ([eQ q, .int .i64 m]++qC lead) [s0,s1,s2,s3,s4]:=by
  refine (hat.2 M w [ev, .agg #[u0,u1,u2]] hM ⟨he,⟨[u0,u1,u2],rfl,hc⟩,trivial⟩).mono ?_;rintro e w' ⟨hb,vs,rfl,hvs⟩;obtain ⟨us,e1,hus⟩:=am8 hvs;obtain ⟨s0,s1,s2,s3,s4,rfl⟩:=bc5 hus;exact ⟨hb,s0,s1,s2,s3,s4,by rw [e1],hus⟩
 obtain ⟨la,hla⟩:∃ la,w.heap.size=la:=⟨_,rfl⟩
 have hAl:A<w.heap.size:=hM.1 A hMA
 go_wp2_with (go_at_call 100;refine k1.mono ?_;clear k1;rintro e w1 ⟨hb1,s0,s1,s2,s3,s4,rfl,hs⟩)
 have hM1:dL M w1:=⟨fun b hb=>Nat.lt_of_lt_of_le (hM.1 b hb) hb1.size,hM.2.below rfl hb1⟩
 refine (hre.2 M w1 [.agg #[s0,s1,s2,s3,s4]] hM1 ⟨⟨_,rfl,hs⟩,trivial⟩).mono ?_;rintro e w2 ⟨hb2,vs,rfl,hvs⟩;obtain ⟨us,e1,hus⟩:=am8 hvs;obtain ⟨y0,y1,y2,y3,y4,y5,y6,y7,y8,rfl⟩:=aD4 hus;rw [e1];have hA2:w2.heap[A]? = some (.cells #[z0,z1,z2,z3,z4,z5,z6,z7,z8] 185 (0,0)):=(hb2.block A (Nat.lt_of_lt_of_le hAl hb1.size)).trans ((hb1.block A hAl).trans hA)
 go_wp2
 rw [aB1 hA2 hus.one]
 have hg:w.grownBy (w2.setRow A #[y0,y1,y2,y3,y4,y5,y6,y7,y8]) (some A):=by
  have hb:=hb1.trans (hb2.mono hb1.size);refine ⟨hb.os,hb.tape,hb.output,by have:=hb.size;simpa [World.setRow] using this,fun k hk hne=>?_⟩;rw [setRow_other _ _ _ _ (fun e=>hne (by rw [e]))];exact hb.block k hk
 have hk:bZ M w2 M (w2.setRow A #[y0,y1,y2,y3,y4,y5,y6,y7,y8]):=fun b o hb ho _=>⟨hb,by rw [setRow_other _ _ _ _ (fun e=>hb (by rw [e];exact hMA))];exact ho⟩
 have hself:(w2.setRow A #[y0,y1,y2,y3,y4,y5,y6,y7,y8]).heap[A]? = some (.cells #[y0,y1,y2,y3,y4,y5,y6,y7,y8] 185 (0,0)):=setRow_heap _ _ _ _ _ _ hA2;generalize w2.setRow A #[y0,y1,y2,y3,y4,y5,y6,y7,y8]=w3 at *
 go_wp2
 refine bodyPost_end (results_none rfl _ _ _) rfl ?_;exact ⟨rfl,hg,y0,y1,y2,y3,y4,y5,y6,y7,y8,hself,hus.mono hk⟩
theorem Lp (p:Addr) (w:World) :
  CallsD prog 201 #[.pointer (some p)] .returning w fun e u' w'=>e = .returned (.tuple #[])∧u' = .returning∧w'=w:=by
 refine callsD_of_wpS func201 rfl fun c₀ cs hu=>?_;apply wpS_seq;apply wpS_region;simp [wpOpsS,go_sem,recoverD,hu,ntmps201,Exit.thenS];apply wpS_seq;apply wpS_region;simp [wpOpsS,go_sem,Exit.thenS];refine wpS_cond (t:=false) (by simp [Act.eval,Array.replicate]) ?_;simp only [Bool.false_eq_true,if_false];refine wpS_of_wp (wp_skip ?_);cases c₀
 simp_all [bodyPostS,results,show f201.results = #[] from rfl]
theorem EU (g:FuncId) (caps:Array Value) (w:World) (Pw:World→Prop) (eg:∀ args w,(callFunc g args).run prog w = .ok (.enter g args) w)
  (h:Calls prog g caps (w.alloc (.cells #[.int .i64 0] 55)) fun e w'=>e = .returned (.tuple #[])∧w'.heap[w.heap.size]? = some (.cells #[.int .i64 0] 55 (0,0))∧Pw w') :
  Calls prog 121 #[.func (.func g) #[] caps] w fun e w'=>e = .returned (.int .i64 0)∧∃ w1,Pw w1∧w'=w1.setRow w.heap.size #[.int .i64 0]∧w1.heap[w.heap.size]? = some (.cells #[.int .i64 0] 55 (0,0)):=by
 have hmf:∀ (fn:Fn) (first cap:Array Value) (w:World),(Instr.makeFunc fn first cap).run prog w = .ok (.func fn first cap) w:=fun _ _ _ _=>rfl
 go_enter_defers func121,ntmps121
 go_wp2
 refine h.mono ?_;rintro e w1 ⟨rfl,hb,hP⟩;have cb:w1.cell? ⟨w.heap.size,0,none⟩=some (.int .i64 0):=aI hb rfl;have fb:w1.frozen? ⟨w.heap.size,0,none⟩=false:=by simp [World.frozen?,hb]
 go_wp2
 refine leaves_cons (f:=201) (args:=#[.pointer (some ⟨w.heap.size,0,none⟩)]) (by simp) (by simp [go_sem]) ?_;refine (Lp ⟨w.heap.size,0,none⟩ _).mono ?_;rintro e u' w'' ⟨rfl,rfl,rfl⟩;rw [setCell_eq_setRow w1 w.heap.size 0 _ _ _ _ hb,show (#[Value.int .i64 0].setIfInBounds 0 (.int .i64 0)) = #[Value.int .i64 0] from rfl];have hb2:(w1.setRow w.heap.size #[Value.int .i64 0]).heap[w.heap.size]? = some (.cells #[.int .i64 0] 55 (0,0)):=setRow_heap _ _ _ _ _ _ hb;have cb2:(w1.setRow w.heap.size #[Value.int .i64 0]).cell? ⟨w.heap.size,0,none⟩=some (.int .i64 0):=aI hb2 rfl;simp [Leaves,settle,results,show f121.results = #[.cell 2 55] from rfl,go_sem,cb2];exact ⟨w1,hP,rfl,hb⟩
set_option maxRecDepth 100000 in
set_option maxHeartbeats 400000 in
theorem Sh (M:Nat→Prop) (w:World) (hM:dL M w) (e:List (List Rat)) (c:Rat) (q:List (List Rat)) (m:Nat) (lead aJ:Rat) (st:Int)
  (hce:aM prog 19 [.one (eQ e)] (.ret [.one (.int .i64 0)])) (hrg:aM prog 97 [.one (eQ e),qT c] (.ret [.one (.bool true)]))
  (hat:aM prog 100 [.one (eQ e),qT c] (.ret [xA q m lead])) (hre:aM prog 123 [xA q m lead] (.ret [.agg (yE q m lead aJ st)]))
  (ev u0 u1 u2:Value) (he:(eQ e).rep M w ev) (hc:aZ M w (qC c) [u0,u1,u2]) :
  Calls prog 41 #[ev, .agg #[u0,u1,u2]] w fun e w'=>Below w.heap.size w w'∧∃ y0 y1 y2,e = .returned (.tuple #[.agg #[y0,y1,y2], .int .i64 st, .int .i64 0])∧aZ M w' (qC aJ) [y0,y1,y2]:=by
 have hmf:∀ (fn:Fn) (first cap:Array Value) (w:World),(Instr.makeFunc fn first cap).run prog w = .ok (.func fn first cap) w:=fun _ _ _ _=>rfl;obtain ⟨n0,hn0⟩:∃ n0,w.heap.size=n0:=⟨_,rfl⟩
 obtain ⟨o0,o1,o2⟩:u0.oneCell'=true∧u1.oneCell'=true∧u2.oneCell'=true:=by have:=hc.one;exact ⟨this _ (by simp),this _ (by simp),this _ (by simp)⟩
 refine calls_of_wp func41 rfl ?_;simp only [ntmps41,List.size_toArray,List.length_cons,List.length_nil,Nat.reduceAdd,Nat.reduceSub,Array.replicate_succ,Array.replicate_zero,List.push_toArray,List.append_toArray,List.nil_append,List.cons_append]
 obtain ⟨ea,ecap,rfl,_⟩:∃ ea ecap,ev = .slice ea e.length ecap∧True:=by
  have he':=he;obtain ⟨ea,ecap,rfl,_⟩:=he';exact ⟨ea,ecap,by rw [List.length_map],trivial⟩
 obtain ⟨Wa,hWa⟩:∃ Wa,(((w.alloc (.cells #[.slice ea e.length ecap] 32)).alloc (.cells #[u0,u1,u2] 39)).alloc (.cells #[.slice none 0 0, .bool false, .slice none 0 0] 39))=Wa:=⟨_,rfl⟩
 have hsa:Wa.heap.size=n0+3:=by rw [←hWa];simp [hn0]
 have hEa:Wa.heap[n0]? = some (.cells #[.slice ea e.length ecap] 32 (0,0)):=by rw [←hWa,heap_alloc_old _ _ _ (by simp;omega),heap_alloc_old _ _ _ (by simp;omega),←hn0];exact heap_alloc_new w _
 have hCa:Wa.heap[n0+1]? = some (.cells #[u0,u1,u2] 39 (0,0)):=by
  rw [←hWa,heap_alloc_old _ _ _ (by simp;omega)];have:=heap_alloc_new (w.alloc (.cells #[.slice ea e.length ecap] 32)) (.cells #[u0,u1,u2] 39);rw [World.size_alloc,hn0] at this;exact this
 have hRa:Wa.heap[n0+2]? = some (.cells #[.slice none 0 0, .bool false, .slice none 0 0] 39 (0,0)):=by
  rw [←hWa];have:=heap_alloc_new ((w.alloc (.cells #[.slice ea e.length ecap] 32)).alloc (.cells #[u0,u1,u2] 39)) (.cells #[.slice none 0 0, .bool false, .slice none 0 0] 39);rw [World.size_alloc,World.size_alloc,hn0] at this;exact this
 have hBa:Below w.heap.size w Wa:=by
  rw [←hWa];exact (((Below.refl _ w).alloc (by omega) _).alloc (by simp) _).alloc (by simp;omega) _
 have hka:bZ M w M Wa:=bZ.below hBa;have hMa:dL M Wa:=⟨fun b hb=>Nat.lt_of_lt_of_le (hM.1 b hb) hBa.size,hM.2.jD hka⟩
 have he0:=he;have hc0:=hc;replace he:=aH.mono _ hka he;replace hc:=hc.mono hka;have cE:Wa.cell? ⟨n0,0,none⟩=some (.slice ea e.length ecap):=aI hEa rfl
 have k1:Calls prog 19 #[.slice ea e.length ecap] Wa fun r w'=>Below Wa.heap.size Wa w'∧r = .returned (.int .i64 0):=by
  refine (hce.2 M Wa [.slice ea e.length ecap] hMa ⟨he,trivial⟩).mono ?_;rintro r w' ⟨hb,vs,rfl,hvs⟩;obtain ⟨v,e1,hr⟩:=OP hvs;rw [hr.1] at e1;exact ⟨hb,by rw [e1]⟩
 have k2:∀ w1,Below Wa.heap.size Wa w1→Calls prog 97 #[.slice ea e.length ecap, .agg #[u0,u1,u2]] w1 fun r w'=>Below w1.heap.size w1 w'∧r = .returned (.bool true):=by
  intro w1 hb;refine (hrg.2 M w1 [.slice ea e.length ecap, .agg #[u0,u1,u2]] ⟨fun b h=>Nat.lt_of_lt_of_le (hMa.1 b h) hb.size,hMa.2.below rfl hb⟩ ⟨aH.mono _ (bZ.below hb) he,⟨_,rfl,hc.mono (bZ.below hb)⟩,trivial⟩).mono ?_;rintro r w' ⟨hb,vs,rfl,hvs⟩;obtain ⟨v,e1,hr⟩:=OP hvs;rw [hr.1] at e1;exact ⟨hb,by rw [e1]⟩
 go_wp2_with (first | (go_at_call 19;refine k1.mono ?_;clear k1;rintro r w1 ⟨hb1,rfl⟩;have cE1:w1.cell? ⟨n0,0,none⟩=some (.slice ea e.length ecap):=aI ((hb1.block n0 (by omega)).trans hEa) rfl;have cC0:w1.cell? ⟨n0+1,0,none⟩=some u0:=aI ((hb1.block (n0+1) (by omega)).trans hCa) rfl;have cC1:w1.cell? ⟨n0+1,1,none⟩=some u1:=aI ((hb1.block (n0+1) (by omega)).trans hCa) rfl;have cC2:w1.cell? ⟨n0+1,2,none⟩=some u2:=aI ((hb1.block (n0+1) (by omega)).trans hCa) rfl) | (go_at_call 97;refine (k2 _ hb1).mono ?_;clear k2;rintro r w2 ⟨hb2,rfl⟩))
 obtain ⟨A,hA⟩:∃ A,w2.heap.size=A:=⟨_,rfl⟩
 obtain ⟨W3,hW3⟩:∃ W3,w2.alloc (.cells #[.slice none 0 0, .int .i64 0, .slice none 0 0, .bool false, .slice none 0 0, .slice none 0 0, .bool false, .slice none 0 0, .int .i64 0] 185)=W3:=⟨_,rfl⟩
 have hb2':=hb1.trans (hb2.mono hb1.size);have hs2:n0+3≤A:=by have:=hb2'.size;omega
 have hs3:W3.heap.size=A+1:=by rw [←hW3,World.size_alloc,hA]
 have hA3:W3.heap[A]? = some (.cells #[.slice none 0 0, .int .i64 0, .slice none 0 0, .bool false, .slice none 0 0, .slice none 0 0, .bool false, .slice none 0 0, .int .i64 0] 185 (0,0)):=by rw [←hW3,←hA];exact heap_alloc_new w2 _
 have hB3:Below Wa.heap.size Wa W3:=by rw [←hW3];exact hb2'.alloc (by omega) _
 rw [hA,hW3];obtain ⟨W4,hW4⟩:∃ W4,W3.alloc (.cells #[.int .i64 0] 55)=W4:=⟨_,rfl⟩
 have hB4:Below Wa.heap.size Wa W4:=by rw [←hW4];exact hB3.alloc (by omega) _
 have hs4:W4.heap.size=A+2:=by rw [←hW4,World.size_alloc,hs3]
 have hA4:W4.heap[A]? = some (.cells #[.slice none 0 0, .int .i64 0, .slice none 0 0, .bool false, .slice none 0 0, .slice none 0 0, .bool false, .slice none 0 0, .int .i64 0] 185 (0,0)):=by rw [←hW4,heap_alloc_old _ _ _ (by omega)];exact hA3
 have hX4:W4.heap[W3.heap.size]? = some (.cells #[.int .i64 0] 55 (0,0)):=by rw [←hW4];exact heap_alloc_new W3 _
 have hk4:bZ M w (fun b=>M b∨b=A∨b=n0+2) W4:=fun b o hb ho _=>by
  have hlt:=(Array.getElem?_eq_some_iff.1 ho).1;have h3:b<Wa.heap.size:=by omega
  exact ⟨fun h=>h.elim hb (fun h=>by omega),(hB4.block b h3).trans ((hBa.block b hlt).trans ho)⟩
 have hM4:dL (fun b=>M b∨b=A∨b=n0+2) W4:=⟨fun b h=>h.elim (fun h=>Nat.lt_of_lt_of_le (hMa.1 b h) hB4.size) (fun h=>by omega),hM.2.jD hk4⟩
 have hr1:=Ou (fun b=>M b∨b=A∨b=n0+2) W4 hM4 e c q m lead aJ st hat hre n0 (n0+1) A (.slice ea e.length ecap) u0 u1 u2 _ _ _ _ _ _ _ _ _ _ _ ((hB4.block _ (by omega)).trans hEa) ((hB4.block _ (by omega)).trans hCa) hA4 (.inr (.inl rfl)) (aH.mono _ hk4 he0) (hc0.mono hk4)
 have hc1:=EU 122 #[.pointer (some ⟨n0,0,none⟩), .pointer (some ⟨n0+1,0,none⟩), .pointer (some ⟨A,0,none⟩)] W3 (fun w'=>W4.grownBy w' (some A)∧∃ y0 y1 y2 y3 y4 y5 y6 y7 y8,w'.heap[A]? = some (.cells #[y0,y1,y2,y3,y4,y5,y6,y7,y8] 185 (0,0))∧aZ (fun b=>M b∨b=A∨b=n0+2) w' (yE q m lead aJ st) [y0,y1,y2,y3,y4,y5,y6,y7,y8]) (bR (by kernel_rfl)) (by
  rw [hW4];refine hr1.mono ?_;rintro r w' ⟨rfl,hg,hy⟩;exact ⟨rfl,(hg.block _ (by omega) (fun e=>by simp only [Option.some.injEq] at e;omega)).trans hX4,hg,hy⟩)
 refine hc1.mono ?_;clear hc1 hr1;rintro r w7 ⟨rfl,w6,⟨hg,y0,y1,y2,y3,y4,y5,y6,y7,y8,hA6,hy⟩,rfl,hX6⟩;obtain ⟨W7,hW7⟩:∃ W7,w6.setRow W3.heap.size #[.int .i64 0]=W7:=⟨_,rfl⟩
 have h7:∀ j,j≠A+1→W7.heap[j]? = w6.heap[j]?:=fun j hj=>by rw [←hW7,setRow_other _ _ _ _ (by omega)]
 have hA7:W7.heap[A]? = some (.cells #[y0,y1,y2,y3,y4,y5,y6,y7,y8] 185 (0,0)):=(h7 A (by omega)).trans hA6;have hs7:W7.heap.size=w6.heap.size:=by rw [←hW7];simp [World.setRow]
 have ho7:W7.os=w6.os∧W7.tape=w6.tape∧W7.output=w6.output:=by rw [←hW7];exact ⟨rfl,rfl,rfl⟩
 rw [hW7]
 have hB7:Below Wa.heap.size Wa W7:=by
  refine ⟨by rw [ho7.1,hg.os,hB4.os],by rw [ho7.2.1,hg.tape,hB4.tape],by rw [ho7.2.2,hg.output,hB4.output],by have:=hg.size;omega,fun k hk=>?_⟩;rw [h7 k (by omega),hg.block k (by omega) (fun e=>by simp only [Option.some.injEq] at e;omega),hB4.block k hk]
 have hR7:W7.heap[n0+2]? = some (.cells #[.slice none 0 0, .bool false, .slice none 0 0] 39 (0,0)):=(hB7.block _ (by omega)).trans hRa;have g5:W7.cell? ⟨A,5,none⟩=some y5:=aI hA7 rfl;have g6:W7.cell? ⟨A,6,none⟩=some y6:=aI hA7 rfl;have g7:W7.cell? ⟨A,7,none⟩=some y7:=aI hA7 rfl;have g8:W7.cell? ⟨A,8,none⟩=some (.int .i64 st):=by rw [←(show y8=_ from hy.2.2.2.2.2.2.2.2.1.1)];exact aI hA7 rfl
 have p5:y5.oneCell'=true:=hy.one _ (by simp);have p6:y6.oneCell'=true:=hy.one _ (by simp);have p7:y7.oneCell'=true:=hy.one _ (by simp);have r0:W7.cell? ⟨n0+2,0,none⟩=some (.slice none 0 0):=aI hR7 rfl;have r1:W7.cell? ⟨n0+2,1,none⟩=some (.bool false):=aI hR7 rfl;have r2:W7.cell? ⟨n0+2,2,none⟩=some (.slice none 0 0):=aI hR7 rfl;have fr:∀ j,W7.frozen? ⟨n0+2,j,none⟩=false:=fun j=>by simp [World.frozen?,hR7]
 have st3:(((store ⟨n0+1+1,0,none⟩ y5).run prog W7.drew).andThen fun _ w'=>((store ⟨n0+1+1,1,none⟩ y6).run prog w').andThen fun _ w'=>(store ⟨n0+1+1,2,none⟩ y7).run prog w') = .ok () (W7.drew.setRow (n0+2) #[y5,y6,y7]):=vA (W:=W7.drew) hR7 p5 p6 p7;have hd:W7.drew.heap=W7.heap:=rfl
 have g8':(W7.drew.setRow (n0+2) #[y5,y6,y7]).cell? ⟨A,8,none⟩=some (.int .i64 st):=by
  rw [World.cell?_of_block (w:=W7.drew) (a:=⟨A,8,none⟩) (setRow_other _ _ _ _ (show A≠n0+2 by omega))];exact g8
 go_wp2
 go_region
 have hs9:(W7.drew.setRow (n0+2) #[y5,y6,y7]).heap[n0+2]? = some (.cells #[y5,y6,y7] 39 (0,0)):=setRow_heap _ _ _ _ _ _ hR7;have hb9:Below w.heap.size w (W7.drew.setRow (n0+2) #[y5,y6,y7]):=below_setRow (hBa.trans (hB7.drew.mono hBa.size)) (by omega) _
 have hk9:bZ (fun b=>M b∨b=A∨b=n0+2) w6 M (W7.drew.setRow (n0+2) #[y5,y6,y7]):=fun b o hb ho _=>by
  refine ⟨fun h=>hb (.inl h),?_⟩;rw [setRow_other _ _ _ _ (fun e=>hb (.inr (.inr e)))];show W7.heap[b]? = some o;by_cases hbx:b=A+1
  ·subst hbx;rw [hs3] at hX6 hW7;rw [hX6] at ho;rw [←ho,←hW7];exact setRow_heap _ _ _ _ _ _ hX6
  ·rw [h7 b hbx];exact ho
 generalize hW9:W7.drew.setRow (n0+2) #[y5,y6,y7]=W9 at *;have t0:W9.cell? ⟨n0+2,0,none⟩=some y5:=aI hs9 rfl;have t1:W9.cell? ⟨n0+2,1,none⟩=some y6:=aI hs9 rfl;have t2:W9.cell? ⟨n0+2,2,none⟩=some y7:=aI hs9 rfl
 go_wp2
 have hy3:aZ M W9 (qC aJ) [y5,y6,y7]:=(show aZ (fun b=>M b∨b=A∨b=n0+2) w6 (qC aJ) [y5,y6,y7] from ⟨hy.2.2.2.2.2.1,hy.2.2.2.2.2.2.1,hy.2.2.2.2.2.2.2.1,trivial⟩).mono hk9;clear hy hk9;simp [bodyPost,results,show f41.results = #[.cell 4 39, .tmp 5, .tmp 6] from rfl,go_sem,t0,t1,t2];exact ⟨hb9,y5,y6,y7,⟨rfl,rfl,rfl⟩,hy3⟩
theorem Rd {M:Nat→Prop} {w:World} {a b c:aH} {vs:List Value} (hr:aZ M w [a,b,c] vs):∃ u0 u1 u2,vs = [u0,u1,u2]:=by
 have hl:=hr.length
 match vs,hl with
 | [u0,u1,u2],_=>exact ⟨_,_,_,rfl⟩
theorem IH (e:List (List Rat)) (c:Rat) (q:List (List Rat)) (m:Nat) (lead aJ:Rat) (st:Int)
  (hce:aM prog 19 [.one (eQ e)] (.ret [.one (.int .i64 0)])) (hrg:aM prog 97 [.one (eQ e),qT c] (.ret [.one (.bool true)]))
  (hat:aM prog 100 [.one (eQ e),qT c] (.ret [xA q m lead])) (hre:aM prog 123 [xA q m lead] (.ret [.agg (yE q m lead aJ st)])) :
  aM prog 41 [.one (eQ e),qT c] (.ret [qT aJ, .one (.int .i64 st), .one (.int .i64 0)]):=by
 refine ⟨bR (by kernel_rfl),fun M w vs hM hv=>?_⟩
 match vs,hv with
 | [v,u],hv=>
   obtain ⟨us,rfl,hus⟩:=hv.2.1;obtain ⟨u0,u1,u2,rfl⟩:=Rd hus;refine (Sh M w hM e c q m lead aJ st hce hrg hat hre v u0 u1 u2 hv.1 hus).mono ?_;rintro r w' ⟨hb,y0,y1,y2,rfl,hy⟩;exact ⟨hb,[.agg #[y0,y1,y2], .int .i64 st, .int .i64 0],rfl,⟨_,rfl,hy⟩,⟨rfl,rfl⟩,⟨rfl,rfl⟩,trivial⟩
 | [],hv=>exact hv.elim
 | [_],hv=>exact hv.2.elim
 | _::_::_::_,hv=>exact hv.2.2.elim
end Go.Sy
namespace Go.Sy
open Go Go.Proofs Tryz Ord
def az8:Tr:=aK 18 [(W 0 0),(W 1 0)] [(some 5),none] [8,9] [5,3] 56 false (.ret [(G5 2)])
theorem Tt:aN prog f53 (fun _=>none) [.v none, .v none]=az8:=by kernel_rfl
def qO:Tr:=.ret [(tF false)]
def UX:Tr:=aU .eql 3 48 0 21 0 4 (.split (.u 22 0) (aK 90 [(G3 4)] [none] [52] [39] 9 false (.need (.prim [(W 23 0),(.one (.c (.k (.string ⟨#[52]⟩))))] none) (.binOp .eql 9 (tT 53) (.const (.string ⟨#[52]⟩)) 9) 4 false (.split (.u 24 0) (aU .eql 3 57 4 5 0 4 (.ret [(W 25 0)])) qO))) qO)
def WZ:Tr:=dI 15 0 (some 3) 39 39 (aK 90 [(G3 16)] [none] [40] [39] 9 false (.need (.prim [(W 17 0),(.one (.c (.k (.string ⟨#[49,47,49,56,48]⟩))))] none) (.binOp .eql 9 (tT 41) (.const (.string ⟨#[49,47,49,56,48]⟩)) 9) 4 false (.split (.u 18 0) (.need (.prim [(W 1 0),(WK 5)] none) (.indexAddr 40 (tT 45) (.const (I3 5))) 0 false (dI 19 0 (some 3) 39 46 (aK 35 [(G3 20)] [none] [47] [39] 3 false UX))) qO)))
def VE:Tr:=.split (.u 10 0) (.need (.prim [(W 1 0),(WK 3)] none) (.indexAddr 40 (tT 31) (.const (I3 3))) 0 false (dI 11 0 (some 3) 39 32 (aK 90 [(G3 12)] [none] [33] [39] 9 false (.need (.prim [(W 13 0),(.one (.c (.k (.string ⟨#[49,47,54]⟩))))] none) (.binOp .eql 9 (tT 34) (.const (.string ⟨#[49,47,54]⟩)) 9) 4 false (.split (.u 14 0) (.need (.prim [(W 1 0),(WK 6)] none) (.indexAddr 40 (tT 38) (.const (I3 6))) 0 false WZ) qO))))) qO
def am2:Tr:=aK 41 [(W 3 0),(.agg [tN,(tE (.bool false)),tN])] [(some 3),none,none] [13,14] [32,39] 84 false (aU .eql 55 19 0 2 0 4 (.split (.u 7 0) (aU .eql 55 22 0 6 0 4 (.split (.u 8 0) (cB 1 0 26 40 (aU .eql 3 27 7 9 0 4 VE)) qO)) qO))
def ah6:Tr:=.need (.call 53 [(.one (.c (.k (.int .u8 3)))),(WK 0)] [(some 5)]) (.call ⟨.value (.func 53),#[(.const (.int .u8 3)),(.const (I3 0))],#[5,3]⟩) 42 false (.need (.call 26 [(G5 0),(WK 7)] [none,none]) (.call ⟨.value (.func 26),#[(tT 7),(.const (I3 7))],#[42,3]⟩) 66 false (.need (.call 53 [(.one (.c (.k (.int .u8 1)))),(WK 0)] [(some 5)]) (.call ⟨.value (.func 53),#[(.const (.int .u8 1)),(.const (I3 0))],#[5,3]⟩) 42 false am2))
theorem Ty:aN prog f16 (fun _=>none) []=ah6:=by kernel_rfl
theorem HY (k:Nat) (n:Int) (hk:k<256) (h1:-9223372036854775808≤n) (h2:n<9223372036854775808):aM prog 53 [(.one (.int .u8 k):aF),(.one (.int .i64 n):aF)] (.ret [fT (kO k n).1 0 (kO k n).2.1]):=by
 refine aD (args:=[.v none, .v none]) (ins:=[.v (.one (.int .u8 k)), .v (.one (.int .i64 n))]) (hints:=(fun _=>none)) fo (by kernel_rfl) func53 ⟨rfl,rfl,trivial⟩ ?_;rw [Tt];dsimp only [List.map,In.env,aB,aA];refine aC (Sx k n hk h1 h2) rfl ?_;exact aL rfl
instance fitDec (B:Nat) (q:Rat):Decidable (Fit B q):=inferInstanceAs (Decidable (_∧_))
instance bdDec (D S:Nat) (q:Rat):Decidable (Bd D S q):=inferInstanceAs (Decidable (_∧_))
theorem k3:kO 3 0=([[0,-1],[],[1]],[1,0],0):=by decide +kernel
theorem k1':kO 1 0=([[-1],[1]],[1],0):=by decide +kernel
theorem mv3:bH [[0,-1],[],[1]] 0 = [[0,-1],[],[1]]:=by decide +kernel
theorem mv1:bH [[-1],[1]] 0 = [[-1],[1]]:=by decide +kernel
theorem ld3:aQ [[0,-1],[],[1]] 0=1:=by decide +kernel
theorem ld1:aQ [[-1],[1]] 0=1:=by decide +kernel
theorem cf3:Cg [[0,-1],[],[1]] 0 [1,0] 7=([1,0,0,1/6,0,0,1/180],0):=by decide +kernel
theorem WH:fU 64 [[0,-1],[],[1]] 2 1 [1,0] 7 where
 flead:=by decide +kernel
 fy:=by decide +kernel
 fq:=by decide +kernel
 ffall:=fun n i hn hi z hz j hj=>by
  have h:=mH (z:=z) (N:=9) j (by omega);have h2:9^j≤9^2:=Nat.pow_le_pow_right (by omega) (by omega);exact Fit.int (by omega) (by omega)
 ffac:=by decide +kernel
 fa:=by decide +kernel
 fx:=by
  have h:∀ n,n<7→∀ i,i<3→∀ k,k<3→Fit 64 (inner (([[0,-1],[],[1]]:List (List Rat)).getD i []) (aV [[0,-1],[],[1]] 2 1 [1,0] n) 2 n i (outer [[0,-1],[],[1]] (aV [[0,-1],[],[1]] 2 1 [1,0] n) 2 n i) k):=by decide +kernel
  intro n i k hn _ hi hk;have hl:∀ i,i<3→(([[0,-1],[],[1]]:List (List Rat)).getD i []).length≤2:=by decide
  have:=hl i hi;exact h n hn i hi k (by omega)
theorem aR3:Jv 64 [[-1],[1]] 1 1 1 0 2 1 where
 flead:=by decide +kernel
 fq:=by decide +kernel
 frho:=by decide +kernel
 fs:=by decide +kernel
 fm:=fun i hi _=>by
  have h1:∀ i,i≤1→∀ j,j≤3→Fit 64 (((((2*2^i:Nat):Int)-(1:Nat)+1:Int):Rat)^j):=by decide +kernel
  have h2:∀ i,i≤1→∀ j,j<2→∀ k,k≤(([[-1],[1]]:List (List Rat)).getD j []).length→Fit 64 (gQ (([[-1],[1]]:List (List Rat)).getD j []) 1 j (bD 0) ((((2*2^i:Nat):Int)-(1:Nat)+1:Int):Rat) (fI [[-1],[1]] 1 (bD 0) ((((2*2^i:Nat):Int)-(1:Nat)+1:Int):Rat) j) k):=by decide +kernel
  exact ⟨by decide +kernel,by decide +kernel,h1 i hi,fun j k hj hk=>h2 i hi j hj k hk⟩
 fo:=by decide +kernel
theorem ar8:aM prog 123 [xA [[-1],[1]] 1 1] (.ret [.agg (yE [[-1],[1]] 1 1 4 4)]):=by
 have h:=Qn [[-1],[1]] 1 1 64 1 0 1 aR3 (by decide) (by decide) (by decide) (by decide) (by decide) (by decide) (by decide) (fun h hh=>absurd hh (Nat.not_lt_zero _)) (by decide +kernel) (by decide +kernel) (by decide +kernel) (by decide +kernel) (by decide);rw [show bD 0=4 by decide +kernel,show (1+bA [[-1],[1]]+1)*2^1=4 by decide +kernel] at h;exact h
theorem bb6:TD [[-1],[1]]:=⟨by decide,by decide +kernel⟩
theorem ba8:TD [[0,-1],[],[1]]:=⟨by decide,by decide +kernel⟩
set_option maxHeartbeats 1000000 in
theorem gU  :aM prog 16 [] (.ret [.one (.bool true)]):=by
 refine aD (args:=[]) (ins:=[]) (hints:=(fun _=>none)) fo (by kernel_rfl) func16 trivial ?_;rw [Ty];dsimp only [List.map,In.env,aB,aA];have e1:=HY 3 0 (by omega) (by omega) (by omega);rw [k3] at e1;refine aC e1 rfl ?_;dsimp only [aB,aA];have e2:=Ap [[0,-1],[],[1]] 0 [1,0] 7 1 1 1 1 2 64 64 7 ba8 (Fit.zero (by omega)) (by decide) (by omega) (by omega) (fun _=>⟨by omega,by omega,by decide +kernel,by decide +kernel,by omega,by omega,by omega,by decide +kernel⟩) (fun _=>by rw [mv3];decide) (fun _ _ _=>⟨by rw [mv3,ld3];exact WH,by decide,by decide,by decide⟩) (by omega) (by omega);rw [cf3] at e2;refine aC e2 rfl ?_;dsimp only [aB,aA];have e3:=HY 1 0 (by omega) (by omega) (by omega);rw [k1'] at e3;refine aC e3 rfl ?_;dsimp only [aB,aA];have hce:=jS [[-1],[1]] (by decide) (by decide);rw [show nI [[-1],[1]]=true by decide +kernel] at hce;have hrg:=vJ [[-1],[1]] 0 bb6 (by decide) (Fit.zero (by omega));rw [show jO [[-1],[1]] 0=true by decide +kernel] at hrg;have hat:=JR (e:=[[-1],[1]]) (c:=0) (D:=1) (E:=1) (S:=1) (T:=1) (K:=2) (B:=64) ⟨by omega,by omega,by decide +kernel,by decide +kernel,by omega,by omega,by omega,by decide +kernel⟩ (by decide) (by decide) (by decide +kernel);rw [mv1,ld1] at hat;refine GB (show aO [.one (eQ [[-1],[1]]), .agg [.exact (.slice none 0 0), .bool false, .exact (.slice none 0 0)]] [.one (eQ [[-1],[1]]),qT 0] from ⟨aF.Sub.same,iZ,trivial⟩) (IH [[-1],[1]] 0 [[-1],[1]] 1 1 4 4 hce hrg hat ar8) rfl ?_;dsimp only [aB,aA];refine vn bL rfl ?_;dsimp only [aB,aA];refine vs _ rfl (fun h5=>?_) (fun h5=>?_)
 ·refine vn bL rfl ?_;dsimp only [aB,aA];refine vs _ rfl (fun h7=>?_) (fun h7=>?_)
  ·refine vn (aP CJ (show (rQ [1,0,0,1/6,0,0,1/180]).length=7 from rfl)) rfl ?_;dsimp only [aB,aA];refine vn bL rfl ?_;dsimp only [aB,aA];refine vs _ rfl (fun h10=>?_) (fun h10=>?_)
   ·refine vn (aW CJ (by omega) (show (3:Int).toNat=3 from rfl) (show ([1,0,0,1/6,0,0,1/180]:List Rat)[3]? = some (1/6) from rfl)) rfl ?_;dsimp only [aB,aA];refine vn (bO sS (by decide) (by simp) (.inl rfl)) rfl ?_;dsimp only [aB,aA];refine aC (AJ (1/6) 64 (by decide +kernel) (by omega)) rfl ?_;rw [show wN (1/6) = [49,47,54] from by decide +kernel];dsimp only [aB,aA];refine vn (Bz (b:=[49,47,54])) rfl ?_;dsimp only [aB,aA];refine vs _ rfl (fun h15=>?_) (fun h15=>?_)
    ·refine vn (aW CJ (by omega) (show (6:Int).toNat=6 from rfl) (show ([1,0,0,1/6,0,0,1/180]:List Rat)[6]? = some (1/180) from rfl)) rfl ?_;dsimp only [aB,aA];refine vn (bO sS (by decide) (by simp) (.inl rfl)) rfl ?_;dsimp only [aB,aA];refine aC (AJ (1/180) 64 (by decide +kernel) (by omega)) rfl ?_;rw [show wN (1/180) = [49,47,49,56,48] from by decide +kernel];dsimp only [aB,aA];refine vn (Bz (b:=[49,47,49,56,48])) rfl ?_;dsimp only [aB,aA];refine vs _ rfl (fun h20=>?_) (fun h20=>?_)
     ·refine vn (aW CJ (by omega) (show (5:Int).toNat=5 from rfl) (show ([1,0,0,1/6,0,0,1/180]:List Rat)[5]? = some 0 from rfl)) rfl ?_;dsimp only [aB,aA];refine vn (bO sS (by decide) (by simp) (.inl rfl)) rfl ?_;dsimp only [aB,aA];refine aC (oD 0) rfl ?_;dsimp only [aB,aA];refine vn bL rfl ?_;dsimp only [aB,aA];refine vs _ rfl (fun h25=>?_) (fun h25=>?_)
      ·refine aC (AJ 4 64 (by decide +kernel) (by omega)) rfl ?_;rw [show wN 4 = [52] from by decide +kernel];dsimp only [aB,aA];refine vn (Bz (b:=[52])) rfl ?_;dsimp only [aB,aA];refine vs _ rfl (fun h28=>?_) (fun h28=>?_)
       ·refine vn bL rfl ?_;exact aL rfl
       exact (h28 (by decide)).elim
      exact (h25 (by decide)).elim
     exact (h20 (by decide)).elim
    exact (h15 (by decide)).elim
   exact (h10 (by decide)).elim
  exact (h7 (by decide)).elim
 exact (h5 (by decide)).elim
end Go.Sy
