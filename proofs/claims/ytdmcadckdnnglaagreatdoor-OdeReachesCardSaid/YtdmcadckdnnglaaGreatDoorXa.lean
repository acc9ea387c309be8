/- A panic on the way is caught. Reach where there is none: by hand.
-/
import Derived.Test.YtdmcadckdnnglaaGreatDoorQg
import Derived.Test.YtdmcadckdnnglaaGreatDoorWa
set_option linter.unusedVariables false
set_option linter.unusedSimpArgs false
namespace Go.Sy
open Go Go.Proofs Go.RowKit Tryz Ord
attribute [local go_sem] Oper.semAt_some
abbrev Zp (e:Int):Value:=.iface 261 (.agg #[.int .i64 e])
theorem DG:∃ fs,prog.underlying 261 = some (.struct fs):=by
 have hd:(prog.underlying 261).any (fun d=>match d with | .struct _=>true | _=>false) = true:=by kernel_rfl
 cases hu:prog.underlying 261 with
 | none=>rw [hu] at hd; cases hd
 | some d=>
   rw [hu] at hd
   cases d <;> first | (cases hd; done) | exact ⟨_,rfl⟩
theorem Jv (e:Int) (T:TypeId) (w:World):(Instr.typeAssert (Zp e) T 261 true).run prog w = .ok (.tuple #[.agg #[.int .i64 e], .bool true]) w:=by
 obtain ⟨fs,hu⟩:=DG
 simp [Instr.typeAssert,run_underlying hu]
set_option maxRecDepth 100000 in
theorem DV (b:Nat) (e:Int) (w:World) (hb:w.heap[b]? = some (.cells #[.int .i64 0] 55 (0,0))) :
  CallsD prog 201 #[.pointer (some ⟨b,0,none⟩)] (.panicking [{ v:=Zp e,recovered:=false }]) w fun r u' w'=>r = .returned (.tuple #[]) ∧ u' = .panicking [{ v:=Zp e,recovered:=true }] ∧ w.grownBy w' (some b) ∧ w'.heap[b]? = some (.cells #[.int .i64 e] 55 (0,0)):=by
 have cb:w.cell? ⟨b,0,none⟩ = some (.int .i64 0):=aF hb rfl
 have fb:w.frozen? ⟨b,0,none⟩ = false:=by simp [World.frozen?,hb]
 refine callsD_of_wpS func201 rfl fun c₀ cs hu=>?_
 apply wpS_seq
 apply wpS_region
 simp [wpOpsS,go_sem,recoverD,hu,ntmps201,Exit.thenS]
 apply wpS_seq
 apply wpS_region
 simp [wpOpsS,go_sem,Exit.thenS]
 refine wpS_cond (t:=true) (by simp [Act.eval,Array.replicate]) ?_
 simp only [if_true]
 have hlt:b < w.heap.size:=(Array.getElem?_eq_some_iff.1 hb).1
 have hb1:(w.alloc (.cells #[.int .i64 e] 261)).heap[b]? = some (.cells #[.int .i64 0] 55 (0,0)):=by rw [heap_alloc_old _ _ _ hlt]; exact hb
 have cb1:(w.alloc (.cells #[.int .i64 e] 261)).cell? ⟨b,0,none⟩ = some (.int .i64 0):=aF hb1 rfl
 have fb1:(w.alloc (.cells #[.int .i64 e] 261)).frozen? ⟨b,0,none⟩ = false:=by simp [World.frozen?,hb1]
 refine wpS_of_wp ?_
 have hta:=fun T w=>Jv e T w
 simp only [Array.replicate_succ,Array.replicate_zero,List.push_toArray,List.append_toArray,List.nil_append,List.cons_append,List.setIfInBounds_toArray,List.set_cons_zero,List.set_cons_succ]
 go_wp2
 rw [setCell_eq_setRow w b 0 _ _ _ _ hb,show (#[Value.int .i64 0].setIfInBounds 0 (.int .i64 e)) = #[Value.int .i64 e] from rfl]
 have hs:(w.setRow b #[.int .i64 e]).heap.size = w.heap.size:=by simp [World.setRow]
 have hg:w.grownBy ((w.setRow b #[.int .i64 e]).alloc (.cells #[.int .i64 e] 261)) (some b):=by
  refine ⟨rfl,rfl,rfl,by rw [World.size_alloc,hs]; omega,fun k hk hne=>?_⟩
  rw [heap_alloc_old _ _ _ (by rw [hs]; exact hk),setRow_other _ _ _ _ (fun e=>hne (by rw [e]))]
 have hh:((w.setRow b #[.int .i64 e]).alloc (.cells #[.int .i64 e] 261)).heap[b]? = some (.cells #[.int .i64 e] 55 (0,0)):=by
  rw [heap_alloc_old _ _ _ (by rw [hs]; exact hlt)]
  exact setRow_heap _ _ _ _ _ _ hb
 generalize (w.setRow b #[.int .i64 e]).alloc (.cells #[.int .i64 e] 261) = W at *
 cases c₀
 simp_all [bodyPostS,results,show f201.results = #[] from rfl]
theorem Df (g:FuncId) (caps:Array Value) (w:World) (e:Int) (Pw:World → Prop) (eg:∀ args w,(callFunc g args).run prog w = .ok (.enter g args) w)
  (h:Calls prog g caps (w.alloc (.cells #[.int .i64 0] 55)) fun r w'=>r = .panicked [{ v:=Zp e,recovered:=false }] ∧ w'.heap[w.heap.size]? = some (.cells #[.int .i64 0] 55 (0,0)) ∧ Pw w') :
  Calls prog 121 #[.func (.func g) #[] caps] w fun r w'=>r = .returned (.int .i64 e) ∧ ∃ w1,Pw w1 ∧ w1.grownBy w' (some w.heap.size):=by
 have hmf:∀ (fn:Fn) (first cap:Array Value) (w:World),(Instr.makeFunc fn first cap).run prog w = .ok (.func fn first cap) w:=fun _ _ _ _=>rfl
 go_enter_defers func121,ntmps121
 go_wp2
 refine h.mono ?_
 rintro r w1 ⟨rfl,hb,hP⟩
 refine leaves_cons (f:=201) (args:=#[.pointer (some ⟨w.heap.size,0,none⟩)]) (by simp) (by simp [go_sem]) ?_
 refine (DV w.heap.size e _ hb).mono ?_
 rintro r u' w2 ⟨rfl,rfl,hg,hb2⟩
 have cb2:w2.cell? ⟨w.heap.size,0,none⟩ = some (.int .i64 e):=aF hb2 rfl
 simp [Leaves,settle,results,show f121.results = #[.cell 2 55] from rfl,go_sem,cb2]
 exact ⟨w1,hP,hg⟩
end Go.Sy
namespace Go.Sy
open Go Go.Proofs Go.RowKit Tryz Ord
attribute [local go_sem] Oper.semAt_some
theorem aq0 {M:Nat → Prop} {w:World} {e:Int} {r:Ending} (h:JG M w (.pan (MI e)) r):r = .panicked [{ v:=Zp e,recovered:=false }]:=by
 obtain ⟨v,rfl,hv⟩:=h
 rw [show v = Zp e from hv.1]
set_option maxRecDepth 100000 in
set_option maxHeartbeats 400000 in
theorem JF (M:Nat → Prop) (w:World) (hM:jH M w) (e:List (List Rat)) (c:Rat) (q:List (List Rat)) (m:Nat) (lead:Rat) (er:Int)
  (hat:aL prog 100 [.one (eQ e),qT c] (.ret [tB q m lead])) (hre:aL prog 123 [tB q m lead] (.pan (MI er)))
  (b0 b1 A:Nat) (ev u0 u1 u2:Value) (T0 T1:Nat) (h0:w.heap[b0]? = some (.cells #[ev] T0 (0,0))) (h1:w.heap[b1]? = some (.cells #[u0,u1,u2] T1 (0,0)))
  (he:(eQ e).rep M w ev) (hc:aZ M w (qC c) [u0,u1,u2]) :
  Calls prog 122 #[.pointer (some ⟨b0,0,none⟩), .pointer (some ⟨b1,0,none⟩), .pointer (some ⟨A,0,none⟩)] w fun e w'=>e = .panicked [{ v:=Zp er,recovered:=false }] ∧ Below w.heap.size w w':=by
 refine calls_of_wp func122 rfl ?_
 simp only [ntmps122,List.size_toArray,List.length_cons,List.length_nil,Nat.reduceAdd,Nat.reduceSub,Array.replicate_succ,Array.replicate_zero,List.push_toArray,List.append_toArray,List.nil_append,List.cons_append]
 have c0:w.cell? ⟨b0,0,none⟩ = some ev:=aF h0 rfl
 have d0:w.cell? ⟨b1,0,none⟩ = some u0:=aF h1 rfl
 have d1:w.cell? ⟨b1,1,none⟩ = some u1:=aF h1 rfl
 have d2:w.cell? ⟨b1,2,none⟩ = some u2:=aF h1 rfl
 have k1:Calls prog 100 #[ev, .agg #[u0,u1,u2]] w fun e w'=>Below w.heap.size w w' ∧ ∃ s0 s1 s2 s3 s4,e = .returned (.agg #[s0,s1,s2,s3,s4]) ∧ aZ M w' ([eQ q, .int .i64 m] ++ qC lead) [s0,s1,s2,s3,s4]:=by
  refine (hat.2 M w [ev, .agg #[u0,u1,u2]] hM ⟨he,⟨[u0,u1,u2],rfl,hc⟩,trivial⟩).mono ?_
  rintro e w' ⟨hb,vs,rfl,hvs⟩
  obtain ⟨us,e1,hus⟩:=Zr hvs
  obtain ⟨s0,s1,s2,s3,s4,rfl⟩:=am6 hus
  exact ⟨hb,s0,s1,s2,s3,s4,by rw [e1],hus⟩
 obtain ⟨la,hla⟩:∃ la,w.heap.size = la:=⟨_,rfl⟩
 go_wp2_with (go_at_call 100; refine k1.mono ?_; clear k1; rintro e w1 ⟨hb1,s0,s1,s2,s3,s4,rfl,hs⟩)
 have hM1:jH M w1:=⟨fun b hb=>Nat.lt_of_lt_of_le (hM.1 b hb) hb1.size,hM.2.below rfl hb1⟩
 refine (hre.2 M w1 [.agg #[s0,s1,s2,s3,s4]] hM1 ⟨⟨_,rfl,hs⟩,trivial⟩).mono ?_
 rintro e w2 ⟨hb2,hp⟩
 obtain rfl:=aq0 hp
 exact ⟨rfl,rfl,hb1.trans (hb2.mono hb1.size)⟩
set_option maxRecDepth 100000 in
set_option maxHeartbeats 400000 in
theorem LQ (M:Nat → Prop) (w:World) (hM:jH M w) (e:List (List Rat)) (c:Rat) (q:List (List Rat)) (m:Nat) (lead:Rat) (er:Int) (her:er ≠ 0)
  (hce:aL prog 19 [.one (eQ e)] (.ret [.one (.int .i64 0)])) (hrg:aL prog 97 [.one (eQ e),qT c] (.ret [.one (.bool true)]))
  (hat:aL prog 100 [.one (eQ e),qT c] (.ret [tB q m lead])) (hre:aL prog 123 [tB q m lead] (.pan (MI er)))
  (ev u0 u1 u2:Value) (he:(eQ e).rep M w ev) (hc:aZ M w (qC c) [u0,u1,u2]) :
  Calls prog 41 #[ev, .agg #[u0,u1,u2]] w fun e w'=>Below w.heap.size w w' ∧ e = .returned (.tuple #[.agg #[.slice none 0 0, .bool false, .slice none 0 0], .int .i64 0, .int .i64 er]):=by
 have hmf:∀ (fn:Fn) (first cap:Array Value) (w:World),(Instr.makeFunc fn first cap).run prog w = .ok (.func fn first cap) w:=fun _ _ _ _=>rfl
 obtain ⟨n0,hn0⟩:∃ n0,w.heap.size = n0:=⟨_,rfl⟩
 obtain ⟨o0,o1,o2⟩:u0.oneCell' = true ∧ u1.oneCell' = true ∧ u2.oneCell' = true:=by have:=hc.one; exact ⟨this _ (by simp),this _ (by simp),this _ (by simp)⟩
 refine calls_of_wp func41 rfl ?_
 simp only [ntmps41,List.size_toArray,List.length_cons,List.length_nil,Nat.reduceAdd,Nat.reduceSub,Array.replicate_succ,Array.replicate_zero,List.push_toArray,List.append_toArray,List.nil_append,List.cons_append]
 obtain ⟨ea,ecap,rfl,_⟩:∃ ea ecap,ev = .slice ea e.length ecap ∧ True:=by
  have he':=he
  obtain ⟨ea,ecap,rfl,_⟩:=he'
  exact ⟨ea,ecap,by rw [List.length_map],trivial⟩
 obtain ⟨Wa,hWa⟩:∃ Wa,(((w.alloc (.cells #[.slice ea e.length ecap] 32)).alloc (.cells #[u0,u1,u2] 39)).alloc (.cells #[.slice none 0 0, .bool false, .slice none 0 0] 39)) = Wa:=⟨_,rfl⟩
 have hsa:Wa.heap.size = n0 + 3:=by rw [← hWa]; simp [hn0]
 have hEa:Wa.heap[n0]? = some (.cells #[.slice ea e.length ecap] 32 (0,0)):=by rw [← hWa,heap_alloc_old _ _ _ (by simp; omega),heap_alloc_old _ _ _ (by simp; omega),← hn0]; exact heap_alloc_new w _
 have hCa:Wa.heap[n0 + 1]? = some (.cells #[u0,u1,u2] 39 (0,0)):=by
  rw [← hWa,heap_alloc_old _ _ _ (by simp; omega)]
  have:=heap_alloc_new (w.alloc (.cells #[.slice ea e.length ecap] 32)) (.cells #[u0,u1,u2] 39)
  rw [World.size_alloc,hn0] at this; exact this
 have hRa:Wa.heap[n0 + 2]? = some (.cells #[.slice none 0 0, .bool false, .slice none 0 0] 39 (0,0)):=by
  rw [← hWa]
  have:=heap_alloc_new ((w.alloc (.cells #[.slice ea e.length ecap] 32)).alloc (.cells #[u0,u1,u2] 39)) (.cells #[.slice none 0 0, .bool false, .slice none 0 0] 39)
  rw [World.size_alloc,World.size_alloc,hn0] at this; exact this
 have hBa:Below w.heap.size w Wa:=by
  rw [← hWa]
  exact (((Below.refl _ w).alloc (by omega) _).alloc (by simp) _).alloc (by simp; omega) _
 have hka:cS M w M Wa:=cS.below hBa
 have hMa:jH M Wa:=⟨fun b hb=>Nat.lt_of_lt_of_le (hM.1 b hb) hBa.size,hM.2.jM hka⟩
 replace he:=aI.mono _ hka he
 replace hc:=hc.mono hka
 have cE:Wa.cell? ⟨n0,0,none⟩ = some (.slice ea e.length ecap):=aF hEa rfl
 have k1:Calls prog 19 #[.slice ea e.length ecap] Wa fun r w'=>Below Wa.heap.size Wa w' ∧ r = .returned (.int .i64 0):=by
  refine (hce.2 M Wa [.slice ea e.length ecap] hMa ⟨he,trivial⟩).mono ?_
  rintro r w' ⟨hb,vs,rfl,hvs⟩
  obtain ⟨v,e1,hr⟩:=Jg hvs
  rw [hr.1] at e1
  exact ⟨hb,by rw [e1]⟩
 have k2:∀ w1,Below Wa.heap.size Wa w1 → Calls prog 97 #[.slice ea e.length ecap, .agg #[u0,u1,u2]] w1 fun r w'=>Below w1.heap.size w1 w' ∧ r = .returned (.bool true):=by
  intro w1 hb
  refine (hrg.2 M w1 [.slice ea e.length ecap, .agg #[u0,u1,u2]] ⟨fun b h=>Nat.lt_of_lt_of_le (hMa.1 b h) hb.size,hMa.2.below rfl hb⟩ ⟨aI.mono _ (cS.below hb) he,⟨_,rfl,hc.mono (cS.below hb)⟩,trivial⟩).mono ?_
  rintro r w' ⟨hb,vs,rfl,hvs⟩
  obtain ⟨v,e1,hr⟩:=Jg hvs
  rw [hr.1] at e1
  exact ⟨hb,by rw [e1]⟩
 go_wp2_with (first | (go_at_call 19; refine k1.mono ?_; clear k1; rintro r w1 ⟨hb1,rfl⟩; have cE1:w1.cell? ⟨n0,0,none⟩ = some (.slice ea e.length ecap):=aF ((hb1.block n0 (by omega)).trans hEa) rfl; have cC0:w1.cell? ⟨n0 + 1,0,none⟩ = some u0:=aF ((hb1.block (n0 + 1) (by omega)).trans hCa) rfl; have cC1:w1.cell? ⟨n0 + 1,1,none⟩ = some u1:=aF ((hb1.block (n0 + 1) (by omega)).trans hCa) rfl; have cC2:w1.cell? ⟨n0 + 1,2,none⟩ = some u2:=aF ((hb1.block (n0 + 1) (by omega)).trans hCa) rfl) | (go_at_call 97; refine (k2 _ hb1).mono ?_; clear k2; rintro r w2 ⟨hb2,rfl⟩))
 obtain ⟨A,hA⟩:∃ A,w2.heap.size = A:=⟨_,rfl⟩
 obtain ⟨W3,hW3⟩:∃ W3,w2.alloc (.cells #[.slice none 0 0, .int .i64 0, .slice none 0 0, .bool false, .slice none 0 0, .slice none 0 0, .bool false, .slice none 0 0, .int .i64 0] 185) = W3:=⟨_,rfl⟩
 have hb2':=hb1.trans (hb2.mono hb1.size)
 have hs3:W3.heap.size = A + 1:=by rw [← hW3,World.size_alloc,hA]
 have hs2:n0 + 3 ≤ A:=by have:=hb2'.size; omega
 have hB3:Below Wa.heap.size Wa W3:=by rw [← hW3]; exact hb2'.alloc (by omega) _
 rw [hA,hW3]
 obtain ⟨W4,hW4⟩:∃ W4,W3.alloc (.cells #[.int .i64 0] 55) = W4:=⟨_,rfl⟩
 have hB4:Below Wa.heap.size Wa W4:=by rw [← hW4]; exact hB3.alloc (by omega) _
 have hs4:W4.heap.size = A + 2:=by rw [← hW4,World.size_alloc,hs3]
 have hX4:W4.heap[W3.heap.size]? = some (.cells #[.int .i64 0] 55 (0,0)):=by rw [← hW4]; exact heap_alloc_new W3 _
 have hM4:jH M W4:=⟨fun b hb=>Nat.lt_of_lt_of_le (hMa.1 b hb) hB4.size,hMa.2.below rfl hB4⟩
 have hr1:=JF M W4 hM4 e c q m lead er hat hre n0 (n0 + 1) A (.slice ea e.length ecap) u0 u1 u2 _ _ ((hB4.block _ (by omega)).trans hEa) ((hB4.block _ (by omega)).trans hCa) (aI.mono _ (cS.below hB4) he) (hc.mono (cS.below hB4))
 have hc1:=Df 122 #[.pointer (some ⟨n0,0,none⟩), .pointer (some ⟨n0 + 1,0,none⟩), .pointer (some ⟨A,0,none⟩)] W3 er (fun w'=>Below W4.heap.size W4 w') (bO (by kernel_rfl)) (by
  rw [hW4]
  refine hr1.mono ?_
  rintro r w' ⟨rfl,hg⟩
  exact ⟨rfl,(hg.block _ (by omega)).trans hX4,hg⟩)
 refine hc1.mono ?_
 clear hc1 hr1
 rintro r W7 ⟨rfl,w6,hb6,hg7⟩
 have hB7:Below Wa.heap.size Wa W7:=by
  refine ⟨by rw [hg7.os,hb6.os,hB4.os],by rw [hg7.tape,hb6.tape,hB4.tape],by rw [hg7.output,hb6.output,hB4.output],by have:=hg7.size; have:=hb6.size; omega,fun k hk=>?_⟩
  rw [hg7.block k (by have:=hb6.size; omega) (fun e=>by simp only [Option.some.injEq] at e; omega),hb6.block k (by omega),hB4.block k hk]
 have hR7:W7.heap[n0 + 2]? = some (.cells #[.slice none 0 0, .bool false, .slice none 0 0] 39 (0,0)):=(hB7.block _ (by omega)).trans hRa
 have fr:∀ j,W7.frozen? ⟨n0 + 2,j,none⟩ = false:=fun j=>by simp [World.frozen?,hR7]
 have r0:W7.cell? ⟨n0 + 2,0,none⟩ = some (.slice none 0 0):=aF hR7 rfl
 have r1:W7.cell? ⟨n0 + 2,1,none⟩ = some (.bool false):=aF hR7 rfl
 have r2:W7.cell? ⟨n0 + 2,2,none⟩ = some (.slice none 0 0):=aF hR7 rfl
 go_wp2
 have s1:=setRow_heap W7 (n0 + 2) _ (#[.slice none 0 0, .bool false, .slice none 0 0]:Array Value) _ _ hR7
 rw [show n0 + 1 + 1 = n0 + 2 from rfl,setCell_eq_setRow W7 (n0 + 2) 0 _ _ _ _ hR7,show (#[Value.slice none 0 0, .bool false, .slice none 0 0].setIfInBounds 0 (.slice none 0 0)) = #[Value.slice none 0 0, .bool false, .slice none 0 0] from rfl,
  setCell_eq_setRow _ (n0 + 2) 1 _ _ _ _ s1,show (#[Value.slice none 0 0, .bool false, .slice none 0 0].setIfInBounds 1 (.bool false)) = #[Value.slice none 0 0, .bool false, .slice none 0 0] from rfl,setRow_setRow,
  setCell_eq_setRow _ (n0 + 2) 2 _ _ _ _ s1,show (#[Value.slice none 0 0, .bool false, .slice none 0 0].setIfInBounds 2 (.slice none 0 0)) = #[Value.slice none 0 0, .bool false, .slice none 0 0] from rfl,setRow_setRow]
 have hb9:Below w.heap.size w (W7.setRow (n0 + 2) #[.slice none 0 0, .bool false, .slice none 0 0]):=below_setRow (hBa.trans (hB7.mono hBa.size)) (by omega) _
 generalize W7.setRow (n0 + 2) #[.slice none 0 0, .bool false, .slice none 0 0] = W9 at *
 have t0:W9.cell? ⟨n0 + 2,0,none⟩ = some (.slice none 0 0):=aF s1 rfl
 have t1:W9.cell? ⟨n0 + 2,1,none⟩ = some (.bool false):=aF s1 rfl
 have t2:W9.cell? ⟨n0 + 2,2,none⟩ = some (.slice none 0 0):=aF s1 rfl
 simp [bodyPost,results,show f41.results = #[.cell 4 39, .tmp 5, .tmp 6] from rfl,go_sem,t0,t1,t2]
 exact hb9
theorem Gc (e:List (List Rat)) (c:Rat) (q:List (List Rat)) (m:Nat) (lead:Rat) (er:Int) (her:er ≠ 0)
  (hce:aL prog 19 [.one (eQ e)] (.ret [.one (.int .i64 0)])) (hrg:aL prog 97 [.one (eQ e),qT c] (.ret [.one (.bool true)]))
  (hat:aL prog 100 [.one (eQ e),qT c] (.ret [tB q m lead])) (hre:aL prog 123 [tB q m lead] (.pan (MI er))) :
  aL prog 41 [.one (eQ e),qT c] (.ret [qT 0, .one (.int .i64 0), .one (.int .i64 er)]):=by
 refine ⟨bO (by kernel_rfl),fun M w vs hM hv=>?_⟩
 match vs,hv with
 | [v,u],hv=>
   obtain ⟨us,rfl,hus⟩:=hv.2.1
   obtain ⟨u0,u1,u2,rfl⟩:=UY hus
   refine (LQ M w hM e c q m lead er her hce hrg hat hre v u0 u1 u2 hv.1 hus).mono ?_
   rintro r w' ⟨hb,rfl⟩
   refine ⟨hb,[.agg #[.slice none 0 0, .bool false, .slice none 0 0], .int .i64 0, .int .i64 er],rfl,⟨_,rfl,?_⟩,⟨rfl,rfl⟩,⟨rfl,rfl⟩,trivial⟩
   exact ⟨fA.1.rep ⟨rfl,rfl⟩,fA.2.1.rep ⟨rfl,rfl⟩,fA.2.2.1.rep ⟨rfl,rfl⟩,trivial⟩
 | [],hv=>exact hv.elim
 | [_],hv=>exact hv.2.elim
 | _ :: _ :: _ :: _,hv=>exact hv.2.2.elim
end Go.Sy
