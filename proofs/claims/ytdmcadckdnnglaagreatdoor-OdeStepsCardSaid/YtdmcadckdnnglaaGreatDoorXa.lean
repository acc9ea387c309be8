/- A panic on the way is caught. Reach where there is none: by hand. Tail's closure. Tail, by hand: the closure writes what it has found.
-/
import Derived.Test.YtdmcadckdnnglaaGreatDoorQg
import Derived.Test.YtdmcadckdnnglaaGreatDoorWa
import Derived.Test.YtdmcadckdnnglaaGreatDoorWb
import Derived.Test.YtdmcadckdnnglaaGreatDoorOc
import Derived.Test.YtdmcadckdnnglaaGreatDoorSd
set_option linter.unusedVariables false
set_option linter.unusedSimpArgs false
namespace Go.Sy
open Go Go.Proofs Go.RowKit Tryz Ord
attribute [local go_sem] Oper.semAt_some
abbrev Uo (e:Int):Value:=.iface 261 (.agg #[.int .i64 e])
theorem DG:∃ fs,prog.underlying 261=some (.struct fs):=by
 have hd:(prog.underlying 261).any (fun d=>match d with | .struct _=>true | _=>false)=true:=by kernel_rfl
 cases hu:prog.underlying 261 with
 | none=>rw [hu] at hd;cases hd
 | some d=>
   rw [hu] at hd;cases d<;>first | (cases hd;done) | exact ⟨_,rfl⟩
theorem Kv (e:Int) (T:TypeId) (w:World):(Instr.typeAssert (Uo e) T 261 true).run prog w = .ok (.tuple #[.agg #[.int .i64 e], .bool true]) w:=by
 obtain ⟨fs,hu⟩:=DG;simp [Instr.typeAssert,run_underlying hu]
set_option maxRecDepth 100000 in
theorem EF (b:Nat) (e:Int) (w:World) (hb:w.heap[b]? = some (.cells #[.int .i64 0] 55 (0,0))) :
  CallsD prog 201 #[.pointer (some ⟨b,0,none⟩)] (.panicking [{ v:=Uo e,recovered:=false }]) w fun r u' w'=>r = .returned (.tuple #[])∧u' = .panicking [{ v:=Uo e,recovered:=true }]∧w.grownBy w' (some b)∧w'.heap[b]? = some (.cells #[.int .i64 e] 55 (0,0)):=by
 have cb:w.cell? ⟨b,0,none⟩=some (.int .i64 0):=aI hb rfl;have fb:w.frozen? ⟨b,0,none⟩=false:=by simp [World.frozen?,hb]
 refine callsD_of_wpS func201 rfl fun c₀ cs hu=>?_;apply wpS_seq;apply wpS_region;simp [wpOpsS,go_sem,recoverD,hu,ntmps201,Exit.thenS];apply wpS_seq;apply wpS_region;simp [wpOpsS,go_sem,Exit.thenS];refine wpS_cond (t:=true) (by simp [Act.eval,Array.replicate]) ?_;simp only [if_true];have hlt:b<w.heap.size:=(Array.getElem?_eq_some_iff.1 hb).1;have hb1:(w.alloc (.cells #[.int .i64 e] 261)).heap[b]? = some (.cells #[.int .i64 0] 55 (0,0)):=by rw [heap_alloc_old _ _ _ hlt];exact hb
 have cb1:(w.alloc (.cells #[.int .i64 e] 261)).cell? ⟨b,0,none⟩=some (.int .i64 0):=aI hb1 rfl;have fb1:(w.alloc (.cells #[.int .i64 e] 261)).frozen? ⟨b,0,none⟩=false:=by simp [World.frozen?,hb1]
 refine wpS_of_wp ?_;have hta:=fun T w=>Kv e T w;simp only [Array.replicate_succ,Array.replicate_zero,List.push_toArray,List.append_toArray,List.nil_append,List.cons_append,List.setIfInBounds_toArray,List.set_cons_zero,List.set_cons_succ]
 go_wp2
 rw [setCell_eq_setRow w b 0 _ _ _ _ hb,show (#[Value.int .i64 0].setIfInBounds 0 (.int .i64 e)) = #[Value.int .i64 e] from rfl];have hs:(w.setRow b #[.int .i64 e]).heap.size=w.heap.size:=by simp [World.setRow]
 have hg:w.grownBy ((w.setRow b #[.int .i64 e]).alloc (.cells #[.int .i64 e] 261)) (some b):=by
  refine ⟨rfl,rfl,rfl,by rw [World.size_alloc,hs];omega,fun k hk hne=>?_⟩;rw [heap_alloc_old _ _ _ (by rw [hs];exact hk),setRow_other _ _ _ _ (fun e=>hne (by rw [e]))]
 have hh:((w.setRow b #[.int .i64 e]).alloc (.cells #[.int .i64 e] 261)).heap[b]? = some (.cells #[.int .i64 e] 55 (0,0)):=by
  rw [heap_alloc_old _ _ _ (by rw [hs];exact hlt)];exact setRow_heap _ _ _ _ _ _ hb
 generalize (w.setRow b #[.int .i64 e]).alloc (.cells #[.int .i64 e] 261)=W at *;cases c₀
 simp_all [bodyPostS,results,show f201.results = #[] from rfl]
theorem BV (g:FuncId) (caps:Array Value) (w:World) (e:Int) (Pw:World→Prop) (eg:∀ args w,(callFunc g args).run prog w = .ok (.enter g args) w)
  (h:Calls prog g caps (w.alloc (.cells #[.int .i64 0] 55)) fun r w'=>r = .panicked [{ v:=Uo e,recovered:=false }]∧w'.heap[w.heap.size]? = some (.cells #[.int .i64 0] 55 (0,0))∧Pw w') :
  Calls prog 121 #[.func (.func g) #[] caps] w fun r w'=>r = .returned (.int .i64 e)∧∃ w1,Pw w1∧w1.grownBy w' (some w.heap.size):=by
 have hmf:∀ (fn:Fn) (first cap:Array Value) (w:World),(Instr.makeFunc fn first cap).run prog w = .ok (.func fn first cap) w:=fun _ _ _ _=>rfl
 go_enter_defers func121,ntmps121
 go_wp2
 refine h.mono ?_;rintro r w1 ⟨rfl,hb,hP⟩;refine leaves_cons (f:=201) (args:=#[.pointer (some ⟨w.heap.size,0,none⟩)]) (by simp) (by simp [go_sem]) ?_;refine (EF w.heap.size e _ hb).mono ?_;rintro r u' w2 ⟨rfl,rfl,hg,hb2⟩;have cb2:w2.cell? ⟨w.heap.size,0,none⟩=some (.int .i64 e):=aI hb2 rfl;simp [Leaves,settle,results,show f121.results = #[.cell 2 55] from rfl,go_sem,cb2];exact ⟨w1,hP,hg⟩
end Go.Sy
namespace Go.Sy
open Go Go.Proofs Go.RowKit Tryz Ord
attribute [local go_sem] Oper.semAt_some
theorem ZM {M:Nat→Prop} {w:World} {e:Int} {r:Ending} (h:sZ M w (.pan (LN e)) r):r = .panicked [{ v:=Uo e,recovered:=false }]:=by
 obtain ⟨v,rfl,hv⟩:=h;rw [show v=Uo e from hv.1]
end Go.Sy
namespace Go.Sy
open Go Go.Proofs Tryz Ord
def at7 (aJ:Rat) (st:Int) (n d:Int) (r:Rat):Prop:=0≤d∧d≤4∧0≤r.num.sign∧lE (r+r) aJ≤0∧st≤n∧n≤1500∧d<n
instance (aJ:Rat) (st n d:Int) (r:Rat):Decidable (at7 aJ st n d r):=inferInstanceAs (Decidable (_∧_))
open Go Go.Proofs Go.RowKit Tryz Ord
attribute [local go_sem] Oper.semAt_some
end Go.Sy
