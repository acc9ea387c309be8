/- Steps. -/
import Derived.Test.YtdmcadckdnnglaaGreatDoorXa
import Derived.Test.YtdmcadckdnnglaaGreatDoorSe2
import Derived.Test.YtdmcadckdnnglaaGreatDoorGb
import Derived.Test.YtdmcadckdnnglaaGreatDoorQe
set_option linter.unusedVariables false
set_option linter.unusedSimpArgs false
namespace Go.Sy
open Go Go.Proofs Go.RowKit Tryz Ord
theorem Kd (f:FuncId) (eg:∀ args w,(callFunc f args).run prog w = .ok (.enter f args) w) (M:Nat→Prop) (W:World) (A T:Nat) (zs:Array Value) (zc cs':List aH) (pre:List aF) (vs:List Value) (er:Int)
  (hM:dL (fun b=>M b∨b=A) W) (hMA:¬ M A) (hA:W.heap[A]? = some (.cells zs T (0,0))) (hpre:cI (fun b=>M b∨b=A) W pre vs) (hz:∀ M' W',aZ M' W' zc zs.toList)
  (hcl:(cs'=zc∧aM prog f (pre ++ [.one (.bE zc)]) (.pan (LN er)))∨(er=0∧wJ prog f T pre zc [] cs')) :
  Calls prog 121 #[.func (.func f) #[] (vs ++ [Value.pointer (some ⟨A,0,none⟩)]).toArray] W fun r w'=>r = .returned (.int .i64 er)∧W.grownBy w' (some A) ∧
   ∃ us:Array Value,w'.heap[A]? = some (.cells us T (0,0))∧aZ (fun b=>M b∨b=A) w' cs' us.toList:=by
 have hAlt:A<W.heap.size:=(Array.getElem?_eq_some_iff.1 hA).1;obtain ⟨n,hn⟩:∃ n,W.heap.size=n:=⟨_,rfl⟩
 obtain ⟨W4,hW4⟩:∃ W4,W.alloc (.cells #[.int .i64 0] 55)=W4:=⟨_,rfl⟩
 have hB4:Below W.heap.size W W4:=by rw [←hW4];exact (Below.refl _ W).alloc (Nat.le_refl _) _
 have hs4:W4.heap.size=n+1:=by rw [←hW4,World.size_alloc,hn]
 have hA4:W4.heap[A]? = some (.cells zs T (0,0)):=(hB4.block _ hAlt).trans hA;have hX4:W4.heap[W.heap.size]? = some (.cells #[.int .i64 0] 55 (0,0)):=by rw [←hW4];exact heap_alloc_new W _
 have hM4:dL (fun b=>M b∨b=A) W4:=⟨fun b hb=>Nat.lt_of_lt_of_le (hM.1 b hb) hB4.size,hM.2.below rfl hB4⟩
 rcases hcl with ⟨rfl,hcl⟩ | ⟨rfl,hcl⟩
 ·refine (BV f _ W er (fun w'=>Below W4.heap.size W4 w') eg ?_).mono ?_
  ·rw [hW4];have hk:bZ (fun b=>M b∨b=A) W M W4:=fun b o hb ho _=>⟨fun h=>hb (.inl h),(hB4.block b (Array.getElem?_eq_some_iff.1 ho).1).trans ho⟩
   refine (hcl.2 M W4 (vs ++ [Value.pointer (some ⟨A,0,none⟩)]) (hM4.sub fun b hb=>.inl hb) (cI.append (hpre.mono hk) ⟨⟨A,0,zs,T,(0,0),rfl,hMA,hA4,?_⟩,trivial⟩)).mono ?_
   ·have h:=hz M W4;rw [List.drop_zero,List.take_of_length_le (by rw [h.length];exact Nat.le_refl _)];exact h
   ·rintro r w' ⟨hb,hp⟩;exact ⟨ZM hp,(hb.block _ (by omega)).trans hX4,hb⟩
  ·rintro r w' ⟨rfl,w6,hb6,hg⟩;have hs6:=hb6.size;refine ⟨rfl,⟨by rw [hg.os,hb6.os,hB4.os],by rw [hg.tape,hb6.tape,hB4.tape],by rw [hg.output,hb6.output,hB4.output],by have:=hg.size;omega,fun k hk _=>?_⟩,zs,?_,hz _ _⟩
   ·rw [hg.block k (by omega) (fun e=>by simp only [Option.some.injEq] at e;omega),hb6.block k (by omega),hB4.block k hk]
   ·rw [hg.block A (by omega) (fun e=>by simp only [Option.some.injEq] at e;omega),hb6.block A (by omega)];exact hA4
 ·have hfine:dL (fun b=>M b∨b=A∨b=n) W4:=by
   refine ⟨fun b h=>?_,fun x hx=>?_⟩
   ·rcases h with h | h | h
    ·exact hM4.1 b (.inl h)
    ·omega
    ·omega
   ·obtain ⟨h1,T',fz,h2⟩:=hM4.2 x hx;obtain ⟨_,T'',fz',h3⟩:=hM.2 x hx;refine ⟨?_,T',fz,h2⟩;rintro (h | h | h)
    ·exact h1 (.inl h)
    ·exact h1 (.inr h)
    ·have:=(Array.getElem?_eq_some_iff.1 h3).1;omega
  have hk:bZ (fun b=>M b∨b=A) W (fun b=>M b∨b=A∨b=n) W4:=fun b o hb ho _=>by
   have hlt:=(Array.getElem?_eq_some_iff.1 ho).1;refine ⟨?_,(hB4.block b hlt).trans ho⟩;rintro (h | h | h)
   ·exact hb (.inl h)
   ·exact hb (.inr h)
   ·omega
  refine (EU f _ W (fun w'=>W4.grownBy w' (some A)∧∃ us:Array Value,w'.heap[A]? = some (.cells us T (0,0))∧aZ (fun b=>M b∨b=A∨b=n) w' cs' us.toList) eg ?_).mono ?_
  ·rw [hW4];refine (hcl _ W4 A zs vs hfine (.inr (.inl rfl)) hA4 (hz _ _) (hpre.mono hk)).mono ?_;rintro r w' ⟨cur',us,hg,hA',rfl,hus,hcr⟩
   obtain rfl:us = []:=by cases us with
    | nil=>rfl
    | cons x us=>exact hus.elim
   refine ⟨rfl,?_,hg,cur',hA',hcr⟩;exact (hg.block _ (by omega) (fun e=>by simp only [Option.some.injEq] at e;omega)).trans hX4
  ·rintro r w' ⟨rfl,w6,⟨hg,us,hA6,hus⟩,rfl,hX6⟩;have hs6:=hg.size;have ho:∀ k,k≠n→(w6.setRow W.heap.size #[.int .i64 0]).heap[k]? = w6.heap[k]?:=fun k hk=>setRow_other _ _ _ _ (by omega);refine ⟨rfl,⟨by show w6.os=_;rw [hg.os,hB4.os],by show w6.tape=_;rw [hg.tape,hB4.tape],by show w6.output=_;rw [hg.output,hB4.output],by simp only [World.setRow,Array.size_modify];omega,fun k hk hne=>?_⟩,us,?_,?_⟩
   ·rw [ho k (by omega),hg.block k (by omega) hne,hB4.block k hk]
   ·rw [ho A (by omega)];exact hA6
   ·refine hus.mono fun b o hb hob _=>⟨fun h=>hb (h.imp id .inl),?_⟩
    rw [ho b (fun e=>hb (.inr (.inr e)))];exact hob
open Go Go.Proofs Go.RowKit Tryz Ord
attribute [local go_sem] Oper.semAt_some
def vG:Tr:=.back 0 [(.w (W 28 0)),(.w (W 6 0)),(.w (W 7 0)),(.w (W 8 0)),(.w (W 9 0)),(.w (W 10 0)),(.w (W 11 0)),(.w (W 12 0)),(.w (W 13 0)),(.w (W 14 0)),(.w (W 15 0)),(.w (W 16 0)),(.w (W 27 0)),(.w (W 27 1)),(.w (W 27 2))]
def uV:Tr:=.need (.prim [(W 5 0),(WK (1))] none) (.binOp .add 3 (.tmp 27) (.const (I3 (1))) 3) 3 false vG
def uX:Tr:=.need (.call 208 [(.one (.c (.sr 3 26)))] [(some 3)]) (.call ⟨.value (.func 208),#[(.tmp 47)],#[40]⟩) 39 true uV
def uO:Tr:=.need (.lit 3 [[(.u 17 0),(.u 18 0),(.u 19 0)],[(.u 25 0),(.u 25 1),(.u 25 2)]]) (.buildSlice 40 2 #[(0,(.tmp 33)),(1,(.tmp 46))]) 40 false uX
def uT:Tr:=.need (.call 36 [(.agg [(U 23 0),(U 23 1),(U 23 2)]),(.agg [(U 24 0),(U 24 1),(U 24 2)])] [(some 3)]) (.call ⟨.value (.func 36),#[(.tmp 41),(.tmp 45)],#[39,39]⟩) 39 true uO
def wY:Tr:=.need (.call 203 [(.agg [(U 0 5),(U 0 6),(U 0 7)]),(W 5 0)] [(some 3)]) (.call ⟨.value (.func 203),#[(.tmp 43),(.tmp 44)],#[39,3]⟩) 39 false uT
def xP:Tr:=.need (.call 146 [(.agg [(U 22 0),(U 22 1),(U 22 2)])] [(some 3)]) (.call ⟨.value (.func 146),#[(.tmp 40)],#[39]⟩) 39 false wY
def xT:Tr:=.need (.prim [(W 21 0)] (some 3)) (.load 39 (.tmp 39)) 39 false xP
def xY:Tr:=.need (.prim [(W 16 0),(W 5 0)] none) (.indexAddr 40 (.tmp 37) (.tmp 38)) 0 false xT
def vO:Tr:=.ret [(.agg [(U 6 0),(U 7 0),(U 8 0),(U 9 0),(U 10 0),(U 11 0),(U 12 0),(U 13 0),(U 14 0),(U 15 0),(U 16 0),(U 17 0),(U 18 0),(U 19 0)])]
def wZ:Tr:=.split (.u 20 0) xY vO
def yD:Tr:=.need (.prim [(W 5 0),(W 0 8)] none) (.binOp .lss 3 (.tmp 23) (.tmp 25) 3) 4 false wZ
def wQ:Tr:=.loop 0 [(.w (W 4 0)),(.w (W 0 0)),(.w (W 0 1)),(.w (W 0 2)),(.w (W 0 3)),(.w (W 0 4)),(.w (W 0 5)),(.w (W 0 6)),(.w (W 0 7)),(.w (W 0 8)),(.w (W 1 0)),(.w (W 2 0)),(.w (.one (.c (.k (.slice none 0 0))))),(.w (.one (.c (.k (.bool false))))),(.w (.one (.c (.k (.slice none 0 0)))))] yD
def xL:Tr:=.need (.prim [(W 0 8),(W 3 0)] none) (.binOp .sub 3 (.tmp 18) (.tmp 21) 3) 3 false wQ
def xF:Tr:=.need (.call 204 [(.agg [(U 0 0),(U 0 1),(U 0 2),(U 0 3),(U 0 4)])] [none]) (.call ⟨.value (.func 204),#[(.tmp 20)],#[171]⟩) 3 true xL
def xD:Tr:=.need (.call 101 [(.agg [(U 0 0),(U 0 1),(U 0 2),(U 0 3),(U 0 4)]),(W 1 0),(W 0 8)] [none]) (.call ⟨.value (.func 101),#[(.tmp 10),(.tmp 11),(.tmp 13)],#[171,40,3]⟩) 40 false xF
theorem Az:PS prog f132 (fun _=>none) [.v (some 9), .v none] 266=xD:=by kernel_rfl
def DJ:Tr:=.retr [(W 0 0),(W 2 0),(W 3 0)] 12
def Eh:Tr:=.need (.app 1 8 (some 4) none (some 11)) (.call ⟨.builtin .append,#[(.tmp 11),(.tmp 19)],#[276,276]⟩) 276 false DJ
def EE:Tr:=.need (.lit 1 [[(.u 10 0)]]) (.buildSlice 276 1 #[(0,(.tmp 18))]) 276 false Eh
def DD:Tr:=.need (.call 132 [(.agg [(U 5 0),(U 5 1),(U 5 2),(U 5 3),(U 5 4),(U 5 5),(U 5 6),(U 5 7),(U 5 8)]),(W 9 0)] [none]) (.call ⟨.value (.func 132),#[(.tmp 12),(.tmp 17)],#[185,40]⟩) 194 true EE
def DW:Tr:=.need (.call 266 [(W 8 0),(W 1 0)] [none]) (.call ⟨.value (.func 266),#[(.tmp 15),(.tmp 16)],#[3,3]⟩) 40 false DD
def ED:Tr:=.need (.prim [(W 7 0)] none) (.load 3 (.tmp 14)) 3 false DW
def Ek:Tr:=.need (.prim [(W 6 0)] none) (.fieldAddr 171 (.tmp 13) 1) 0 false ED
def En:Tr:=.need (.prim [(W 0 0)] none) (.fieldAddr 185 (.tmp 1) 0) 0 false Ek
def Ee:Tr:=.need (.prim [(W 0 0)] (some 9)) (.load 185 (.tmp 1)) 185 false En
theorem Iu:QF prog 23 (fun _=>none) (gS [1,1,0,1,0,0,1,1,0,0,1] (oX f225)) [(1, .v none),(4, .v none),(7, .v none),(8, .v none)] 3 194 1 3 ([1,7,8].map ResultVar.tmp)=Ee:=by kernel_rfl
theorem Zw (t:Array Value) (h:t.size=23):t = #[t.getD 0 Go.undef,t.getD 1 Go.undef,t.getD 2 Go.undef,t.getD 3 Go.undef,t.getD 4 Go.undef,t.getD 5 Go.undef,t.getD 6 Go.undef,t.getD 7 Go.undef,t.getD 8 Go.undef,t.getD 9 Go.undef,t.getD 10 Go.undef,t.getD 11 Go.undef,t.getD 12 Go.undef,t.getD 13 Go.undef,t.getD 14 Go.undef,t.getD 15 Go.undef,t.getD 16 Go.undef,t.getD 17 Go.undef,t.getD 18 Go.undef,t.getD 19 Go.undef,t.getD 20 Go.undef,t.getD 21 Go.undef,t.getD 22 Go.undef]:=(sF t 23 h).trans rfl
def aH.GD (n0 T:Nat) (C:List aH):aH where
 rep:=fun M w v=>∃ (b:Nat) (us:Array Value),v = .pointer (some ⟨b,0,none⟩)∧n0≤b∧¬ M b∧w.heap[b]? = some (.cells us T (0,0))∧aZ (fun k=>M k∨k=b) w C us.toList
 mono:=by
  rintro M w M' w' v hk ⟨b,us,rfl,h1,h2,h3,h4⟩;obtain ⟨h5,h6⟩:=hk b _ h2 h3 rfl;refine ⟨b,us,rfl,h1,h5,h6,h4.mono fun k o hkm ho hc=>?_⟩;obtain ⟨h7,h8⟩:=hk k o (fun h=>hkm (.inl h)) ho hc;exact ⟨fun h=>h.elim h7 (fun e=>hkm (.inr e)),h8⟩
 one:=by
  rintro M w v ⟨b,us,rfl,_⟩;rfl
theorem aX3 {P:Program} {post:Out→Prop} {bk:List (List aF→Prop)} {τ:Env} {ty:Nat} {last:Bool} {k:Tr} {f:Nat} {args:List SW} {sh:List (Option Nat)} {x:Operand} {xs:Array Operand} {tys:Array TypeId} {ts:List aF}
  (hp:post (.orc f (args.map (oK τ)) ts)) (hs:ts.map aF.shape=sh.map some) (hk:vc P post k (τ++ts) bk):vc P post (.need (.call f args sh) (.call ⟨.value x,xs,tys⟩) ty last k) τ bk:=
 .inr (.inr ⟨f,args,sh,ts,rfl,⟨_,_,rfl,rfl⟩,hs,hp,hk⟩)
set_option maxHeartbeats 1000000 in
theorem XD (q:List (List Rat)) (m:Nat) (lead aJ:Rat) (st:Nat) (y:List Rat) (N B:Nat) (C:fU B q m lead y N) (hst:st≤N) (hN:N≤1073741824) (hm:m≤64) (hmN:m≤N) (hB:B≤4294967296) (h64:64≤B) (hql:q.length=m+1) (hyl:y.length=m) (hp:∀ p∈q,p.length<1048576) (hl0:lead≠0) (hw:m+bA q≤st) (hrho:∀ j,j≤2*st+1→Fit B (aJ^j)):LM prog 132 266 [(.agg (yE q m lead aJ (st:Nat)):aF),(.one (sQ y):aF)] (KV ([eQ q, .int .i64 m]++qC lead) aJ st y (aV q m lead y st) (FB (aV q m lead y st) aJ (st-(m+bA q)) (m+bA q))):=by
 refine Pz (args:=[.v (some 9), .v none]) (ins:=[.v (.agg (yE q m lead aJ (st:Nat))), .v (.one (sQ y))]) (hints:=(fun _=>none)) fo func132 ⟨rfl,rfl,trivial⟩ ?_;rw [Az];dsimp only [List.map,In.env,aB,aA];have hdm:=pN (N:=1048576) q (fun p hp'=>Nat.le_of_lt (hp p hp'));have hal:=bM q m lead y st;have haf:∀ x∈aV q m lead y st,Fit B x:=fun x hx=>yF C hst hx;refine aC (Bu q m lead y st N B C hst hN hm hmN (by omega) h64 hql hyl (fun p hp'=>by have:=hp p hp';omega) hl0) rfl ?_;dsimp only [aB,aA];refine aC (Hz q m lead (fun p hp'=>by have:=hp p hp';omega) (by omega) (by omega)) rfl ?_;dsimp only [aB,aA];refine vn (aG (by omega) (by omega)) rfl ?_;dsimp only [aB,aA];generalize hW:m+bA q=W at *;generalize ha:aV q m lead y st=a at *
 have fb:∀ k,k≤W→Fit (B+B) (FB a aJ (st-W) k):=by
  intro k
  induction k with
  | zero=>exact fun _=>Fit.zero (by omega)
  | succ k ih=>
    intro hk;rw [FB];refine rS (by omega) (fun x hx=>?_) 2 (by simp);simp only [List.mem_cons,List.not_mem_nil,or_false] at hx;rcases hx with rfl | rfl
    ·exact ih (by omega)
    ·exact (dQ (kH (by omega) haf _)).mul (hrho _ (by omega))
 refine bC {k:Nat // k≤W} (fun g=>([aF.one (.int .i64 ((st-W+g.1:Nat):Int)), .one (eQ q), .one (.int .i64 m)]:List aF)++(qC lead).map aF.one++(qC aJ).map aF.one ++ [aF.one (.int .i64 st), .one (sQ y), .one (sQ a)]++(qC (FB a aJ (st-W) g.1)).map aF.one) (fun g=>W-g.1) ⟨0,Nat.zero_le _⟩ (by
  have e:(st:Int)-(W:Int)=((st-W+0:Nat):Int):=by omega
  rw [e];exact ⟨aF.Sub.same,aF.Sub.same,aF.Sub.same,aF.Sub.same,aF.Sub.same,aF.Sub.same,aF.Sub.same,aF.Sub.same,aF.Sub.same,aF.Sub.same,aF.Sub.same,aF.Sub.same,iZ.1,iZ.2.1,iZ.2.2.1,trivial⟩) (fun _=>rfl) ?_
 rintro ⟨k,hk⟩;dsimp only [aB,aA,List.map] at hk ⊢;refine vn bB rfl ?_;dsimp only [aB,aA];refine vs _ rfl (fun h5=>?_) (fun h5=>?_)
 ·have hkl:st-W+k<a.length:=by omega
  have hfa:=dQ (haf _ (List.mem_of_getElem? (cW hkl)));have hfr:=hrho (st-W+k) (by omega);refine vn (aW CJ (by omega) (Int.toNat_natCast (st-W+k)) (cW hkl)) rfl ?_;dsimp only [aB,aA];refine vn (bO sS (by decide) (by simp) (.inl rfl)) rfl ?_;dsimp only [aB,aA];refine aC (qK _) rfl ?_;dsimp only [aB,aA];refine aC (iY aJ (st-W+k) B (by omega) (by omega) (fun j hj=>hrho j (by omega))) rfl ?_;dsimp only [aB,aA];refine aC (dF _ _ B B hfa hfr (by omega)) rfl ?_;dsimp only [aB,aA];refine cL (us:=rQ [FB a aJ (st-W) k,(a.getD (st-W+k) 0).abs*aJ^(st-W+k)]) rfl ?_;dsimp only [aB,aA]
  refine aC (aP6 [FB a aJ (st-W) k,(a.getD (st-W+k) 0).abs*aJ^(st-W+k)] (B+B) (fun x hx=>by
   simp only [List.mem_cons,List.not_mem_nil,or_false] at hx;rcases hx with rfl | rfl
   ·exact fb k hk
   ·exact hfa.mul hfr) (by omega) (by omega) (by simp)) rfl ?_
  dsimp only [aB,aA];refine vn (aE (by omega) (by omega)) rfl ?_;dsimp only [aB,aA];exact aR rfl ⟨⟨k+1,by omega⟩,aO.rfl,by show W-(k+1)<W-k;omega⟩
 rw [show k=W by omega];exact aL rfl
abbrev kM (q:List (List Rat)) (m:Nat) (lead aJ:Rat) (st N l:Nat):List aH:=
 KV ([eQ q, .int .i64 m]++qC lead) aJ st (bK m l) (aV q m lead (bK m l) N) (FB (aV q m lead (bK m l) st) aJ (st-(m+bA q)) (m+bA q))
def aH.and (c d:aH):aH where
 rep:=fun M w v=>c.rep M w v∧d.rep M w v
 mono:=fun hk h=>⟨aH.mono _ hk h.1,aH.mono _ hk h.2⟩
 one:=fun h=>c.one h.1
theorem QD {P:Program} {op:Op} {ty:Nat} {c d:aH} {t:aF} (h:aX P op ty [.one d] t):aX P op ty [.one (aH.and c d)] t:=fun M w ρ o h1 h2 hr=>by
 refine h M w ρ o h1 h2 ?_;generalize op.operands.toList.map ρ=vs at hr
 match vs,hr with
 | [v],hr=>exact ⟨hr.1.2,trivial⟩
 | [],hr=>exact hr.elim
 | _::_::_,hr=>exact hr.2.elim
theorem YD:iO prog 185 0=some (171,0,5):=by kernel_rfl
theorem Xg:iO prog 171 1=some (3,1,1):=by kernel_rfl
theorem ad7 (v1:Value) (n0:Nat) (q:List (List Rat)) (m:Nat) (lead aJ:Rat) (st l:Nat) (hl:l<m) (hm:m≤64) (ts:List (List aH)) (hts:ts.length≤64):vc prog (fun o=>o = .retr [.one (aH.and (.exact v1) (.bE (yE q m lead aJ (st:Nat)))), .one (.int .i64 m), .one (.int .i64 l)] (ts ++ [[aH.GD n0 266 (kM q m lead aJ st st l)]])∨o = .orc 132 [.agg (yE q m lead aJ (st:Nat)), .one (sQ (bK m l))] [.one (aH.GD n0 266 (kM q m lead aJ st st l))]) (QF prog 23 (fun _=>none) (gS [1,1,0,1,0,0,1,1,0,0,1] (oX f225)) [(1, .v none),(4, .v none),(7, .v none),(8, .v none)] 3 194 1 3 ([1,7,8].map ResultVar.tmp)) ([.v (.one (aH.and (.exact v1) (.bE (yE q m lead aJ (st:Nat))))), .v (.one (.int .i64 l)), .v (.one (.int .i64 m)), .v (.one (.int .i64 l))].map In.env ++ [.rows (ts)]) []:=by
 rw [Iu];dsimp only [List.map,In.env,aB,aA];refine vn (t:=.agg (yE q m lead aJ (st:Nat))) (QD (bO Zq (by decide) (by simp) (.inl rfl))) rfl ?_;dsimp only [aB,aA];refine vn (t:=.one (.bE (yE q m lead aJ (st:Nat)))) (QD (qU YD (by decide))) rfl ?_;dsimp only [aB,aA];refine vn (qU Xg (by decide)) rfl ?_;dsimp only [aB,aA];refine vn (t:=.one (.int .i64 m)) (bO LK (by decide) (by simp) (.inr rfl)) rfl ?_;dsimp only [aB,aA];refine aC (Xx m l hl hm) rfl ?_;dsimp only [aB,aA];refine aX3 (ts:=[.one (aH.GD n0 266 (kM q m lead aJ st st l))]) (.inr rfl) rfl ?_;dsimp only [aB,aA];refine cL (us:=[[aH.GD n0 266 (kM q m lead aJ st st l)]]) rfl ?_;dsimp only [aB,aA];refine uE (ts:=ts) (us:=[[aH.GD n0 266 (kM q m lead aJ st st l)]]) (vs:=ts ++ [[aH.GD n0 266 (kM q m lead aJ st st l)]]) rfl rfl rfl (by simp;omega) (by simp [maxLen];omega) ?_;dsimp only [aB,aA];exact ⟨_,rfl, .inl rfl⟩
abbrev sX (M:Nat→Prop) (ps:List Nat) (bv:Value) (k:Nat):Prop:=(M k∨k∈ps)∨bv.ownBlock=some k
structure lW (M:Nat→Prop) (n0:Nat) (w:World) (C:Nat→List aH) (bv:Value) (ps:List Nat):Prop where
 nd:ps.Nodup
 lo:∀ b∈ps,n0≤b∧b<w.heap.size
 sl:w.ownsRow n0 194 1 bv ps.length (ps.map fun b=>Value.pointer (some ⟨b,0,none⟩))
 dis:∀ b∈ps,bv.ownBlock≠some b
 cells:∀ (l b:Nat),ps[l]? = some b→∃ us:Array Value,w.heap[b]? = some (.cells us 266 (0,0))∧aZ (sX M ps bv) w (C l) us.toList
structure aX9 (M:Nat→Prop) (w0:World) (ar:List aH) (C:Nat→List aH) (m l:Nat) (ps:List Nat) (a:Act) (W:World):Prop where
 sz:a.tmps.size=23
 df:a.defers = []
 bel:Below w0.heap.size w0 W
 hl:l≤m
 pl:ps.length=l
 big:w0.heap.size<W.heap.size
 t1:(aH.and (.exact (.pointer (some ⟨w0.heap.size,0,none⟩))) (.bE ar)).rep (sX M ps (a.tmps.getD 3 Go.undef)) W (a.tmps.getD 1 Go.undef)
 t7:a.tmps.getD 7 Go.undef = .int .i64 m
 t8:a.tmps.getD 8 Go.undef = .int .i64 l
 bas:lW M (w0.heap.size+1) W C (a.tmps.getD 3 Go.undef) ps
theorem Hq {M:Nat→Prop} {w:World}:∀ ps:List Nat,aZ M w (ps.map fun b=>[aH.exact (Value.pointer (some ⟨b,0,none⟩))]).flatten (ps.map fun b=>Value.pointer (some ⟨b,0,none⟩))
 | []=>trivial
 | b::ps=>⟨⟨rfl,rfl⟩,Hq ps⟩
theorem LY {M:Nat→Prop} {w:World}:∀ {ps:List Nat} {vs:List Value} {c:aH},aZ M w ((ps.map fun b=>[aH.exact (Value.pointer (some ⟨b,0,none⟩))]) ++ [[c]]).flatten vs→∃ x,vs=(ps.map fun b=>Value.pointer (some ⟨b,0,none⟩)) ++ [x]∧c.rep M w x
 | [],[x],c,h=>⟨x,rfl,h.1⟩
 | [],[],c,h=>h.elim
 | [],_::_::_,c,h=>h.2.elim
 | b::ps,[],c,h=>h.elim
 | b::ps,v::vs,c,h=>by
   obtain ⟨x,e,hx⟩:=LY (ps:=ps) h.2;have hv:v = .pointer (some ⟨b,0,none⟩):=h.1.1;exact ⟨x,by rw [hv,e];rfl,hx⟩
theorem Hy {M:Nat→Prop} {n0 b:Nat} {W W':World} {C:Nat→List aH} {v v':Value} {ps:List Nat} (I:lW M n0 W C v ps) (hg:W.grownBy W' v.ownBlock) (hblk:∀ k,v'.ownBlock=some k→W.heap.size≤k∨v.ownBlock=some k) (hb:W.heap.size≤b) :
  bZ (sX M ps v) W (sX M (ps ++ [b]) v') W':=fun k o hk ho _=>by
 have hlt:=(Array.getElem?_eq_some_iff.1 ho).1;refine ⟨?_,(hg.block k hlt (fun e=>hk (.inr e.symm))).trans ho⟩;rintro ((h | h) | h)
 ·exact hk (.inl (.inl h))
 ·rcases List.mem_append.1 h with h | h
  ·exact hk (.inl (.inr h))
  ·rw [List.mem_singleton] at h;omega
 ·rcases hblk k h with h | h
  ·omega
  ·exact hk (.inr h)
theorem RL {M:Nat→Prop} {n0:Nat} {W W':World} {C:Nat→List aH} {v v':Value} {ps:List Nat} {vs':List Value} (hn0:n0≤W.heap.size) (I:lW M n0 W C v ps) (hg:W.grownBy W' v.ownBlock)
  (hown:W'.ownsRow 0 194 1 v' ((ps.map fun b=>[aH.exact (Value.pointer (some ⟨b,0,none⟩))]) ++ [[aH.GD W.heap.size 266 (C ps.length)]]).length vs') (hblk:∀ k,v'.ownBlock=some k→W.heap.size≤k∨v.ownBlock=some k)
  (hrep:aZ (fun k=>(M k∨k∈ps)∨v'.ownBlock=some k) W' ((ps.map fun b=>[aH.exact (Value.pointer (some ⟨b,0,none⟩))]) ++ [[aH.GD W.heap.size 266 (C ps.length)]]).flatten vs') :
  ∃ b,W.heap.size≤b∧lW M n0 W' C v' (ps ++ [b]):=by
 obtain ⟨x,rfl,b,us,rfl,hb1,hb2,hb3,hb4⟩:=LY hrep;have hbn:b ∉ ps:=fun h=>by have:=(I.lo b h).2;omega
 have hblt:b<W'.heap.size:=(Array.getElem?_eq_some_iff.1 hb3).1;have hk:=Hy I hg hblk hb1;refine ⟨b,hb1,?_,fun b' hb'=>?_,?_,fun b' hb' e=>?_,fun l b' hl=>?_⟩
 ·rw [List.nodup_append];exact ⟨I.nd,by simp,fun a ha c hc e=>by rw [List.mem_singleton] at hc;subst hc;subst e;exact hbn ha⟩
 ·rcases List.mem_append.1 hb' with h | h
  ·have h1:=I.lo b' h;have h2:=hg.size;exact ⟨h1.1,by omega⟩
  ·rw [List.mem_singleton] at h;subst h;exact ⟨by omega,hblt⟩
 ·have h:=hown;rw [List.length_append,List.length_map,List.length_cons,List.length_nil] at h;rw [List.length_append,List.length_cons,List.length_nil,List.map_append];refine ⟨h.1,?_⟩;rcases h.2 with ⟨_,e⟩ | ⟨g,cap,cur,hv,_,rest⟩
  ·omega
  ·refine .inr ⟨g,cap,cur,hv,?_,rest⟩;rcases hblk g (by rw [hv];rfl) with h | h
   ·omega
   ·exact (I.sl.lt g h).1
 ·rcases List.mem_append.1 hb' with h | h
  ·rcases hblk b' e with h2 | h2
   ·have:=(I.lo b' h).2;omega
   ·exact I.dis b' h h2
  ·rw [List.mem_singleton] at h;subst h;exact hb2 (.inr e)
 ·rcases Nat.lt_or_ge l ps.length with hlt | hge
  ·rw [List.getElem?_append_left hlt] at hl;obtain ⟨us',h1,h2⟩:=I.cells l b' hl;have hm:=List.mem_of_getElem? hl;exact ⟨us',(hg.block b' (I.lo b' hm).2 (fun e=>I.dis b' hm e.symm)).trans h1,h2.mono hk⟩
  ·have hll:l=ps.length:=by
    have:=(List.getElem?_eq_some_iff.1 hl).1;rw [List.length_append,List.length_cons,List.length_nil] at this;omega
   subst hll;rw [List.getElem?_append_right (Nat.le_refl _),Nat.sub_self] at hl;obtain rfl:b=b':=by simpa using hl
   refine ⟨us,hb3,hb4.mono fun k o hkm ho _=>⟨?_,ho⟩⟩;rintro ((h | h) | h)
   ·exact hkm (.inl (.inl (.inl h)))
   ·rcases List.mem_append.1 h with h | h
    ·exact hkm (.inl (.inl (.inr h)))
    ·rw [List.mem_singleton] at h;exact hkm (.inr h)
   ·exact hkm (.inl (.inr h))
theorem lW.low {M:Nat→Prop} {n0 n1:Nat} {W:World} {C:Nat→List aH} {v:Value} {ps:List Nat} (I:lW M n0 W C v ps) (h:n1≤n0):lW M n1 W C v ps:=
 ⟨I.nd,fun b hb=>⟨by have:=(I.lo b hb).1;omega,(I.lo b hb).2⟩,⟨I.sl.1,I.sl.2.imp id (fun ⟨g,cap,cur,h1,h2,h3⟩=>⟨g,cap,cur,h1,by omega,h3⟩)⟩,I.dis,I.cells⟩
theorem lW.Gg {M:Nat→Prop} {n0:Nat} {w W:World} {C:Nat→List aH} {v:Value} {ps:List Nat} (I:lW M n0 W C v ps) (hM:dL M w) (hn:w.heap.size≤n0) (hb:Below w.heap.size w W):dL (sX M ps v) W:=by
 refine ⟨fun k hk=>?_,hM.2.jD fun k o hk ho _=>?_⟩
 ·rcases hk with (h | h) | h
  ·have:=hM.1 k h;have:=hb.size;omega
  ·exact (I.lo k h).2
  ·exact (I.sl.lt k h).2
 ·have hlt:=(Array.getElem?_eq_some_iff.1 ho).1;refine ⟨?_,(hb.block k hlt).trans ho⟩;rintro ((h | h) | h)
  ·exact hk h
  ·have:=(I.lo k h).1;omega
  ·have:=(I.sl.lt k h).1;omega
theorem TR (q:List (List Rat)) (m:Nat) (lead aJ:Rat) (st N B:Nat) (C:∀ l,l<m→fU B q m lead (bK m l) N) (hst:st≤N) (hN:N≤1073741824) (hm:m≤64) (hmN:m≤N) (hB:B≤4294967296) (h64:64≤B) (hql:q.length=m+1) (hp:∀ p∈q,p.length<1048576) (hl0:lead≠0) (hw:m+bA q≤st) (hrho:∀ j,j≤2*st+1→Fit B (aJ^j)) (n0 l:Nat) (hl:l<m) :
  (∀ args w,(callFunc 132 args).run prog w = .ok (.enter 132 args) w)∧∀ (M:Nat→Prop) (w':World) (vs:List Value),n0≤w'.heap.size→dL M w'→cI M w' [.agg (yE q m lead aJ (st:Nat)), .one (sQ (bK m l))] vs →
   Calls prog 132 vs.toArray w' fun e w2=>Below w'.heap.size w' w2∧sZ M w2 (.ret [.one (aH.GD n0 266 (kM q m lead aJ st st l))]) e:=
 ⟨bR (by kernel_rfl),fun M w' vs hn hM hr=>(XD q m lead aJ st (bK m l) N B (C l hl) hst hN hm hmN hB h64 hql (FL m l) hp hl0 hw hrho M w' vs hM hr).mono (by
  rintro e w2 ⟨hb,b,us,rfl,hle,hh,hrep⟩;exact ⟨hb,[.pointer (some ⟨b,0,none⟩)],rfl,⟨b,us.toArray,rfl,by omega,fun h=>by have:=hM.1 b h;omega,hh,hrep⟩,trivial⟩)⟩
set_option maxRecDepth 100000 in
set_option maxHeartbeats 1000000 in
theorem Pm (M:Nat→Prop) (w:World) (hM:dL M w) (q:List (List Rat)) (m:Nat) (lead aJ:Rat) (st N B:Nat) (C:∀ l,l<m→fU B q m lead (bK m l) N) (hst:st≤N) (hN:N≤1073741824) (hm:m≤64) (hmN:m≤N) (hB:B≤4294967296) (h64:64≤B) (hql:q.length=m+1) (hp:∀ p∈q,p.length<1048576) (hl0:lead≠0) (hw:m+bA q≤st) (hrho:∀ j,j≤2*st+1→Fit B (aJ^j))
  (u0 u1 u2 u3 u4 u5 u6 u7 u8:Value) (ha:aZ M w (yE q m lead aJ (st:Nat)) [u0,u1,u2,u3,u4,u5,u6,u7,u8]) :
  Calls prog 225 #[.agg #[u0,u1,u2,u3,u4,u5,u6,u7,u8]] w fun e w'=>∃ bv ps,e = .returned bv∧ps.length=m∧Below w.heap.size w w'∧lW M w.heap.size w' (kM q m lead aJ st st) bv ps:=by
 obtain ⟨o0,o1,o2,o3,o4,o5,o6,o7,o8⟩:u0.oneCell'=true∧u1.oneCell'=true∧u2.oneCell'=true∧u3.oneCell'=true∧u4.oneCell'=true∧u5.oneCell'=true∧u6.oneCell'=true∧u7.oneCell'=true∧u8.oneCell'=true:=by
  have:=ha.one;exact ⟨this _ (by simp),this _ (by simp),this _ (by simp),this _ (by simp),this _ (by simp),this _ (by simp),this _ (by simp),this _ (by simp),this _ (by simp)⟩
 have e1:u1 = .int .i64 m:=ha.2.1.1;subst e1;refine calls_of_wp func225 rfl ?_;simp only [ntmps225,List.size_toArray,List.length_cons,List.length_nil,Nat.reduceAdd,Nat.reduceSub,Array.replicate_succ,Array.replicate_zero,List.push_toArray,List.append_toArray,List.nil_append,List.cons_append];have hM':dL M (w.alloc (.cells #[u0, .int .i64 m,u2,u3,u4,u5,u6,u7,u8] 185)):=⟨fun b hb=>by rw [World.size_alloc];have:=hM.1 b hb;omega,hM.2.below rfl ((Below.refl _ w).alloc (Nat.le_refl _) _)⟩
 have hb0:Below w.heap.size w (w.alloc (.cells #[u0, .int .i64 m,u2,u3,u4,u5,u6,u7,u8] 185)):=(Below.refl _ w).alloc (Nat.le_refl _) _
 go_wp2
 refine wp_loop_ghost (fun n a' W=>∃ l ps,n=m-l∧aX9 M w (yE q m lead aJ (st:Nat)) (kM q m lead aJ st st) m l ps a' W) (m-0) ⟨0,[],rfl,⟨rfl,rfl,hb0,Nat.zero_le _,rfl,by rw [World.size_alloc];omega,⟨⟨rfl,rfl⟩,?_⟩,rfl,rfl,⟨List.nodup_nil,by simp,World.ownsRow_nil _ _ _ _,by simp,by intro l b h;simp at h⟩⟩⟩ ?_
 ·refine ⟨w.heap.size,0,_,_,_,rfl,?_,heap_alloc_new w _,?_⟩
  ·rintro ((h | h) | h)
   ·have:=hM.1 _ h;omega
   ·cases h
   ·cases h
  ·exact ha.mono fun b o hb ho _=>by
    have hlt:=(Array.getElem?_eq_some_iff.1 ho).1;refine ⟨?_,(hb0.block b hlt).trans ho⟩;rintro ((h | h) | h)
    ·exact hb h
    ·cases h
    ·cases h
 rintro n a' W ⟨l,ps,rfl,I⟩;obtain ⟨t,ds⟩:=a';have hds:ds = []:=I.df;subst hds;have t7:t.getD 7 Go.undef = .int .i64 m:=I.t7;have t8:t.getD 8 Go.undef = .int .i64 l:=I.t8;have hll:=I.hl;rw [Zw t I.sz,t7,t8]
 go_wp2
 ·rename_i Q1 K1 hK1 Q2 hlm K3 hK3;have hlm:l<m:=by omega
  have hpl:=I.pl;have hbl:=I.bel;have hbig:=I.big
  refine aj0 (E:=194) (sz:=1) (t0:=3) (tr:=3) (M:=fun k=>M k∨k∈ps) (v:=t.getD 3 Go.undef) (vs:=ps.map fun b=>Value.pointer (some ⟨b,0,none⟩)) (base:=w.heap.size+1) (ins:=[(1, .v none),(4, .v none),(7, .v none),(8, .v none)]) (xs:=[.v (.one (aH.and (.exact (.pointer (some ⟨w.heap.size,0,none⟩))) (.bE (yE q m lead aJ (st:Nat))))), .v (.one (.int .i64 l)), .v (.one (.int .i64 m)), .v (.one (.int .i64 l))]) fo ⟨rfl,rfl,rfl,rfl,trivial⟩
   (ad7 (.pointer (some ⟨w.heap.size,0,none⟩)) W.heap.size q m lead aJ st l hlm hm (ps.map fun b=>[aH.exact (Value.pointer (some ⟨b,0,none⟩))]) (by rw [List.length_map];omega)) (by kernel_rfl)
   (TR q m lead aJ st N B C hst hN hm hmN hB h64 hql hp hl0 hw hrho W.heap.size l hlm) (I.bas.Gg hM (by omega) I.bel) (fun k hk e=>?_) rfl rfl ⟨I.t1,⟨rfl,rfl⟩,⟨rfl,rfl⟩,⟨rfl,rfl⟩,trivial⟩ rfl (by rw [List.length_map];exact I.bas.sl) (by intro x hx;obtain ⟨b,_,rfl⟩:=List.mem_map.1 hx;rfl) (Hq ps) ?_
  ·rcases hk with h | h
   ·have:=hM.1 k h;have:=(I.bas.sl.lt k e).1;omega
   ·exact I.bas.dis k h e
  ·intro a' w' us v' vs' hg hsz hdf hrun htr hown hblk hres hrep;obtain ⟨b,hb,hbas⟩:=RL (by omega) I.bas hg (by rw [hpl];exact hown) hblk (by rw [hpl];exact hrep);have hus:=tR hrun;subst hus;have hkp:=Hy I.bas hg hblk hb;obtain ⟨t',ds⟩:=a';have hds:ds = []:=hdf;subst hds;have t1':t'.getD 1 Go.undef = .pointer (some ⟨w.heap.size,0,none⟩):=hres.1.1.1;have t7':t'.getD 7 Go.undef = .int .i64 m:=hres.2.1.1;have t8':t'.getD 8 Go.undef = .int .i64 l:=hres.2.2.1.1;have t3':t'.getD 3 Go.undef=v':=htr;have hsz':t'.size=23:=hsz;show K3 _ _;refine hK3 _ _ ?_;rw [Zw t' hsz',t1',t7',t8',t3']
   go_wp2
   have ht1:=aH.mono _ hkp I.t1;rw [show ((⟨t,[]⟩:Act).tmps.getD 1 Go.undef) = .pointer (some ⟨w.heap.size,0,none⟩) from I.t1.1.1] at ht1
   exact ⟨m-(l+1),by omega,l+1,rfl,ps ++ [b],⟨rfl,rfl,⟨hg.os.trans hbl.os,hg.tape.trans hbl.tape,hg.output.trans hbl.output,Nat.le_trans hbl.size hg.size,fun k hk=>(hg.block k (by have:=hbl.size;omega) (fun e=>by have:=(I.bas.sl.lt k e.symm).1;omega)).trans (hbl.block k hk)⟩,
    hlm,by rw [List.length_append,hpl];rfl,Nat.lt_of_lt_of_le hbig hg.size,ht1,rfl,rfl,hbas⟩⟩
 ·have hlm:l=m:=by omega
  simp [bodyPost,results,show f225.results = #[.tmp 2] from rfl,go_sem];have key:lW M w.heap.size W (kM q m lead aJ st st) (t.getD 3 Go.undef) ps:=I.bas.low (Nat.le_succ _);rw [Array.getD_eq_getD_getElem?] at key;exact ⟨ps,by rw [I.pl];exact hlm,I.bel,key⟩
end Go.Sy
