/- Part. -/
import Derived.Test.YtdmcadckdnnglaaGreatDoorGb
set_option linter.all false
set_option maxHeartbeats 1000000
set_option maxRecDepth 100000
namespace Go.Sy
open Go Go.Proofs Go.RowKit Tryz Ord
def CZ(f:FuncId)(eg:∀args w,(callFunc f args).run prog w=.ok (.enter f args) w)(M:Nat->Prop)(W:World)(A T:Nat)(zs:Array Value)(zc cs':List aE)(pre:List aG)(vs:List Value)(er:Int)
  (hM:cX (fun b=>M b\/b=A) W) (hMA:¬M A) (hA:W.heap[A]?=some (.cells zs T (0,0))) (hpre:cG (fun b=>M b\/b=A) W pre vs) (hz:∀M' W',ab M' W' zc zs.toList)
  (hcl:(cs'=zc/\aL prog f (pre++[.one (.aj zc)]) (.pan (CD er)))\/(er=0/\tS prog f T pre zc [] cs')) :
  Calls prog 121 #[.func (.func f) #[] (vs++[Value.pointer (some ⟨A,0,none⟩)]).toArray] W fun r w'=>r=.returned (.int .i64 er)/\W.grownBy w' (some A) /\
   ∃us:Array Value,w'.heap[A]?=some (.cells us T (0,0))/\ab (fun b=>M b\/b=A) w' cs' us.toList:=by
 have hAlt:A<W.heap.size:=(cK.1 hA).1;obtain⟨n,hn⟩:∃n,W.heap.size=n:=⟨_,rfl⟩
 obtain⟨W4,hW4⟩:∃W4,W.alloc (.cells #[.int .i64 0] 55)=W4:=⟨_,rfl⟩
 have hB4:Below W.heap.size W W4:=by rw[<-hW4];exact(cF _ W).alloc (aY _) _
 have hs4:W4.heap.size=n+1:=by rw[<-hW4,bL,hn]
 have hA4:W4.heap[A]?=some (.cells zs T (0,0)):=(hB4.block _ hAlt).trans hA;have hX4:W4.heap[W.heap.size]?=some (.cells #[.int .i64 0] 55 (0,0)):=by rw[<-hW4];exact bG W _
 have hM4:cX (fun b=>M b\/b=A) W4:=⟨fun b hb=>Nat.lt_of_lt_of_le (hM.1 b hb) hB4.size,hM.2.below rfl hB4⟩
 rcases hcl with⟨rfl,hcl⟩ | ⟨rfl,hcl⟩
 ·refine(PG f _ W er (fun w'=>Below W4.heap.size W4 w') eg ?_).mono ?_
  ·rw[hW4];have hk:bP (fun b=>M b\/b=A) W M W4:=fun b o hb ho _=>⟨fun h=>hb (.inl h),(hB4.block b (cK.1 ho).1).trans ho⟩
   refine(hcl.2 M W4 (vs++[Value.pointer (some ⟨A,0,none⟩)]) (hM4.sub fun b hb=>.inl hb) (cG.append (hpre.mono hk) ⟨⟨A,0,zs,T,(0,0),rfl,hMA,hA4,?_⟩,trivial⟩)).mono ?_
   ·have h:=hz M W4;rw[eF,List.take_of_length_le (by rw[h.length];exact aY _)];exact h
   ·rintro r w' ⟨hb,hp⟩;exact⟨bv8 hp,(hb.block _ O).trans hX4,hb⟩
  ·rintro r w' ⟨rfl,w6,hb6,hg⟩;have hs6:=hb6.size;refine⟨rfl,⟨by rw[hg.os,hb6.os,hB4.os],by rw[hg.tape,hb6.tape,hB4.tape],by rw[hg.output,hb6.output,hB4.output],by have:=hg.size;omega,fun k hk _=>?_⟩,zs,?_,hz _ _⟩
   ·rw[hg.block k O (fun e=>by simp only[aI]at e;omega),hb6.block k O,hB4.block k hk]
   ·rw[hg.block A O (fun e=>by simp only[aI]at e;omega),hb6.block A O];exact hA4
 ·have hfine:cX (fun b=>M b\/b=A\/b=n) W4:=by
   refine⟨fun b h=>?_,fun x hx=>?_⟩
   ·rcases h with h | h | h
    ·exact hM4.1 b (.inl h)
    ·omega
    ·omega
   ·obtain⟨h1,T',fz,h2⟩:=hM4.2 x hx;obtain⟨_,T'',fz',h3⟩:=hM.2 x hx;refine⟨?_,T',fz,h2⟩;rintro(h | h | h)
    ·exact h1 (.inl h)
    ·exact h1 (.inr h)
    ·have:=(cK.1 h3).1;omega
  have hk:bP (fun b=>M b\/b=A) W (fun b=>M b\/b=A\/b=n) W4:=fun b o hb ho _=>by
   have hlt:=(cK.1 ho).1;refine⟨?_,(hB4.block b hlt).trans ho⟩;rintro(h | h | h)
   ·exact hb (.inl h)
   ·exact hb (.inr h)
   ·omega
  refine(IZ f _ W (fun w'=>W4.grownBy w' (some A)/\∃us:Array Value,w'.heap[A]?=some (.cells us T (0,0))/\ab (fun b=>M b\/b=A\/b=n) w' cs' us.toList) eg ?_).mono ?_
  ·rw[hW4];refine(hcl _ W4 A zs vs hfine (.inr (.inl rfl)) hA4 (hz _ _) (hpre.mono hk)).mono ?_;rintro r w' ⟨cur',us,hg,hA',rfl,hus,hcr⟩
   obtain rfl:us=[]:=by cases us with
    | nil=>rfl
    | cons x us=>exact hus.elim
   refine⟨rfl,?_,hg,cur',hA',hcr⟩;exact(hg.block _ O (fun e=>by simp only[aI]at e;omega)).trans hX4
  ·rintro r w' ⟨rfl,w6,⟨hg,us,hA6,hus⟩,rfl,hX6⟩;have hs6:=hg.size;have ho:∀k,k≠n->(w6.setRow W.heap.size #[.int .i64 0]).heap[k]?=w6.heap[k]?:=fun k hk=>dC _ _ _ _ O;refine⟨rfl,⟨by show w6.os=_;rw[hg.os,hB4.os],by show w6.tape=_;rw[hg.tape,hB4.tape],by show w6.output=_;rw[hg.output,hB4.output],by simp only[World.setRow,Array.size_modify];omega,fun k hk hne=>?_⟩,us,?_,?_⟩
   ·rw[ho k O,hg.block k O hne,hB4.block k hk]
   ·rw[ho A O];exact hA6
   ·refine hus.mono fun b o hb hob _=>⟨fun h=>hb (h.imp id .inl),?_⟩
    rw[ho b (fun e=>hb (.inr (.inr e)))];exact hob
attribute [local go_sem] Oper.semAt_some
def vG:Tr:=.back 0 [(.w (W 28 0)),(.w (W 6 0)),(.w (W 7 0)),(.w (W 8 0)),(.w (W 9 0)),(.w (W 10 0)),(.w (W 11 0)),(.w (W 12 0)),(.w (W 13 0)),(.w (W 14 0)),(.w (W 15 0)),(.w (W 16 0)),(.w (W 27 0)),(.w (W 27 1)),(.w (W 27 2))]
def uh:Tr:=.need (.prim [(W 5 0),(WK (1))] none) (.binOp .add 3 (.tmp 27) (.const (I3 (1))) 3) 3 false vG
def vH:Tr:=.need (.call 208 [(.one (.c (.sr 3 26)))] [(some 3)]) (.call ⟨.value (.func 208),#[(.tmp 47)],#[40]⟩) 39 true uh
def vJ:Tr:=.need (.lit 3 [[(.u 17 0),(.u 18 0),(.u 19 0)],[(.u 25 0),(.u 25 1),(.u 25 2)]]) (.buildSlice 40 2 #[(0,(.tmp 33)),(1,(.tmp 46))]) 40 false vH
def vO:Tr:=.need (.call 36 [(.agg [(U 23 0),(U 23 1),(U 23 2)]),(.agg [(U 24 0),(U 24 1),(U 24 2)])] [(some 3)]) (.call ⟨.value (.func 36),#[(.tmp 41),(.tmp 45)],#[39,39]⟩) 39 true vJ
def wQ:Tr:=.need (.call 203 [(.agg [(U 0 5),(U 0 6),(U 0 7)]),(W 5 0)] [(some 3)]) (.call ⟨.value (.func 203),#[(.tmp 43),(.tmp 44)],#[39,3]⟩) 39 false vO
def wk:Tr:=.need (.call 146 [(.agg [(U 22 0),(U 22 1),(U 22 2)])] [(some 3)]) (.call ⟨.value (.func 146),#[(.tmp 40)],#[39]⟩) 39 false wQ
def wq:Tr:=.need (.prim [(W 21 0)] (some 3)) (.load 39 (.tmp 39)) 39 false wk
def xS:Tr:=.need (.prim [(W 16 0),(W 5 0)] none) (.indexAddr 40 (.tmp 37) (.tmp 38)) 0 false wq
def vZ:Tr:=.ret [(.agg [(U 6 0),(U 7 0),(U 8 0),(U 9 0),(U 10 0),(U 11 0),(U 12 0),(U 13 0),(U 14 0),(U 15 0),(U 16 0),(U 17 0),(U 18 0),(U 19 0)])]
def xP:Tr:=.split (.u 20 0) xS vZ
def xl:Tr:=.need (.prim [(W 5 0),(W 0 8)] none) (.binOp .lss 3 (.tmp 23) (.tmp 25) 3) 4 false xP
def wG:Tr:=.loop 0 [(.w (W 4 0)),(.w (W 0 0)),(.w (W 0 1)),(.w (W 0 2)),(.w (W 0 3)),(.w (W 0 4)),(.w (W 0 5)),(.w (W 0 6)),(.w (W 0 7)),(.w (W 0 8)),(.w (W 1 0)),(.w (W 2 0)),(.w (.one (.c (.k (.slice none 0 0))))),(.w (.one (.c (.k (.bool false))))),(.w (.one (.c (.k (.slice none 0 0)))))] xl
def wy:Tr:=.need (.prim [(W 0 8),(W 3 0)] none) (.binOp .sub 3 (.tmp 18) (.tmp 21) 3) 3 false wG
def vp:Tr:=.need (.call 204 [(.agg [(U 0 0),(U 0 1),(U 0 2),(U 0 3),(U 0 4)])] [none]) (.call ⟨.value (.func 204),#[(.tmp 20)],#[171]⟩) 3 true wy
def ve:Tr:=.need (.call 101 [(.agg [(U 0 0),(U 0 1),(U 0 2),(U 0 3),(U 0 4)]),(W 1 0),(W 0 8)] [none]) (.call ⟨.value (.func 101),#[(.tmp 10),(.tmp 11),(.tmp 13)],#[171,40,3]⟩) 40 false vp
def AA:ZK prog f132 (fun _=>none) [.v (some 9),.v none] 266=ve:=by kernel_rfl
def Gu:Tr:=.retr [(W 0 0),(W 2 0),(W 3 0)] 12
def Hx:Tr:=.need (.app 1 8 (some 4) none (some 11)) (.call ⟨.builtin .append,#[(.tmp 11),(.tmp 19)],#[276,276]⟩) 276 false Gu
def HE:Tr:=.need (.lit 1 [[(.u 10 0)]]) (.buildSlice 276 1 #[(0,(.tmp 18))]) 276 false Hx
def GY:Tr:=.need (.call 132 [(.agg [(U 5 0),(U 5 1),(U 5 2),(U 5 3),(U 5 4),(U 5 5),(U 5 6),(U 5 7),(U 5 8)]),(W 9 0)] [none]) (.call ⟨.value (.func 132),#[(.tmp 12),(.tmp 17)],#[185,40]⟩) 194 true HE
def GW:Tr:=.need (.call 266 [(W 8 0),(W 1 0)] [none]) (.call ⟨.value (.func 266),#[(.tmp 15),(.tmp 16)],#[3,3]⟩) 40 false GY
def HF:Tr:=.need (.prim [(W 7 0)] none) (.load 3 (.tmp 14)) 3 false GW
def Gy:Tr:=.need (.prim [(W 6 0)] none) (.fieldAddr 171 (.tmp 13) 1) 0 false HF
def HD:Tr:=.need (.prim [(W 0 0)] none) (.fieldAddr 185 (.tmp 1) 0) 0 false Gy
def HK:Tr:=.need (.prim [(W 0 0)] (some 9)) (.load 185 (.tmp 1)) 185 false HD
def NJ:XS prog 23 (fun _=>none) (cd [1,1,0,1,0,0,1,1,0,0,1] (dr f225)) [(1,.v none),(4,.v none),(7,.v none),(8,.v none)] 3 194 1 3 ([1,7,8].map ResultVar.tmp)=HK:=by kernel_rfl
def aL4(t:Array Value)(h:t.size=23):t=#[t.getD 0 undef,t.getD 1 undef,t.getD 2 undef,t.getD 3 undef,t.getD 4 undef,t.getD 5 undef,t.getD 6 undef,t.getD 7 undef,t.getD 8 undef,t.getD 9 undef,t.getD 10 undef,t.getD 11 undef,t.getD 12 undef,t.getD 13 undef,t.getD 14 undef,t.getD 15 undef,t.getD 16 undef,t.getD 17 undef,t.getD 18 undef,t.getD 19 undef,t.getD 20 undef,t.getD 21 undef,t.getD 22 undef]:=(pX t 23 h).trans rfl
def aE.Le(n0 T:Nat)(C:List aE):aE where
 rep:=fun M w v=>∃(b:Nat)(us:Array Value),v=.pointer (some ⟨b,0,none⟩)/\n0<=b/\¬M b/\w.heap[b]?=some (.cells us T (0,0))/\ab (fun k=>M k\/k=b) w C us.toList
 mono:=by
  rintro M w M' w' v hk ⟨b,us,rfl,h1,h2,h3,h4⟩;obtain⟨h5,h6⟩:=hk b _ h2 h3 rfl;refine⟨b,us,rfl,h1,h5,h6,h4.mono fun k o hkm ho hc=>?_⟩;obtain⟨h7,h8⟩:=hk k o (fun h=>hkm (.inl h)) ho hc;exact⟨fun h=>h.elim h7 (fun e=>hkm (.inr e)),h8⟩
 one:=by
  rintro M w v ⟨b,us,rfl,_⟩;rfl
def bT2{P:Program}{post:Out->Prop}{bk:List (List aG->Prop)}{τ:Env}{ty:Nat}{last:Bool}{k:Tr}{f:Nat}{args:List SW}{sh:List (Option Nat)}{x:Operand}{xs:Array Operand}{tys:Array TypeId}{ts:List aG}
  (hp:post (.orc f (args.map (oW τ)) ts)) (hs:ts.map aG.shape=sh.map some) (hk:vc P post k (τ++ts) bk):vc P post (.need (.call f args sh) (.call ⟨.value x,xs,tys⟩) ty last k) τ bk:=
 .inr (.inr ⟨f,args,sh,ts,rfl,⟨_,_,rfl,rfl⟩,hs,hp,hk⟩)
def ap9(q:List (List Rat))(m:Nat)(lead aB:Rat)(st:Nat)(y:List Rat)(N B:Nat)(C:gm B q m lead y N)(hst:st<=N)(hN:N<=1073741824)(hm:m<=64)(hmN:m<=N)(hB:B<=4294967296)(h64:64<=B)(hql:q.length=m+1)(hyl:y.length=m)(hp:∀p∈q,p.length<1048576)(hl0:lead≠0)(hw:m+aa q<=st)(hrho:∀j,j<=2*st+1->Fit B (aB^j)):Sl prog 132 266 [(.agg (vb q m lead aB (st:Nat)):aG),(.one (sQ y):aG)] (SX ([eQ q,.int .i64 m]++qC lead) aB st y (aN q m lead y st) (JW (aN q m lead y st) aB (st-(m+aa q)) (m+aa q))):=by
 refine ah8 (args:=[.v (some 9),.v none]) (ins:=[.v (.agg (vb q m lead aB (st:Nat))),.v (.one (sQ y))]) (hints:=(fun _=>none)) fo func132 ⟨rfl,rfl,trivial⟩ ?_;rw[AA];dsimp only[List.map,In.env,aO,aP];have hdm:=px (N:=1048576) q (fun p hp'=>kR (hp p hp'));have hal:=bE q m lead y st;have haf:∀x∈aN q m lead y st,Fit B x:=fun x hx=>Fq C hst hx;apply aA (CH q m lead y st N B C hst hN hm hmN h64 hql hyl (fun p hp'=>by have:=hp p hp';omega) hl0) rfl;apply aA (Nw q m lead (fun p hp'=>by have:=hp p hp';omega)) rfl;apply vn aJ;dsimp only[aO,aP];generalize hW:m+aa q=W at *;generalize ha:aN q m lead y st=a at *
 have fb:∀k,k<=W->Fit (B+B) (JW a aB (st-W) k):=by
  intro k
  induction k with
  | zero=>exact fun _=>Fit.zero O
  | succ k ih=>
    intro hk;rw[JW];refine pY (fun x hx=>?_) 2 (by simp);simp only[List.mem_cons,ja,gY]at hx;rcases hx with rfl | rfl
    ·exact ih O
    ·exact(js (mg haf _)).mul (hrho _ O)
 refine ao {k:Nat // k<=W} (fun g=>([aG.one (.int .i64 ((st-W+g.1:Nat):Int)),.one (eQ q),.one (.int .i64 m)]:List aG)++(qC lead).map aG.one++(qC aB).map aG.one++[aG.one (.int .i64 st),.one (sQ y),.one (sQ a)]++(qC (JW a aB (st-W) g.1)).map aG.one) (fun g=>W-g.1) ⟨0,bO _⟩ (by
  have e:(st:Int)-(W:Int)=((st-W+0:Nat):Int):=O
  rw[e];exact⟨aG.Sub.same,aG.Sub.same,aG.Sub.same,aG.Sub.same,aG.Sub.same,aG.Sub.same,aG.Sub.same,aG.Sub.same,aG.Sub.same,aG.Sub.same,aG.Sub.same,aG.Sub.same,db.1,db.2.1,db.2.2.1,trivial⟩) (fun _=>rfl) ?_
 rintro⟨k,hk⟩;dsimp only[aO,aP,List.map]at hk|-;apply vn ak;refine vs _ rfl ?_ ?_<;>intro h5
 ·have hkl:st-W+k<a.length:=O
  have hfa:=js (haf _ (bc (bX hkl)));have hfr:=hrho (st-W+k) O;apply vn (aZ sD (bX hkl) (cS (st-W+k)));apply vn (bB ov (by decide) (by simp) (.inl rfl));apply aA (yD _);apply aA (iC aB (st-W+k) B (fun j hj=>hrho j O));apply aA (bg _ _ B B hfa hfr);apply bF (us:=rQ [JW a aB (st-W) k,(a.getD (st-W+k) 0).abs*aB^(st-W+k)])
  apply aA (Ud [JW a aB (st-W) k,(a.getD (st-W+k) 0).abs*aB^(st-W+k)] (B+B) (fun x hx=>by
   simp only[List.mem_cons,ja,gY]at hx;rcases hx with rfl | rfl
   ·exact fb k hk
   ·exact hfa.mul hfr) O O (by simp)) rfl
  dsimp only[aO,aP];apply vn aC;dsimp only[aO,aP];exact aW rfl ⟨⟨k+1,O⟩,aQ.rfl,by show W-(k+1)<W-k;omega⟩
 rw[show k=W by omega];exact aK
abbrev ga(q:List (List Rat))(m:Nat)(lead aB:Rat)(st N l:Nat):List aE:=
 SX ([eQ q,.int .i64 m]++qC lead) aB st (aX m l) (aN q m lead (aX m l) N) (JW (aN q m lead (aX m l) st) aB (st-(m+aa q)) (m+aa q))
def aE.and(c d:aE):aE where
 rep:=fun M w v=>c.rep M w v/\d.rep M w v
 mono:=fun hk h=>⟨aE.mono _ hk h.1,aE.mono _ hk h.2⟩
 one:=fun h=>c.one h.1
def WO{P:Program}{op:Op}{ty:Nat}{c d:aE}{t:aG}(h:af P op ty [.one d] t):af P op ty [.one (aE.and c d)] t:=fun M w ρ o h1 h2 hr=>by
 refine h M w ρ o h1 h2 ?_;generalize op.operands.toList.map ρ=vs at hr
 match vs,hr with
 | [v],hr=>exact⟨hr.1.2,trivial⟩
 | [],hr=>exact hr.elim
 | _::_::_,hr=>exact hr.2.elim
def az8:jA prog 185 0=some (171,0,5):=by kernel_rfl
def aD6:jA prog 171 1=some (3,1,1):=by kernel_rfl
def bt3(v1:Value)(n0:Nat)(q:List (List Rat))(m:Nat)(lead aB:Rat)(st l:Nat)(hl:l<m)(hm:m<=64)(ts:List (List aE))(hts:ts.length<=64):vc prog (fun o=>o=.retr [.one (aE.and (.exact v1) (.aj (vb q m lead aB (st:Nat)))),.one (.int .i64 m),.one (.int .i64 l)] (ts++[[aE.Le n0 266 (ga q m lead aB st st l)]])\/o=.orc 132 [.agg (vb q m lead aB (st:Nat)),.one (sQ (aX m l))] [.one (aE.Le n0 266 (ga q m lead aB st st l))]) (XS prog 23 (fun _=>none) (cd [1,1,0,1,0,0,1,1,0,0,1] (dr f225)) [(1,.v none),(4,.v none),(7,.v none),(8,.v none)] 3 194 1 3 ([1,7,8].map ResultVar.tmp)) ([.v (.one (aE.and (.exact v1) (.aj (vb q m lead aB (st:Nat))))),.v (.one (.int .i64 l)),.v (.one (.int .i64 m)),.v (.one (.int .i64 l))].map In.env++[.rows (ts)]) []:=by
 rw[NJ];dsimp only[List.map,In.env,aO,aP];apply vn (t:=.agg (vb q m lead aB (st:Nat))) (WO (bB aO0 (by decide) (by simp) (.inl rfl)));apply vn (t:=.one (.aj (vb q m lead aB (st:Nat)))) (WO (lk az8 (by decide)));apply vn (lk aD6 (by decide));apply vn (t:=.one (.int .i64 m)) (bB Uv (by decide) (by simp) (.inr rfl));apply aA (aJ5 m l hl hm);dsimp only[aO,aP];refine bT2 (ts:=[.one (aE.Le n0 266 (ga q m lead aB st st l))]) (.inr rfl) rfl ?_;apply bF (us:=[[aE.Le n0 266 (ga q m lead aB st st l)]]);refine pK (ts:=ts) (us:=[[aE.Le n0 266 (ga q m lead aB st st l)]]) (vs:=ts++[[aE.Le n0 266 (ga q m lead aB st st l)]]) rfl rfl rfl (by simp;omega) (by simp[maxLen];omega) ?_;dsimp only[aO,aP];exact⟨_,rfl,.inl rfl⟩
abbrev rI(M:Nat->Prop)(ps:List Nat)(bv:Value)(k:Nat):Prop:=(M k\/k∈ps)\/bv.ownBlock=some k
structure mf(M:Nat->Prop)(n0:Nat)(w:World)(C:Nat->List aE)(bv:Value)(ps:List Nat):Prop where
 nd:ps.Nodup
 lo:∀b∈ps,n0<=b/\b<w.heap.size
 sl:w.ownsRow n0 194 1 bv ps.length (ps.map fun b=>Value.pointer (some ⟨b,0,none⟩))
 dis:∀b∈ps,bv.ownBlock≠some b
 cells:∀(l b:Nat),ps[l]?=some b->∃us:Array Value,w.heap[b]?=some (.cells us 266 (0,0))/\ab (rI M ps bv) w (C l) us.toList
structure bS4(M:Nat->Prop)(w0:World)(ar:List aE)(C:Nat->List aE)(m l:Nat)(ps:List Nat)(a:Act)(W:World):Prop where
 sz:a.tmps.size=23
 df:a.defers=[]
 bel:Below w0.heap.size w0 W
 hl:l<=m
 pl:ps.length=l
 big:w0.heap.size<W.heap.size
 t1:(aE.and (.exact (.pointer (some ⟨w0.heap.size,0,none⟩))) (.aj ar)).rep (rI M ps (a.tmps.getD 3 undef)) W (a.tmps.getD 1 undef)
 t7:a.tmps.getD 7 undef=.int .i64 m
 t8:a.tmps.getD 8 undef=.int .i64 l
 bas:mf M (w0.heap.size+1) W C (a.tmps.getD 3 undef) ps
theorem OS{M:Nat->Prop}{w:World}:∀ps:List Nat,ab M w (ps.map fun b=>[aE.exact (Value.pointer (some ⟨b,0,none⟩))]).flatten (ps.map fun b=>Value.pointer (some ⟨b,0,none⟩))
 | []=>trivial
 | b::ps=>⟨⟨rfl,rfl⟩,OS ps⟩
theorem TW{M:Nat->Prop}{w:World}:∀{ps:List Nat}{vs:List Value}{c:aE},ab M w ((ps.map fun b=>[aE.exact (Value.pointer (some ⟨b,0,none⟩))])++[[c]]).flatten vs->∃x,vs=(ps.map fun b=>Value.pointer (some ⟨b,0,none⟩))++[x]/\c.rep M w x
 | [],[x],c,h=>⟨x,rfl,h.1⟩
 | [],[],c,h=>h.elim
 | [],_::_::_,c,h=>h.2.elim
 | b::ps,[],c,h=>h.elim
 | b::ps,v::vs,c,h=>by
   obtain⟨x,e,hx⟩:=TW (ps:=ps) h.2;have hv:v=.pointer (some ⟨b,0,none⟩):=h.1.1;exact⟨x,by rw[hv,e];rfl,hx⟩
def NK{M:Nat->Prop}{n0 b:Nat}{W W':World}{C:Nat->List aE}{v v':Value}{ps:List Nat}(I:mf M n0 W C v ps)(hg:W.grownBy W' v.ownBlock)(hblk:∀k,v'.ownBlock=some k->W.heap.size<=k\/v.ownBlock=some k)(hb:W.heap.size<=b) :
  bP (rI M ps v) W (rI M (ps++[b]) v') W':=fun k o hk ho _=>by
 have hlt:=(cK.1 ho).1;refine⟨?_,(hg.block k hlt (fun e=>hk (.inr e.symm))).trans ho⟩;rintro((h | h) | h)
 ·exact hk (.inl (.inl h))
 ·rcases List.mem_append.1 h with h | h
  ·exact hk (.inl (.inr h))
  ·rw[fH]at h;omega
 ·rcases hblk k h with h | h
  ·omega
  ·exact hk (.inr h)
def af6{M:Nat->Prop}{n0:Nat}{W W':World}{C:Nat->List aE}{v v':Value}{ps:List Nat}{vs':List Value}(I:mf M n0 W C v ps)(hg:W.grownBy W' v.ownBlock)
  (hown:W'.ownsRow 0 194 1 v' ((ps.map fun b=>[aE.exact (Value.pointer (some ⟨b,0,none⟩))])++[[aE.Le W.heap.size 266 (C ps.length)]]).length vs') (hblk:∀k,v'.ownBlock=some k->W.heap.size<=k\/v.ownBlock=some k)
  (hrep:ab (fun k=>(M k\/k∈ps)\/v'.ownBlock=some k) W' ((ps.map fun b=>[aE.exact (Value.pointer (some ⟨b,0,none⟩))])++[[aE.Le W.heap.size 266 (C ps.length)]]).flatten vs') (hn0:n0<=W.heap.size:=by omega) :
  ∃b,W.heap.size<=b/\mf M n0 W' C v' (ps++[b]):=by
 obtain⟨x,rfl,b,us,rfl,hb1,hb2,hb3,hb4⟩:=TW hrep;have hbn:b ∉ ps:=fun h=>by have:=(I.lo b h).2;omega
 have hblt:b<W'.heap.size:=(cK.1 hb3).1;have hk:=NK I hg hblk hb1;refine⟨b,hb1,?_,fun b' hb'=>?_,?_,fun b' hb' e=>?_,fun l b' hl=>?_⟩
 ·rw[List.nodup_append];exact⟨I.nd,by simp,fun a ha c hc e=>by rw[fH]at hc;subst hc;subst e;exact hbn ha⟩
 ·rcases List.mem_append.1 hb' with h | h
  ·have h1:=I.lo b' h;have h2:=hg.size;exact⟨h1.1,O⟩
  ·rw[fH]at h;subst h;exact⟨O,hblt⟩
 ·have h:=hown;rw[eZ,aR,List.length_cons,bq]at h;rw[eZ,List.length_cons,bq,eG];refine⟨h.1,?_⟩;rcases h.2 with⟨_,e⟩ | ⟨g,cap,cur,hv,_,rest⟩
  ·omega
  ·refine .inr ⟨g,cap,cur,hv,?_,rest⟩;rcases hblk g (by rw[hv];rfl)with h | h
   ·omega
   ·exact(I.sl.lt g h).1
 ·rcases List.mem_append.1 hb' with h | h
  ·rcases hblk b' e with h2 | h2
   ·have:=(I.lo b' h).2;omega
   ·exact I.dis b' h h2
  ·rw[fH]at h;subst h;exact hb2 (.inr e)
 ·rcases Nat.lt_or_ge l ps.length with hlt | hge
  ·rw[fJ hlt]at hl;obtain⟨us',h1,h2⟩:=I.cells l b' hl;have hm:=bc hl;exact⟨us',(hg.block b' (I.lo b' hm).2 (fun e=>I.dis b' hm e.symm)).trans h1,h2.mono hk⟩
  ·have hll:l=ps.length:=by
    have:=(dn.1 hl).1;rw[eZ,List.length_cons,bq]at this;omega
   subst hll;rw[fX (aY _),iY]at hl;obtain rfl:b=b':=by simpa using hl
   refine⟨us,hb3,hb4.mono fun k o hkm ho _=>⟨?_,ho⟩⟩;rintro((h | h) | h)
   ·exact hkm (.inl (.inl (.inl h)))
   ·rcases List.mem_append.1 h with h | h
    ·exact hkm (.inl (.inl (.inr h)))
    ·rw[fH]at h;exact hkm (.inr h)
   ·exact hkm (.inl (.inr h))
def mf.low{M:Nat->Prop}{n0 n1:Nat}{W:World}{C:Nat->List aE}{v:Value}{ps:List Nat}(I:mf M n0 W C v ps)(h:n1<=n0):mf M n1 W C v ps:=
 ⟨I.nd,fun b hb=>⟨by have:=(I.lo b hb).1;omega,(I.lo b hb).2⟩,⟨I.sl.1,I.sl.2.imp id (fun⟨g,cap,cur,h1,h2,h3⟩=>⟨g,cap,cur,h1,O,h3⟩)⟩,I.dis,I.cells⟩
def mf.Kf{M:Nat->Prop}{n0:Nat}{w W:World}{C:Nat->List aE}{v:Value}{ps:List Nat}(I:mf M n0 W C v ps)(hM:cX M w)(hn:w.heap.size<=n0)(hb:Below w.heap.size w W):cX (rI M ps v) W:=by
 refine⟨fun k hk=>?_,hM.2.gj fun k o hk ho _=>?_⟩
 ·rcases hk with(h | h) | h
  ·have:=hM.1 k h;have:=hb.size;omega
  ·exact(I.lo k h).2
  ·exact(I.sl.lt k h).2
 ·have hlt:=(cK.1 ho).1;refine⟨?_,(hb.block k hlt).trans ho⟩;rintro((h | h) | h)
  ·exact hk h
  ·have:=(I.lo k h).1;omega
  ·have:=(I.sl.lt k h).1;omega
def XZ(q:List (List Rat))(m:Nat)(lead aB:Rat)(st N B:Nat)(C:∀l,l<m->gm B q m lead (aX m l) N)(hst:st<=N)(hN:N<=1073741824)(hm:m<=64)(hmN:m<=N)(hB:B<=4294967296)(h64:64<=B)(hql:q.length=m+1)(hp:∀p∈q,p.length<1048576)(hl0:lead≠0)(hw:m+aa q<=st)(hrho:∀j,j<=2*st+1->Fit B (aB^j))(n0 l:Nat)(hl:l<m) :
  (∀args w,(callFunc 132 args).run prog w=.ok (.enter 132 args) w)/\∀(M:Nat->Prop)(w':World)(vs:List Value),n0<=w'.heap.size->cX M w'->cG M w' [.agg (vb q m lead aB (st:Nat)),.one (sQ (aX m l))] vs ->
   Calls prog 132 vs.toArray w' fun e w2=>Below w'.heap.size w' w2/\qM M w2 (.ret [.one (aE.Le n0 266 (ga q m lead aB st st l))]) e:=
 ⟨bJ (by kernel_rfl),fun M w' vs hn hM hr=>(ap9 q m lead aB st (aX m l) N B (C l hl) hst hN hm hmN hB h64 hql (Jd m l) hp hl0 hw hrho M w' vs hM hr).mono (by
  rintro e w2 ⟨hb,b,us,rfl,hle,hh,hrep⟩;exact⟨hb,[.pointer (some ⟨b,0,none⟩)],rfl,⟨b,us.toArray,rfl,O,fun h=>by have:=hM.1 b h;omega,hh,hrep⟩,trivial⟩)⟩
def Na(M:Nat->Prop)(w:World)(hM:cX M w)(q:List (List Rat))(m:Nat)(lead aB:Rat)(st N B:Nat)(C:∀l,l<m->gm B q m lead (aX m l) N)(hN:N<=1073741824)(hm:m<=64)(hB:B<=4294967296)(h64:64<=B)(hql:q.length=m+1)(hp:∀p∈q,p.length<1048576)(hl0:lead≠0)(hw:m+aa q<=st)(hrho:∀j,j<=2*st+1->Fit B (aB^j))
  (u0 u1 u2 u3 u4 u5 u6 u7 u8:Value) (ha:ab M w (vb q m lead aB (st:Nat)) [u0,u1,u2,u3,u4,u5,u6,u7,u8]) (hst:st<=N:=by omega) (hmN:m<=N:=by omega) :
  Calls prog 225 #[.agg #[u0,u1,u2,u3,u4,u5,u6,u7,u8]] w fun e w'=>∃bv ps,e=.returned bv/\ps.length=m/\Below w.heap.size w w'/\mf M w.heap.size w' (ga q m lead aB st st) bv ps:=by
 obtain⟨o0,o1,o2,o3,o4,o5,o6,o7,o8⟩:u0.oneCell'=true/\u1.oneCell'=true/\u2.oneCell'=true/\u3.oneCell'=true/\u4.oneCell'=true/\u5.oneCell'=true/\u6.oneCell'=true/\u7.oneCell'=true/\u8.oneCell'=true:=by
  have:=ha.one;exact⟨this _ (by simp),this _ (by simp),this _ (by simp),this _ (by simp),this _ (by simp),this _ (by simp),this _ (by simp),this _ (by simp),this _ (by simp)⟩
 have e1:u1=.int .i64 m:=ha.2.1.1;subst e1;refine iE func225 rfl ?_;simp only[ntmps225,dW,List.length_cons,bq,Nat.reduceAdd,Nat.reduceSub,dw,dv,du,dz,List.nil_append,List.cons_append];have hM':cX M (w.alloc (.cells #[u0,.int .i64 m,u2,u3,u4,u5,u6,u7,u8] 185)):=⟨fun b hb=>by rw[bL];have:=hM.1 b hb;omega,hM.2.below rfl ((cF _ w).alloc (aY _) _)⟩
 have hb0:Below w.heap.size w (w.alloc (.cells #[u0,.int .i64 m,u2,u3,u4,u5,u6,u7,u8] 185)):=(cF _ w).alloc (aY _) _
 go_wp2
 refine tV (fun n a' W=>∃l ps,n=m-l/\bS4 M w (vb q m lead aB (st:Nat)) (ga q m lead aB st st) m l ps a' W) (m-0) ⟨0,[],rfl,⟨rfl,rfl,hb0,bO _,rfl,by rw[bL];omega,⟨⟨rfl,rfl⟩,?_⟩,rfl,rfl,⟨List.nodup_nil,by simp,wK _ _ _ _,by simp,by intro l b h;simp at h⟩⟩⟩ ?_
 ·refine⟨w.heap.size,0,_,_,_,rfl,?_,bG w _,?_⟩
  ·rintro((h | h) | h)
   ·have:=hM.1 _ h;omega
   ·cases h
   ·cases h
  ·exact ha.mono fun b o hb ho _=>by
    have hlt:=(cK.1 ho).1;refine⟨?_,(hb0.block b hlt).trans ho⟩;rintro((h | h) | h)
    ·exact hb h
    ·cases h
    ·cases h
 rintro n a' W ⟨l,ps,rfl,I⟩;obtain⟨t,ds⟩:=a';have hds:ds=[]:=I.df;subst hds;have t7:t.getD 7 undef=.int .i64 m:=I.t7;have t8:t.getD 8 undef=.int .i64 l:=I.t8;have hll:=I.hl;rw[aL4 t I.sz,t7,t8]
 go_wp2
 ·rename_i Q1 K1 hK1 Q2 hlm K3 hK3;have hlm:l<m:=O
  have hpl:=I.pl;have hbl:=I.bel;have hbig:=I.big
  refine bh0 (E:=194) (sz:=1) (t0:=3) (tr:=3) (M:=fun k=>M k\/k∈ps) (v:=t.getD 3 undef) (vs:=ps.map fun b=>Value.pointer (some ⟨b,0,none⟩)) (base:=w.heap.size+1) (ins:=[(1,.v none),(4,.v none),(7,.v none),(8,.v none)]) (xs:=[.v (.one (aE.and (.exact (.pointer (some ⟨w.heap.size,0,none⟩))) (.aj (vb q m lead aB (st:Nat))))),.v (.one (.int .i64 l)),.v (.one (.int .i64 m)),.v (.one (.int .i64 l))]) fo ⟨rfl,rfl,rfl,rfl,trivial⟩
   (bt3 (.pointer (some ⟨w.heap.size,0,none⟩)) W.heap.size q m lead aB st l hlm hm (ps.map fun b=>[aE.exact (Value.pointer (some ⟨b,0,none⟩))]) (by rw[aR];omega)) (by kernel_rfl)
   (XZ q m lead aB st N B C hst hN hm hmN hB h64 hql hp hl0 hw hrho W.heap.size l hlm) (I.bas.Kf hM O I.bel) (fun k hk e=>?_) rfl rfl ⟨I.t1,⟨rfl,rfl⟩,⟨rfl,rfl⟩,⟨rfl,rfl⟩,trivial⟩ rfl (by rw[aR];exact I.bas.sl) (by intro x hx;obtain⟨b,_,rfl⟩:=gn.1 hx;rfl) (OS ps) ?_
  ·rcases hk with h | h
   ·have:=hM.1 k h;have:=(I.bas.sl.lt k e).1;omega
   ·exact I.bas.dis k h e
  ·intro a' w' us v' vs' hg hsz hdf hrun htr hown hblk hres hrep;obtain⟨b,hb,hbas⟩:=af6 I.bas hg (by rw[hpl];exact hown) hblk (by rw[hpl];exact hrep);have hus:=jJ hrun;subst hus;have hkp:=NK I.bas hg hblk hb;obtain⟨t',ds⟩:=a';have hds:ds=[]:=hdf;subst hds;have t1':t'.getD 1 undef=.pointer (some ⟨w.heap.size,0,none⟩):=hres.1.1.1;have t7':t'.getD 7 undef=.int .i64 m:=hres.2.1.1;have t8':t'.getD 8 undef=.int .i64 l:=hres.2.2.1.1;have t3':t'.getD 3 undef=v':=htr;have hsz':t'.size=23:=hsz;show K3 _ _;refine hK3 _ _ ?_;rw[aL4 t' hsz',t1',t7',t8',t3']
   go_wp2
   have ht1:=aE.mono _ hkp I.t1;rw[show((⟨t,[]⟩:Act).tmps.getD 1 undef)=.pointer (some ⟨w.heap.size,0,none⟩)from I.t1.1.1]at ht1
   exact⟨m-(l+1),O,l+1,rfl,ps++[b],⟨rfl,rfl,⟨hg.os.trans hbl.os,hg.tape.trans hbl.tape,hg.output.trans hbl.output,Nat.le_trans hbl.size hg.size,fun k hk=>(hg.block k (by have:=hbl.size;omega) (fun e=>by have:=(I.bas.sl.lt k e.symm).1;omega)).trans (hbl.block k hk)⟩,
    hlm,by rw[eZ,hpl];rfl,Nat.lt_of_lt_of_le hbig hg.size,ht1,rfl,rfl,hbas⟩⟩
 ·have hlm:l=m:=O
  simp[bodyPost,results,show f225.results=#[.tmp 2]from rfl,go_sem];have key:mf M w.heap.size W (ga q m lead aB st st) (t.getD 3 undef) ps:=I.bas.low (Nat.le_succ _);rw[jr]at key;exact⟨ps,by rw[I.pl];exact hlm,I.bel,key⟩
end Go.Sy
namespace Go.Sy
open Go Go.Proofs Go.RowKit Tryz Ord
attribute [local go_sem] Oper.semAt_some
def Hj:Tr:=.retr [(W 0 0),(W 1 0),(W 2 0),(W 3 0)] 9
def Gx:Tr:=.need (.strow 4 14 (.k (.int .i64 (0))) 10 [(.u 8 0)]) (.store 40 (.tmp 66) (.tmp 64)) 0 false Hj
def GZ:Tr:=.need (.call 101 [(.agg [(U 5 0),(U 5 1),(U 5 2),(U 5 3),(U 5 4)]),(W 6 0),(W 7 0)] [none]) (.call ⟨.value (.func 101),#[(.tmp 58),(.tmp 62),(.tmp 63)],#[171,40,3]⟩) 40 true Gx
def Gl:Tr:=.need (.prim [(W 0 0)] none) (.load 3 (.tmp 10)) 3 false GZ
def GS:Tr:=.need (.ldrow 4 (.k (.int .i64 (0))) 9 1 false) (.load 40 (.tmp 61)) 40 false Gl
def GO:Tr:=.need (.ldrow 4 (.k (.int .i64 (0))) 0 5 true) (.load 171 (.tmp 57)) 171 false GS
def Pj:ad5 prog 69 (fun _=>none) (cd [1,1,1,1,1,1,0,1,0,0,1,1,0,0,1] (dr f226)) [(10,.v none),(47,.v none),(48,.v none),(49,.v none)] 15 266 14 ([10,47,48,49].map ResultVar.tmp)=GO:=by kernel_rfl
def GA:Tr:=.ret [(W 0 0),(.one (.ref 0 [(.u 1 0),(.u 1 1),(.u 1 2)])),(.one (.ref 0 [(.u 2 0)])),(.one (.ref 0 [(.u 6 0),(.u 6 1),(.u 6 2)]))]
def Gz:Tr:=.need (.call 36 [(.agg [(U 4 0),(U 4 1),(U 4 2)]),(.agg [(U 5 0),(U 5 1),(U 5 2)])] [(some 3)]) (.call ⟨.value (.func 36),#[(.tmp 17),(.tmp 18)],#[39,39]⟩) 39 true GA
def Hb:Tr:=.need (.call 202 [(WK (2))] [(some 3)]) (.call ⟨.value (.func 202),#[(.const (I3 (2)))],#[3]⟩) 39 true Gz
def Gp:Tr:=.need (.call 202 [(W 3 0)] [(some 3)]) (.call ⟨.value (.func 202),#[(.tmp 16)],#[3]⟩) 39 true Hb
def Pp:kr prog 69 (fun _=>none) (cd [] (dr f226)) [(0,.v none),(1,.v (some 3)),(2,.v none),(3,.v none)] ([0,5,6,9].map ResultVar.tmp) (some 1) false=Gp:=by kernel_rfl
def HR(t:Array Value)(h:t.size=69):t=#[t.getD 0 undef,t.getD 1 undef,t.getD 2 undef,t.getD 3 undef,t.getD 4 undef,t.getD 5 undef,t.getD 6 undef,t.getD 7 undef,t.getD 8 undef,t.getD 9 undef,t.getD 10 undef,t.getD 11 undef,t.getD 12 undef,t.getD 13 undef,t.getD 14 undef,t.getD 15 undef,t.getD 16 undef,t.getD 17 undef,t.getD 18 undef,t.getD 19 undef,t.getD 20 undef,t.getD 21 undef,t.getD 22 undef,t.getD 23 undef,t.getD 24 undef,t.getD 25 undef,t.getD 26 undef,t.getD 27 undef,t.getD 28 undef,t.getD 29 undef,t.getD 30 undef,t.getD 31 undef,t.getD 32 undef,t.getD 33 undef,t.getD 34 undef,t.getD 35 undef,t.getD 36 undef,t.getD 37 undef,t.getD 38 undef,t.getD 39 undef,t.getD 40 undef,t.getD 41 undef,t.getD 42 undef,t.getD 43 undef,t.getD 44 undef,t.getD 45 undef,t.getD 46 undef,t.getD 47 undef,t.getD 48 undef,t.getD 49 undef,t.getD 50 undef,t.getD 51 undef,t.getD 52 undef,t.getD 53 undef,t.getD 54 undef,t.getD 55 undef,t.getD 56 undef,t.getD 57 undef,t.getD 58 undef,t.getD 59 undef,t.getD 60 undef,t.getD 61 undef,t.getD 62 undef,t.getD 63 undef,t.getD 64 undef,t.getD 65 undef,t.getD 66 undef,t.getD 67 undef,t.getD 68 undef]:=(pX t 69 h).trans rfl
def br3(v10 v47:Value)(i:Nat)(q:List (List Rat))(m:Nat)(lead aB:Rat)(st l n N B:Nat)(b:Rat)(a:List Rat)(C:gm B q m lead (aX m l) N)(hN:N<=1073741824)(hm:m<=64)(hB:B<=4294967296)(h64:64<=B)(hql:q.length=m+1)(hp:∀p∈q,p.length<1048576)(hl0:lead≠0)(hn:n<=N:=by omega)(hmN:m<=N:=by omega):vc prog (fun o=>o=.retr [.one (aE.and (.exact v10) (.aj [.int .i64 n])),.one (.exact v47),.one (.int .i64 m),.one (.int .i64 i)] ([SX ([eQ q,.int .i64 m]++qC lead) aB st (aX m l) (aN q m lead (aX m l) n) b])) (ad5 prog 69 (fun _=>none) (cd [1,1,1,1,1,1,0,1,0,0,1,1,0,0,1] (dr f226)) [(10,.v none),(47,.v none),(48,.v none),(49,.v none)] 15 266 14 ([10,47,48,49].map ResultVar.tmp)) ([.v (.one (aE.and (.exact v10) (.aj [.int .i64 n]))),.v (.one (.exact v47)),.v (.one (.int .i64 m)),.v (.one (.int .i64 i))].map In.env++[.rows ([SX ([eQ q,.int .i64 m]++qC lead) aB st (aX m l) a b])]) []:=by
 rw[Pj];dsimp only[List.map,In.env,aO,aP];refine vld (ts:=[SX ([eQ q,.int .i64 m]++qC lead) aB st (aX m l) a b]) (ik:=.i64) (n:=0) rfl rfl (qP _) (cells:=SX ([eQ q,.int .i64 m]++qC lead) aB st (aX m l) a b) rfl (.inl rfl) rfl ?_;dsimp only[aO,aP,Mf,List.drop,List.take];refine vld (ts:=[SX ([eQ q,.int .i64 m]++qC lead) aB st (aX m l) a b]) (ik:=.i64) (n:=0) (t:=.one (sQ (aX m l))) rfl rfl (qP _) (cells:=SX ([eQ q,.int .i64 m]++qC lead) aB st (aX m l) a b) rfl (.inr rfl) rfl ?_;apply vn (t:=.one (.int .i64 n)) (WO (av Uv));apply aA (CH q m lead (aX m l) n N B C hn hN hm hmN h64 hql (Jd m l) (fun p hp'=>by have:=hp p hp';omega) hl0) rfl;refine yx (ts:=[SX ([eQ q,.int .i64 m]++qC lead) aB st (aX m l) a b]) (us:=[SX ([eQ q,.int .i64 m]++qC lead) aB st (aX m l) (aN q m lead (aX m l) n) b]) rfl rfl O (cells:=SX ([eQ q,.int .i64 m]++qC lead) aB st (aX m l) a b) rfl rfl ?_;dsimp only[aO,aP];exact xH rfl rfl
abbrev jQ(q:List (List Rat))(m:Nat)(lead aB:Rat)(st l:Nat):Rat:=JW (aN q m lead (aX m l) st) aB (st-(m+aa q)) (m+aa q)
structure zM(q:List (List Rat))(m:Nat)(lead aB:Rat)(st:Nat)(r goal:Rat)(d B G:Nat):Prop where
 yH:∀n,st<=n->n<=max 1500 st->∀i,i<=d->lS B aB n i r
 sh:∀n,st<=n->n<=max 1500 st->∀i,i<=d->bh aB n i r<1
 fb:∀l,l<m->Fit B (jQ q m lead aB st l)
 ft:∀l,l<m->∀n,st<=n->n<=max 1500 st->∀i,i<=d->Fit G (eI (jQ q m lead aB st l) aB n i r)
 gf:Fit G goal
 ds:d<=st
 stb:st<=1073741824
 h0:aB≠0
 hB:B<=1073741824
 h64:64<=B
 hG:G<=1073741824
abbrev Ps(q:List (List Rat))(m:Nat)(lead aB:Rat)(st:Nat)(r goal:Rat)(d l n:Nat):Bool:=lp (jQ q m lead aB st l) aB n r goal d
structure uf(en:Nat->Nat->Bool)(m st:Nat)(out:Option Nat):Prop where
 iff:∀n,st<=n->n<=1500->((∀l,l<m->en l n=true)↔∃N,out=some N/\N<=n)
 some:∀N,out=some N->st<=N/\N<=1500
 up:∀l,l<m->∀n,st<=n->n<1500->en l n=true->en l (n+1)=true
def bl7(bv:Value)(hb1:bv.oneCell'=true)(r:Rat)(d k:Int)(hk:k<=256):vc prog (fun o=>ep o (.ret [.one (.exact bv),.one (.aj (qC r)),.one (.aj [.int .i64 d]),.one (.aj (qC (mkRat 1 (2^k.toNat)*mkRat 1 (2^2))))])) (kr prog 69 (fun _=>none) (cd [] (dr f226)) [(0,.v none),(1,.v (some 3)),(2,.v none),(3,.v none)] ([0,5,6,9].map ResultVar.tmp) (some 1) false) ([.v (.one (.exact bv)),.v (qT r),.v (.one (.int .i64 d)),.v (.one (.int .i64 k))].map In.env) []:=by
 rw[Pp];dsimp only[List.map,In.env,aO,aP];apply aA (wT k hk);apply aA (wT 2);apply aA (bg (mkRat 1 (2^k.toNat)) (mkRat 1 (2^2)) 257 257 (eu O) (eu O));exact aK
def NB{M:Nat->Prop}{W:World}(hM:cX M W){q:List (List Rat)}{m:Nat}{lead aB:Rat}{st:Nat}{r goal:Rat}{d B G:Nat}(T:zM q m lead aB st r goal d B G){l n:Nat}(hl:l<m)(hn1:st<=n)(hn2:n<=max 1500 st){b bn:Nat}{us:Array Value}{v6 v5 v9:Value}
  (hb:¬M b) (hbh:W.heap[b]?=some (.cells us 266 (0,0))) (hus:ab M W (ga q m lead aB st st l) us.toList) (hbn:¬M bn) (hbnh:W.heap[bn]?=some (.cells #[.int .i64 n] 3 (0,0)))
  (h6:(aE.aj [.int .i64 d]).rep M W v6) (h5:(aE.aj (qC r)).rep M W v5) (h9:(aE.aj (qC goal)).rep M W v9) :
  Calls prog 267 #[.pointer (some ⟨b,0,none⟩),v6,.pointer (some ⟨bn,0,none⟩),v5,v9] W fun e w'=>Below W.heap.size W w'/\e=.returned (.bool (Ps q m lead aB st r goal d l n)):=by
 have hd:=Qx (eQ q) (.int .i64 m) (dT lead.num.natAbs) (.bool (decide (lead.num<0))) (dT (lead.den-1)) aB st (aX m l) (aN q m lead (aX m l) st) (jQ q m lead aB st l) n d r goal B G (fun i hi=>T.yH n hn1 hn2 i hi) (by have:=T.stb;omega) (by have:=T.ds;omega) T.h0 (T.fb l hl) T.hB T.h64 (fun i hi=>T.sh n hn1 hn2 i hi) T.gf T.hG (fun i hi=>T.ft l hl n hn1 hn2 i hi);refine(hd.2 M W [.pointer (some ⟨b,0,none⟩),v6,.pointer (some ⟨bn,0,none⟩),v5,v9] hM ⟨⟨b,0,us,266,(0,0),rfl,hb,hbh,?_⟩,h6,⟨bn,0,_,_,_,rfl,hbn,hbnh,⟨⟨rfl,rfl⟩,trivial⟩⟩,h5,h9,trivial⟩).mono ?_
 ·have hlen:=hus.length;show ab M W (ga q m lead aB st st l) (List.take (ga q m lead aB st st l).length (List.drop 0 us.toList));rw[eF,List.take_of_length_le (oU hlen.symm)];exact hus
 ·rintro e w' ⟨hb,vs,rfl,hvs⟩;obtain⟨v,e1,hr⟩:=VR hvs;rw[hr.1]at e1;exact⟨hb,by rw[e1]⟩
def Jc{M:Nat->Prop}{W:World}(hM:cX M W)(e:Int)(p:Prop)[Decidable p]:Calls prog 130 #[.bool (decide p),.int .i64 e] W fun r w'=>Below W.heap.size W w'/\((p/\r=.returned (.tuple #[]))\/(¬p/\r=.panicked [{ v:=QS e,recovered:=false }])):=by
 by_cases hp:p
 ·rw[iV hp];refine((mw e).2 M W [.bool true,.int .i64 e] hM ⟨⟨rfl,rfl⟩,⟨rfl,rfl⟩,trivial⟩).mono ?_;rintro r w' ⟨hb,vs,rfl,hvs⟩
  obtain rfl:vs=[]:=by cases vs with
   | nil=>rfl
   | cons x vs=>exact hvs.elim
  exact⟨hb,.inl ⟨hp,rfl⟩⟩
 ·rw[mO hp];refine((mz e).2 M W [.bool false,.int .i64 e] hM ⟨⟨rfl,rfl⟩,⟨rfl,rfl⟩,trivial⟩).mono ?_;rintro r w' ⟨hb,hp'⟩;exact⟨hb,.inr ⟨hp,bv8 hp'⟩⟩
structure bL2(M:Nat->Prop)(w:World)(ps:List Nat)(bv:Value)(r goal:Rat)(d bn n:Nat)(a:Act)(W:World):Prop where
 sz:a.tmps.size=69
 df:a.defers=[]
 bel:Below w.heap.size w W
 bn1:w.heap.size<=bn
 hbn:W.heap[bn]?=some (.cells #[.int .i64 n] 3 (0,0))
 t0:a.tmps.getD 0 undef=bv
 t5:(aE.aj (qC r)).rep (fun k=>rI M ps bv k\/k=bn) W (a.tmps.getD 5 undef)
 t6:(aE.aj [.int .i64 d]).rep (fun k=>rI M ps bv k\/k=bn) W (a.tmps.getD 6 undef)
 t9:(aE.aj (qC goal)).rep (fun k=>rI M ps bv k\/k=bn) W (a.tmps.getD 9 undef)
 t10:a.tmps.getD 10 undef=.pointer (some ⟨bn,0,none⟩)
 t11:a.tmps.getD 11 undef=.func (.func 267) #[] #[a.tmps.getD 6 undef,.pointer (some ⟨bn,0,none⟩),a.tmps.getD 5 undef,a.tmps.getD 9 undef]
structure yS(ps:List Nat)(w w':World):Prop where
 os:w'.os=w.os
 tape:w'.tape=w.tape
 output:w'.output=w.output
 size:w.heap.size<=w'.heap.size
 block:∀k,k<w.heap.size->k ∉ ps->w'.heap[k]?=w.heap[k]?
def yS.Yi{ps:List Nat}{w w':World}(h:Below w.heap.size w w'):yS ps w w':=⟨h.os,h.tape,h.output,h.size,fun k hk _=>h.block k hk⟩
def yS.below{ps:List Nat}{w w' w2:World}(h:yS ps w w')(k:Below w'.heap.size w' w2):yS ps w w2:=⟨k.os.trans h.os,k.tape.trans h.tape,k.output.trans h.output,Nat.le_trans h.size k.size,fun j hj hp=>(k.block j (Nat.lt_of_lt_of_le hj h.size)).trans (h.block j hj hp)⟩
def yS.grown{ps:List Nat}{w w' w2:World}{b:Nat}(h:yS ps w w')(k:w'.grownBy w2 (some b))(hb:b∈ps):yS ps w w2:=⟨k.os.trans h.os,k.tape.trans h.tape,k.output.trans h.output,Nat.le_trans h.size k.size,fun j hj hp=>(k.block j (Nat.lt_of_lt_of_le hj h.size) (fun e=>hp (by simp only[aI]at e;rw[e];exact hb))).trans (h.block j hj hp)⟩
def aA9{M:Nat->Prop}{n0 i b:Nat}{W W':World}{C C':Nat->List aE}{v:Value}{ps:List Nat}{cur:Array Value}(I:mf M n0 W C v ps)(hi:ps[i]?=some b)(hg:W.grownBy W' (some b))(hh:W'.heap[b]?=some (.cells cur 266 (0,0)))
  (hr:ab (rI M ps v) W' (C' i) cur.toList) (hC:∀l,l≠i->C' l=C l):mf M n0 W' C' v ps:=by
 have hbm:=bc hi;have hk:bP (rI M ps v) W (rI M ps v) W':=fun k o hk ho _=>⟨hk,(hg.block k (cK.1 ho).1 (fun e=>hk (.inl (.inr (by simp only[aI]at e;rw[e];exact hbm))))).trans ho⟩
 refine⟨I.nd,fun k hk=>⟨(I.lo k hk).1,Nat.lt_of_lt_of_le (I.lo k hk).2 hg.size⟩,⟨I.sl.1,?_⟩,I.dis,fun l b' hl=>?_⟩
 ·rcases I.sl.2 with h | ⟨g,cap,cur,hv,h1,h2,h3⟩
  ·exact .inl h
  ·refine .inr ⟨g,cap,cur,hv,h1,(hg.block g (cK.1 h2).1 (fun e=>?_)).trans h2,h3⟩;simp only[aI]at e;exact I.dis b hbm (by rw[hv,<-e];rfl)
 ·by_cases e:l=i
  ·subst e;rw[hi]at hl;cases hl;exact⟨cur,hh,hr⟩
  ·obtain⟨us,h1,h2⟩:=I.cells l b' hl;rw[hC l e];refine⟨us,(hg.block b' (I.lo b' (bc hl)).2 (fun e2=>?_)).trans h1,h2.mono hk⟩;simp only[aI]at e2;subst e2;exact e ((List.getElem?_inj (dn.1 hl).1 I.nd).1 (hl.trans hi.symm))
def mf.grow{M:Nat->Prop}{n0:Nat}{W W':World}{C:Nat->List aE}{v:Value}{ps:List Nat}(I:mf M n0 W C v ps)(h:Below W.heap.size W W'):mf M n0 W' C v ps:=by
 refine⟨I.nd,fun k hk=>⟨(I.lo k hk).1,Nat.lt_of_lt_of_le (I.lo k hk).2 h.size⟩,⟨I.sl.1,?_⟩,I.dis,fun l b hl=>?_⟩
 ·rcases I.sl.2 with h' | ⟨g,cap,cur,hv,h1,h2,h3⟩
  ·exact .inl h'
  ·exact .inr ⟨g,cap,cur,hv,h1,(h.block g (cK.1 h2).1).trans h2,h3⟩
 ·obtain⟨us,h1,h2⟩:=I.cells l b hl;exact⟨us,(h.block b (cK.1 h1).1).trans h1,h2.mono (bP.below h)⟩
def mf.congr{M:Nat->Prop}{n0:Nat}{W:World}{C C':Nat->List aE}{v:Value}{ps:List Nat}(I:mf M n0 W C v ps)(h:∀l,l<ps.length->C' l=C l):mf M n0 W C' v ps:=
 ⟨I.nd,I.lo,I.sl,I.dis,fun l b hl=>by rw[h l (dn.1 hl).1];exact I.cells l b hl⟩
def yS.low{ps:List Nat}{n0:Nat}{w0 w W:World}(h:yS ps w W)(hw:Below n0 w0 w)(hn:n0<=w.heap.size)(hps:∀b∈ps,n0<=b):Below n0 w0 W:=
 ⟨h.os.trans hw.os,h.tape.trans hw.tape,h.output.trans hw.output,Nat.le_trans hw.size h.size,fun k hk=>(h.block k O (fun hm=>by have:=hps k hm;omega)).trans (hw.block k hk)⟩
structure bR4(M:Nat->Prop)(n0:Nat)(w:World)(ps:List Nat)(bv:Value)(C:Nat->List aE)(m bn n i:Nat)(a:Act)(W:World):Prop where
 sz:a.tmps.size=69
 df:a.defers=[]
 tu:yS ps w W
 hbn:W.heap[bn]?=some (.cells #[.int .i64 n] 3 (0,0))
 bas:mf M n0 W C bv ps
 t10:a.tmps.getD 10 undef=.pointer (some ⟨bn,0,none⟩)
 t47:a.tmps.getD 47 undef=bv
 t48:a.tmps.getD 48 undef=.int .i64 m
 t49:a.tmps.getD 49 undef=.int .i64 i
def NL(Ns Bs:Nat)(M:Nat->Prop)(w0 w:World)(hM:cX M w0)(hw:Below w0.heap.size w0 w)(q:List (List Rat))(m:Nat)(lead aB:Rat)(st:Nat)(r:Rat)(d:Nat)(k:Int)(B G:Nat)(bv:Value)(ps:List Nat)(hm1:1<=m)(hk:k<=256)(goal:Rat)(hgq:mkRat 1 (2^k.toNat)*mkRat 1 (2^2)=goal)
  (T:zM q m lead aB st r goal d B G) (out:Option Nat) (L:uf (Ps q m lead aB st r goal d) m st out)
  (I:mf M w0.heap.size w (ga q m lead aB st st) bv ps) (hpl:ps.length=m) (hst15:st<=Ns) (SC:∀l,l<m->gm Bs q m lead (aX m l) Ns) (hNs:Ns<=1073741824) (hN15:1500<=Ns) (hm:m<=64) (hBs:Bs<=4294967296) (h64:64<=Bs) (hql:q.length=m+1) (hp:∀p∈q,p.length<1048576) (hl0:lead≠0) (r0 r1 r2:Value) (hr:ab (rI M ps bv) w (qC r) [r0,r1,r2]) :
  Calls prog 226 #[bv,.agg #[r0,r1,r2],.int .i64 d,.int .i64 k] w fun e w'=>match out with
   | some N=>e=.returned (.int .i64 N)/\yS ps w w'/\mf M w0.heap.size w' (ga q m lead aB st N) bv ps
   | none=>e=.panicked [{ v:=QS 5,recovered:=false }]/\Below w0.heap.size w0 w':=by
 obtain⟨p0,p1,p2⟩:r0.oneCell'=true/\r1.oneCell'=true/\r2.oneCell'=true:=by have:=hr.one;exact⟨this _ (by simp),this _ (by simp),this _ (by simp)⟩
 obtain⟨g,cap,cur,rfl,hg0,hgh,hgc,hgm,hgs,hgt⟩:∃g cap cur,bv=.slice (some ⟨g,0,none⟩) m cap/\w0.heap.size<=g/\w.heap[g]?=some (.cells cur 194 (0,0))/\m<=cap/\cap<=maxLen/\cur.size=cap/\cur.toList.take m=ps.map fun b=>Value.pointer (some ⟨b,0,none⟩):=by
  rcases I.sl.2 with⟨_,h⟩ | ⟨g,cap,cur,h1,h2,h3,h4,h5,h6,h7⟩
  ·omega
  ·rw[hpl]at h1 h4 h7;rw[Nat.mul_one]at h6 h7;exact⟨g,cap,cur,h1,h2,h3,h4,h5,h6,h7⟩
 refine iE func226 rfl ?_;simp only[ntmps226,dW,List.length_cons,bq,Nat.reduceAdd,Nat.reduceSub,dw,dv,du,dz,List.nil_append,List.cons_append];have hfw:=I.Kf hM (aY _) hw;have hbv1:(Value.slice (some ⟨g,0,none⟩) m cap).oneCell'=true:=rfl
 refine FZ (n:=1) (ins:=[(0,.v none),(1,.v (some 3)),(2,.v none),(3,.v none)]) (xs:=[.v (.one (.exact (.slice (some ⟨g,0,none⟩) m cap))),.v (qT r),.v (.one (.int .i64 d)),.v (.one (.int .i64 k))]) fo ⟨rfl,rfl,rfl,rfl,trivial⟩
  (by have h:=bl7 (.slice (some ⟨g,0,none⟩) m cap) hbv1 r d k hk;rw[hgq]at h;exact h) (by kernel_rfl) hfw rfl rfl ⟨⟨rfl,rfl⟩,⟨_,rfl,hr⟩,⟨rfl,rfl⟩,⟨rfl,rfl⟩,trivial⟩ ?_ (by intro c v a' w' h;cases h)
 intro e a' W1 rs us hrs hex hB1 hsz hdf hrun hus;cases hrs;cases e with
 | exit id=>cases hex
 | ret=>cases hex
 | normal=>
 have huse:=jJ hrun;subst huse;obtain⟨h0,h5,h6,h9,_⟩:=hus;have h0:a'.tmps.getD 0 undef=.slice (some ⟨g,0,none⟩) m cap:=h0.1;have h5:(aE.aj (qC r)).rep (rI M ps (.slice (some ⟨g,0,none⟩) m cap)) W1 (a'.tmps.getD 5 undef):=h5;have h6:(aE.aj [.int .i64 d]).rep (rI M ps (.slice (some ⟨g,0,none⟩) m cap)) W1 (a'.tmps.getD 6 undef):=h6;have h9:(aE.aj (qC goal)).rep (rI M ps (.slice (some ⟨g,0,none⟩) m cap)) W1 (a'.tmps.getD 9 undef):=h9;obtain⟨t,ds⟩:=a';have hds:ds=[]:=hdf;subst hds;have hsz:t.size=69:=hsz;show Code.wp _ (ry 1 _) _ _ _;simp only[ry];obtain⟨b0,hb0⟩:∃b0,ps[0]?=some b0:=⟨_,ay O⟩
 have hglt:g<w.heap.size:=(cK.1 hgh).1
 have hcur:∀(i b:Nat),ps[i]?=some b->cur[i]?=some (.pointer (some ⟨b,0,none⟩)):=by
  intro i b hi;have hlt:=(dn.1 hi).1;have h:(cur.toList.take m)[i]?=some (.pointer (some ⟨b,0,none⟩)):=by rw[hgt,cC,hi];rfl
  rw[eo,if_pos O]at h
  simpa using h
 have cp0:W1.cell? ⟨g,0,none⟩=some (.pointer (some ⟨b0,0,none⟩)):=aD ((hB1.block g hglt).trans hgh) (hcur 0 b0 hb0);obtain⟨us0,hu0,hr0⟩:=I.cells 0 b0 hb0;have hb0lt:=(I.lo b0 (bc hb0)).2
 have c8:W1.cell? ⟨b0,8,none⟩=some (.int .i64 st):=by
  refine aD ((hB1.block b0 hb0lt).trans hu0) ?_;obtain⟨x,hx,hxr⟩:=hr0.get 8 (.int .i64 st) rfl;rw[show x=.int .i64 st from hxr.1]at hx
  simpa using hx
 have hmf:∀(fn:Fn)(first cap:Array Value)(w:World),(Instr.makeFunc fn first cap).run prog w=.ok (.func fn first cap) w:=fun _ _ _ _=>rfl;rw[HR t hsz,show t.getD 0 undef=.slice (some ⟨g,0,none⟩) m cap from h0];generalize hv5:t.getD 5 undef=v5 at *;generalize hv6:t.getD 6 undef=v6 at *;generalize hv9:t.getD 9 undef=v9 at *
 go_wp2
 obtain⟨bn,hbn⟩:∃bn,W1.heap.size=bn:=⟨_,rfl⟩
 have hbw:w.heap.size<=bn:=by have:=hB1.size;omega
 have hkal:bP (rI M ps (.slice (some ⟨g,0,none⟩) m cap)) W1 (fun k=>rI M ps (.slice (some ⟨g,0,none⟩) m cap) k\/k=bn) (W1.alloc (.cells #[.int .i64 st] 3)):=fun b o hb ho _=>by
  have hlt:=(cK.1 ho).1;exact⟨fun h=>h.elim hb (fun e=>O),(bM _ _ _ hlt).trans ho⟩
 refine tV (fun n' a' W=>∃i n,n'=m-i/\i<=m/\st<=n/\n<=max 1500 st/\(∀N,out=some N->n<=N)/\(∀l,l<i->Ps q m lead aB st r goal d l n=true) /\
   bL2 M w ps (.slice (some ⟨g,0,none⟩) m cap) r goal d bn n a' W/\a'.tmps.getD 28 undef=.slice (some ⟨g,0,none⟩) m cap/\a'.tmps.getD 29 undef=.int .i64 m/\a'.tmps.getD 30 undef=.int .i64 i) (m-0)
  ⟨0,st,rfl,bO _,aY _,JF _ _,fun N hN=>(L.some N hN).1,fun l hl=>O,⟨rfl,rfl,hB1.alloc O _,hbw,by rw[<-hbn];exact bG W1 _,rfl,aE.mono _ hkal h5,aE.mono _ hkal h6,aE.mono _ hkal h9,by rw[hbn];rfl,by rw[hbn];rfl⟩,rfl,rfl,rfl⟩ ?_
 rintro n' a' W ⟨i,n,rfl,him,hn1,hn2,hnN,hen,J,t28,t29,t30⟩;obtain⟨t',ds⟩:=a';have hds:ds=[]:=J.df;subst hds;have t28:t'.getD 28 undef=.slice (some ⟨g,0,none⟩) m cap:=t28;have t29:t'.getD 29 undef=.int .i64 m:=t29;have t30:t'.getD 30 undef=.int .i64 i:=t30;have t10:t'.getD 10 undef=.pointer (some ⟨bn,0,none⟩):=J.t10;have t11:=J.t11;have t11:t'.getD 11 undef=.func (.func 267) #[] #[t'.getD 6 undef,.pointer (some ⟨bn,0,none⟩),t'.getD 5 undef,t'.getD 9 undef]:=t11;have t0:t'.getD 0 undef=.slice (some ⟨g,0,none⟩) m cap:=J.t0;clear hv5 hv6 hv9;have hMW:cX M W:=⟨fun b hb=>by have:=hM.1 b hb;have:=hw.size;have:=J.bel.size;omega,(hM.2.below rfl hw).below rfl J.bel⟩
 rcases Nat.lt_or_ge i m with hi | hi
 ·obtain⟨bi,hbi⟩:∃b,ps[i]?=some b:=⟨_,ay O⟩
  have cpi:W.cell? ⟨g,i,none⟩=some (.pointer (some ⟨bi,0,none⟩)):=aD ((J.bel.block g hglt).trans hgh) (hcur i bi hbi);have j5:(aE.aj (qC r)).rep (fun k=>rI M ps (.slice (some ⟨g,0,none⟩) m cap) k\/k=bn) W (t'.getD 5 undef):=J.t5;have j6:(aE.aj [.int .i64 d]).rep (fun k=>rI M ps (.slice (some ⟨g,0,none⟩) m cap) k\/k=bn) W (t'.getD 6 undef):=J.t6;have j9:(aE.aj (qC goal)).rep (fun k=>rI M ps (.slice (some ⟨g,0,none⟩) m cap) k\/k=bn) W (t'.getD 9 undef):=J.t9;rw[HR t' J.sz,t0,t10,t11,t28,t29,t30];generalize t'.getD 5 undef=x5 at j5|-;generalize t'.getD 6 undef=x6 at j6|-;generalize t'.getD 9 undef=x9 at j9|-
  go_wp2
  refine tV (fun n' a' W=>∃n,n'=1501-n/\st<=n/\n<=max 1500 st/\(∀N,out=some N->n<=N)/\(∀l,l<i->Ps q m lead aB st r goal d l n=true) /\
   bL2 M w ps (.slice (some ⟨g,0,none⟩) m cap) r goal d bn n a' W/\a'.tmps.getD 28 undef=.slice (some ⟨g,0,none⟩) m cap/\a'.tmps.getD 29 undef=.int .i64 m/\a'.tmps.getD 30 undef=.int .i64 i/\a'.tmps.getD 13 undef=.pointer (some ⟨bi,0,none⟩)) (1501-n)
   ⟨n,rfl,hn1,hn2,hnN,hen,⟨rfl,rfl,J.bel,J.bn1,J.hbn,rfl,j5,j6,j9,rfl,rfl⟩,rfl,rfl,rfl,rfl⟩ ?_
  clear j5 j6 j9 cpi hMW J hn1 hn2 hnN hen;rintro n' a' W ⟨n,rfl,hn1,hn2,hnN,hen,J,t28,t29,t30,t13⟩;obtain⟨t2,ds⟩:=a';have hds:ds=[]:=J.df;subst hds;have t28:t2.getD 28 undef=.slice (some ⟨g,0,none⟩) m cap:=t28;have t29:t2.getD 29 undef=.int .i64 m:=t29;have t30:t2.getD 30 undef=.int .i64 i:=t30;have t13:t2.getD 13 undef=.pointer (some ⟨bi,0,none⟩):=t13;have t10:t2.getD 10 undef=.pointer (some ⟨bn,0,none⟩):=J.t10;have t11:t2.getD 11 undef=.func (.func 267) #[] #[t2.getD 6 undef,.pointer (some ⟨bn,0,none⟩),t2.getD 5 undef,t2.getD 9 undef]:=J.t11;have t0:t2.getD 0 undef=.slice (some ⟨g,0,none⟩) m cap:=J.t0;have hMW:cX M W:=⟨fun b hb=>by have:=hM.1 b hb;have:=hw.size;have:=J.bel.size;omega,(hM.2.below rfl hw).below rfl J.bel⟩
  have j5:(aE.aj (qC r)).rep (fun k=>rI M ps (.slice (some ⟨g,0,none⟩) m cap) k\/k=bn) W (t2.getD 5 undef):=J.t5;have j6:(aE.aj [.int .i64 d]).rep (fun k=>rI M ps (.slice (some ⟨g,0,none⟩) m cap) k\/k=bn) W (t2.getD 6 undef):=J.t6;have j9:(aE.aj (qC goal)).rep (fun k=>rI M ps (.slice (some ⟨g,0,none⟩) m cap) k\/k=bn) W (t2.getD 9 undef):=J.t9;rw[HR t2 J.sz,t0,t10,t11,t13,t28,t29,t30];generalize t2.getD 5 undef=x5 at j5|-;generalize t2.getD 6 undef=x6 at j6|-;generalize t2.getD 9 undef=x9 at j9|-;obtain⟨ui,hui,hri⟩:=I.cells i bi hbi;have hbilt:=(I.lo bi (bc hbi)).2;have hbige:=(I.lo bi (bc hbi)).1;have hww:=hw.size;have hkM:bP (rI M ps (.slice (some ⟨g,0,none⟩) m cap)) w M W:=fun b o hb ho _=>⟨fun h=>hb (.inl (.inl h)),(J.bel.block b (cK.1 ho).1).trans ho⟩
  have hkM2:bP (fun k=>rI M ps (.slice (some ⟨g,0,none⟩) m cap) k\/k=bn) W M W:=fun b o hb ho _=>⟨fun h=>hb (.inl (.inl (.inl h))),ho⟩
  have hec:=NB hMW T hi hn1 hn2 (b:=bi) (bn:=bn) (us:=ui) (v6:=x6) (v5:=x5) (v9:=x9) (fun h=>by have:=hM.1 bi h;omega) ((J.bel.block bi hbilt).trans hui) (hri.mono hkM) (fun h=>by have:=hM.1 bn h;have:=J.bn1;omega) J.hbn (aE.mono _ hkM2 j6) (aE.mono _ hkM2 j5) (aE.mono _ hkM2 j9)
  go_wp2_with (go_at_call 267;refine hec.mono ?_)
  rintro e w2 hb2 rfl;have hbn2:w2.heap[bn]?=some (.cells #[.int .i64 n] 3 (0,0)):=(hb2.block bn (cK.1 J.hbn).1).trans J.hbn;have cn2:w2.cell? ⟨bn,0,none⟩=some (.int .i64 n):=aD hbn2 rfl;have fn2:w2.frozen? ⟨bn,0,none⟩=false:=by simp[World.frozen?,hbn2]
  have hB2:Below w.heap.size w w2:=J.bel.trans (hb2.mono J.bel.size);have hMW2:cX M w2:=⟨fun b hb=>Nat.lt_of_lt_of_le (hMW.1 b hb) hb2.size,hMW.2.below rfl hb2⟩
  have l5:=aE.mono _ (bP.below hb2) j5;have l6:=aE.mono _ (bP.below hb2) j6;have l9:=aE.mono _ (bP.below hb2) j9;cases hβ:Ps q m lead aB st r goal d i n with
  | true=>
    go_wp2
    exact⟨m-(i+1),O,i+1,n,rfl,hi,hn1,hn2,hnN,fun l hl=>(Nat.lt_succ_iff_lt_or_eq.1 hl).elim (hen l) (fun e=>by rw[e];exact hβ),⟨rfl,rfl,hB2,J.bn1,hbn2,rfl,l5,l6,l9,rfl,rfl⟩,rfl,rfl,rfl⟩
  | false=>
    have hnN2:∀N,out=some N->n+1<=N:=fun N hN=>by
     rcases Nat.lt_or_ge n N with h | h
     ·exact h
     ·have:=((L.iff n hn1 (by have:=(L.some N hN).2;have:=hnN N hN;omega)).2 ⟨N,hN,h⟩) i hi;rw[hβ]at this;cases this
    go_wp2_with (go_at_call 130;refine(Jc (M:=M) hMW2 _ _).mono ?_)
    rintro e w3 hb3 (⟨hq1,rfl⟩ | ⟨hq1,rfl⟩)
    ·have hbn3:w3.heap[bn]?=some (.cells #[.int .i64 n] 3 (0,0)):=(hb3.block bn (cK.1 hbn2).1).trans hbn2;have cn3:w3.cell? ⟨bn,0,none⟩=some (.int .i64 n):=aD hbn3 rfl;have fn3:w3.frozen? ⟨bn,0,none⟩=false:=by simp[World.frozen?,hbn3]
     have hB3:Below w.heap.size w w3:=hB2.trans (hb3.mono hB2.size);replace l5:=aE.mono _ (bP.below hb3) l5;replace l6:=aE.mono _ (bP.below hb3) l6;replace l9:=aE.mono _ (bP.below hb3) l9
     go_wp2
     rw[tn w3 bn 0 _ _ _ _ hbn3,show(#[Value.int .i64 n].setIfInBounds 0 (.int .i64 (n+1)))=#[Value.int .i64 (n+1)]from rfl];have hst:=cJ w3 bn _ (#[Value.int .i64 (n+1)]:Array Value) _ _ hbn3;have hks:bP (fun k=>rI M ps (.slice (some ⟨g,0,none⟩) m cap) k\/k=bn) w3 (fun k=>rI M ps (.slice (some ⟨g,0,none⟩) m cap) k\/k=bn) (w3.setRow bn #[Value.int .i64 (n+1)]):=fun b o hb ho _=>⟨hb,(dC _ _ _ _ (fun e=>hb (.inr e))).trans ho⟩
     exact⟨1501-(n+1),O,n+1,rfl,O,O,hnN2,fun l hl=>L.up l O n hn1 O (hen l hl),⟨rfl,rfl,below_setRow hB3 _ J.bn1,J.bn1,hst,rfl,aE.mono _ hks l5,aE.mono _ hks l6,aE.mono _ hks l9,rfl,rfl⟩,rfl,rfl,rfl,rfl⟩
    ·obtain rfl:out=none:=by
      cases hout:out with
      | none=>rfl
      | some N=>
        have h1:=hnN2 N hout;have h2:=(L.some N hout).2;omega
     exact⟨rfl,rfl,hw.trans ((hB2.trans (hb3.mono hB2.size)).mono hw.size)⟩
 ·have cn:W.cell? ⟨bn,0,none⟩=some (.int .i64 n):=aD J.hbn rfl;rw[HR t' J.sz,t0,t10,t11,t28,t29,t30]
  go_wp2_with (go_at_call 130;refine(Jc (M:=M) hMW _ _).mono ?_)
  rintro e w2 hb2 (⟨hq1,rfl⟩ | ⟨hq1,rfl⟩)
  ·obtain⟨N,hN,hNn⟩:=(L.iff n hn1 O).1 (fun l hl=>hen l O);obtain rfl:N=n:=by have:=hnN N hN;omega
   subst hN;have hbn2:w2.heap[bn]?=some (.cells #[.int .i64 N] 3 (0,0)):=(hb2.block bn (cK.1 J.hbn).1).trans J.hbn;have hB2:Below w.heap.size w w2:=J.bel.trans (hb2.mono J.bel.size);clear cn;have hbn1:=J.bn1
   go_wp2
   refine tV (fun n' a' W=>∃i,n'=m-i/\i<=m/\bR4 M w0.heap.size w ps (.slice (some ⟨g,0,none⟩) m cap) (fun l=>if l<i then ga q m lead aB st N l else ga q m lead aB st st l) m bn N i a' W) (m-0)
    ⟨0,rfl,bO _,⟨rfl,rfl,yS.Yi hB2,hbn2,(I.grow hB2).congr (fun l _=>if_neg (oJ l)),rfl,rfl,rfl,rfl⟩⟩ ?_
   rintro n' a' W ⟨i,rfl,him,K⟩;obtain⟨t3,ds⟩:=a';have hds:ds=[]:=K.df;subst hds;have t10:t3.getD 10 undef=.pointer (some ⟨bn,0,none⟩):=K.t10;have t47:t3.getD 47 undef=.slice (some ⟨g,0,none⟩) m cap:=K.t47;have t48:t3.getD 48 undef=.int .i64 m:=K.t48;have t49:t3.getD 49 undef=.int .i64 i:=K.t49;have hgps:g ∉ ps:=fun h=>I.dis g h rfl;rw[HR t3 K.sz,t10,t47,t48,t49];rcases Nat.lt_or_ge i m with hi | hi
   ·obtain⟨bi,hbi⟩:∃b,ps[i]?=some b:=⟨_,ay O⟩
    have cpi:W.cell? ⟨g,i,none⟩=some (.pointer (some ⟨bi,0,none⟩)):=aD ((K.tu.block g hglt hgps).trans hgh) (hcur i bi hbi);obtain⟨ui,hui,hri⟩:=K.bas.cells i bi hbi;rw[if_neg (Nat.lt_irrefl i)]at hri;have hbm:=bc hbi;have hww:=hw.size
    have hbnM:¬rI M ps (.slice (some ⟨g,0,none⟩) m cap) bn:=by
     rintro((h | h) | h)
     ·have:=hM.1 bn h;omega
     ·have:=(I.lo bn h).2;omega
     ·simp only[Value.ownBlock,aI]at h;omega
    have hB0:Below w0.heap.size w0 W:=K.tu.low hw hw.size fun b hb=>(I.lo b hb).1
    go_wp2
    rename_i K5 hK5
    refine aq0 (N:=69) (t0:=15) (T:=266) (n:=14) (M:=rI M ps (.slice (some ⟨g,0,none⟩) m cap)) (g:=bi) (cur:=ui) (ins:=[(10,.v none),(47,.v none),(48,.v none),(49,.v none)])
     (xs:=[.v (.one (aE.and (.exact (.pointer (some ⟨bn,0,none⟩))) (.aj [.int .i64 N]))),.v (.one (.exact (.slice (some ⟨g,0,none⟩) m cap))),.v (.one (.int .i64 m)),.v (.one (.int .i64 i))]) fo ⟨rfl,rfl,rfl,rfl,trivial⟩
     (br3 (.pointer (some ⟨bn,0,none⟩)) (.slice (some ⟨g,0,none⟩) m cap) i q m lead aB st i N Ns Bs (jQ q m lead aB st i) (aN q m lead (aX m i) st) (SC i hi) hNs hm hBs h64 hql hp hl0) (by kernel_rfl)
     (K.bas.Kf hM (aY _) hB0) (.inl (.inr hbm)) rfl rfl rfl ⟨⟨⟨rfl,rfl⟩,⟨bn,0,_,_,_,rfl,hbnM,K.hbn,⟨⟨rfl,rfl⟩,trivial⟩⟩⟩,⟨rfl,rfl⟩,⟨rfl,rfl⟩,⟨rfl,rfl⟩,trivial⟩ rfl hui hri ?_
    intro a' w' us cur' hg hsz hdf hrun hh hres hrep';have hus:=jJ hrun;subst hus;obtain⟨t4,ds⟩:=a';have hds:ds=[]:=hdf;subst hds;have t10':t4.getD 10 undef=.pointer (some ⟨bn,0,none⟩):=hres.1.1.1;have t47':t4.getD 47 undef=(.slice (some ⟨g,0,none⟩) m cap):=hres.2.1.1;have t48':t4.getD 48 undef=.int .i64 m:=hres.2.2.1.1;have t49':t4.getD 49 undef=.int .i64 i:=hres.2.2.2.1.1;have hsz':t4.size=69:=hsz;have hbnbi:bn≠bi:=fun e=>hbnM (by rw[e];exact .inl (.inr hbm));have hbn4:=(hg.block bn (cK.1 K.hbn).1 (fun e=>hbnbi (by simpa using e))).trans K.hbn
    have hbas:=aA9 (C':=fun l=>if l<i+1 then ga q m lead aB st N l else ga q m lead aB st st l) K.bas hbi hg hh (by rw[if_pos (Cr i)];exact hrep') (fun l hl=>by
     show(if l<i+1 then ga q m lead aB st N l else ga q m lead aB st st l)=if l<i then ga q m lead aB st N l else ga q m lead aB st st l
     rcases Nat.lt_or_ge l i with h | h
     ·rw[if_pos h,if_pos O]
     ·rw[if_neg O,if_neg O])
    show K5 _ _;refine hK5 _ _ ?_;rw[HR t4 hsz',t10',t47',t48',t49']
    go_wp2
    exact⟨m-(i+1),O,i+1,rfl,hi,⟨rfl,rfl,K.tu.grown hg hbm,hbn4,hbas,rfl,rfl,rfl,rfl⟩⟩
   ·have cn:W.cell? ⟨bn,0,none⟩=some (.int .i64 N):=aD K.hbn rfl
    go_wp2
    simp[bodyPost,results,show f226.results=#[.tmp 8]from rfl,go_sem];exact⟨K.tu,K.bas.congr fun l hl=>(if_pos O).symm⟩
  ·obtain rfl:out=none:=by
    cases hout:out with
    | none=>rfl
    | some N=>
      have h1:=hnN N hout;have h2:=(L.some N hout).2;omega
   exact⟨rfl,rfl,hw.trans ((J.bel.trans (hb2.mono J.bel.size)).mono hw.size)⟩
end Go.Sy
