/- Part. -/
import Derived.Test.YtdmcadckdnnglaaGreatDoorGb
set_option linter.all false
set_option maxHeartbeats 1000000
set_option maxRecDepth 100000
namespace Go.Sy
open Go Go.Proofs Go.RowKit Tryz Ord
def yR(f:FuncId)(eg:∀args w,(callFunc f args).run prog w=.ok (.enter f args) w)(M:j2)(W:World)(A T:Nat)(zs:l7)(zc cs':List aE)(pre:List aF)(vs:n5)(er:Int)
  (hM:cX (fun b=>M b\/b=A) W) (hMA:¬M A) (hA:W.heap[A]?=some (.cells zs T (0,0))) (hpre:cW (fun b=>M b\/b=A) W pre vs) (hz:∀M' W',ai M' W' zc zs.toList)
  (hcl:(cs'=zc/\aK prog f (pre++[.one (.aW zc)]) (.pan (zI er)))\/(er=0/\rj prog f T pre zc [] cs')) :
  Calls prog 121 #[.func (.func f) #[] (vs++[Value.pointer (some ⟨A,0,none⟩)]).toArray] W fun r w'=>r=.returned (.int .i64 er)/\W.grownBy w' (some A) /\
   ∃us:Array Value,w'.heap[A]?=some (.cells us T (0,0))/\ai (fun b=>M b\/b=A) w' cs' us.toList:=by
 have hAlt:A<W.heap.size:=(cf.1 hA).1;obtain⟨n,hn⟩:∃n,W.heap.size=n:=⟨_,rfl⟩
 obtain⟨W4,hW4⟩:∃W4,W.alloc (.cells #[.int .i64 0] 55)=W4:=⟨_,rfl⟩
 have hB4:Below W.heap.size W W4:=by rw[<-hW4];exact(cz _ W).alloc (ah _) _
 have hs4:W4.heap.size=n+1:=by rw[<-hW4,br,hn]
 have hA4:W4.heap[A]?=some (.cells zs T (0,0)):=(hB4.block _ hAlt).trans hA;have hX4:W4.heap[W.heap.size]?=some (.cells #[.int .i64 0] 55 (0,0)):=by rw[<-hW4];exact bc W _
 have hM4:cX (fun b=>M b\/b=A) W4:=⟨fun b hb=>bt (hM.1 b hb) hB4.size,hM.2.below rfl hB4⟩
 rcases hcl with⟨rfl,hcl⟩ | ⟨rfl,hcl⟩
 .refine(Hf f _ W er (fun w'=>Below W4.heap.size W4 w') eg ?_).mono ?_
  .rw[hW4];have hk:bq (fun b=>M b\/b=A) W M W4:=fun b o hb ho _=>⟨fun h=>hb (.inl h),(hB4.block b (cf.1 ho).1).trans ho⟩
   refine(hcl.2 M W4 (vs++[Value.pointer (some ⟨A,0,none⟩)]) (hM4.sub fun b hb=>.inl hb) (cW.append (hpre.mono hk) ⟨⟨A,0,zs,T,(0,0),rfl,hMA,hA4,?_⟩,trivial⟩)).mono ?_
   .have h:=hz M W4;rw[gF,cU (by rw[h.length];exact ah _)];exact h
   .rintro r w' ⟨hb,hp⟩;exact⟨bE0 hp,(hb.block _ O).trans hX4,hb⟩
  .rintro r w' ⟨rfl,w6,hb6,hg⟩;have hs6:=hb6.size;refine⟨rfl,⟨by rw[hg.os,hb6.os,hB4.os],by rw[hg.tape,hb6.tape,hB4.tape],by rw[hg.output,hb6.output,hB4.output],by have:=hg.size;omega,fun k hk _=>?_⟩,zs,?_,hz _ _⟩
   .rw[hg.block k O (fun e=>by simp only[aM]at e;omega),hb6.block k O,hB4.block k hk]
   .rw[hg.block A O (fun e=>by simp only[aM]at e;omega),hb6.block A O];exact hA4
 .have hfine:cX (fun b=>M b\/b=A\/b=n) W4:=by
   refine⟨fun b h=>?_,fun x hx=>?_⟩
   .rcases h with h | h | h
    .exact hM4.1 b (.inl h)
    .omega
    .omega
   .obtain⟨h1,T',fz,h2⟩:=hM4.2 x hx;obtain⟨_,T'',fz',h3⟩:=hM.2 x hx;refine⟨?_,T',fz,h2⟩;rintro(h | h | h)
    .exact h1 (.inl h)
    .exact h1 (.inr h)
    .have:=(cf.1 h3).1;omega
  have hk:bq (fun b=>M b\/b=A) W (fun b=>M b\/b=A\/b=n) W4:=fun b o hb ho _=>by
   have hlt:=(cf.1 ho).1;refine⟨?_,(hB4.block b hlt).trans ho⟩;rintro(h | h | h)
   .exact hb (.inl h)
   .exact hb (.inr h)
   .omega
  refine(Py f _ W (fun w'=>W4.grownBy w' (some A)/\∃us:Array Value,w'.heap[A]?=some (.cells us T (0,0))/\ai (fun b=>M b\/b=A\/b=n) w' cs' us.toList) eg ?_).mono ?_
  .rw[hW4];refine(hcl _ W4 A zs vs hfine (.inr (.inl rfl)) hA4 (hz _ _) (hpre.mono hk)).mono ?_;rintro r w' ⟨cur',us,hg,hA',rfl,hus,hcr⟩
   obtain rfl:us=[]:=by cases us with
    | nil=>rfl
    | cons x us=>exact hus.elim
   refine⟨rfl,?_,hg,cur',hA',hcr⟩;exact(hg.block _ O (fun e=>by simp only[aM]at e;omega)).trans hX4
  .rintro r w' ⟨rfl,w6,⟨hg,us,hA6,hus⟩,rfl,hX6⟩;have hs6:=hg.size;have ho:∀k,k≠n->(w6.setRow W.heap.size #[.int .i64 0]).heap[k]?=w6.heap[k]?:=fun k hk=>du _ _ _ _ O;refine⟨rfl,⟨by show w6.os=_;rw[hg.os,hB4.os],by show w6.tape=_;rw[hg.tape,hB4.tape],by show w6.output=_;rw[hg.output,hB4.output],by simp only[World.setRow,Array.size_modify];omega,fun k hk hne=>?_⟩,us,?_,?_⟩
   .rw[ho k O,hg.block k O hne,hB4.block k hk]
   .rw[ho A O];exact hA6
   .refine hus.mono fun b o hb hob _=>⟨fun h=>hb (h.imp id .inl),?_⟩
    rw[ho b (fun e=>hb (.inr (.inr e)))];exact hob
attribute [local go_sem] Oper.semAt_some
def yh:Tr:=.back 0 [.w (W 28 0),.w (W 6 0),.w (W 7 0),.w (W 8 0),.w (W 9 0),.w (W 10 0),.w (W 11 0),.w (W 12 0),.w (W 13 0),.w (W 14 0),.w (W 15 0),.w (W 16 0),.w (W 27 0),.w (W 27 1),.w (W 27 2)]
def yO:Tr:=.need (.prim [W 5 0,WK (1)] none) (.binOp .add 3 (.tmp 27) (.const (I3 (1))) 3) 3 false yh
def yj:Tr:=.need (.call 208 [.one (.c (.sr 3 26))] [some 3]) (D5 208 #[.tmp 47] #[40]) 39 true yO
def ym:Tr:=.need (.lit 3 [[.u 17 0,.u 18 0,.u 19 0],[.u 25 0,.u 25 1,.u 25 2]]) (.buildSlice 40 2 #[(0,.tmp 33),(1,.tmp 46)]) 40 false yj
def yt:Tr:=.need (.call 36 [.agg [U 23 0,U 23 1,U 23 2],.agg [U 24 0,U 24 1,U 24 2]] [some 3]) (D5 36 #[.tmp 41,.tmp 45] #[39,39]) 39 true ym
def Ad:Tr:=.need (.call 203 [.agg [U 0 5,U 0 6,U 0 7],W 5 0] [some 3]) (D5 203 #[.tmp 43,.tmp 44] #[39,3]) 39 false yt
def AB:Tr:=.need (.call 146 [.agg [U 22 0,U 22 1,U 22 2]] [some 3]) (D5 146 #[.tmp 40] #[39]) 39 false Ad
def AF:Tr:=.need (.prim [W 21 0] (some 3)) (.load 39 (.tmp 39)) 39 false AB
def Bf:Tr:=.need (.prim [W 16 0,W 5 0] none) (.indexAddr 40 (.tmp 37) (.tmp 38)) 0 false AF
def zH:Tr:=.ret [.agg [U 6 0,U 7 0,U 8 0,U 9 0,U 10 0,U 11 0,U 12 0,U 13 0,U 14 0,U 15 0,U 16 0,U 17 0,U 18 0,U 19 0]]
def Bc:Tr:=.split (.u 20 0) Bf zH
def Bw:Tr:=.need (.prim [W 5 0,W 0 8] none) (.binOp .lss 3 (.tmp 23) (.tmp 25) 3) 4 false Bc
def zu:Tr:=.loop 0 [.w (W 4 0),.w (W 0 0),.w (W 0 1),.w (W 0 2),.w (W 0 3),.w (W 0 4),.w (W 0 5),.w (W 0 6),.w (W 0 7),.w (W 0 8),.w (W 1 0),.w (W 2 0),.w (.one (.c (.k (.slice none 0 0)))),.w (.one (.c (.k (.bool false)))),.w (.one (.c (.k (.slice none 0 0))))] Bw
def AK:Tr:=.need (.prim [W 0 8,W 3 0] none) (.binOp .sub 3 (.tmp 18) (.tmp 21) 3) 3 false zu
def zW:Tr:=.need (.call 204 [.agg [U 0 0,U 0 1,U 0 2,U 0 3,U 0 4]] [none]) (D5 204 #[.tmp 20] #[171]) 3 true AK
def zL:Tr:=.need (.call 101 [.agg [U 0 0,U 0 1,U 0 2,U 0 3,U 0 4],W 1 0,W 0 8] [none]) (D5 101 #[.tmp 10,.tmp 11,.tmp 13] #[171,40,3]) 40 false zW
def Ei:aK0 prog f132 (fun _=>none) [.v (some 9),.v none] 266=zL:=aT
def Mk:Tr:=.retr [W 0 0,W 2 0,W 3 0] 12
def NU:Tr:=.need (.app 1 8 (some 4) none (some 11)) (.call ⟨.builtin .append,#[.tmp 11,.tmp 19],#[276,276]⟩) 276 false Mk
def Ob:Tr:=.need (.lit 1 [[.u 10 0]]) (.buildSlice 276 1 #[(0,.tmp 18)]) 276 false NU
def Nh:Tr:=.need (.call 132 [.agg [U 5 0,U 5 1,U 5 2,U 5 3,U 5 4,U 5 5,U 5 6,U 5 7,U 5 8],W 9 0] [none]) (D5 132 #[.tmp 12,.tmp 17] #[185,40]) 194 true Ob
def Nf:Tr:=.need (.call 266 [W 8 0,W 1 0] [none]) (D5 266 #[.tmp 15,.tmp 16] #[3,3]) 40 false Nh
def Oc:Tr:=.need (.prim [W 7 0] none) (.load 3 (.tmp 14)) 3 false Nf
def Mu:Tr:=.need (.prim [W 6 0] none) (.fieldAddr 171 (.tmp 13) 1) 0 false Oc
def Oa:Tr:=.need (.prim [W 0 0] none) (.fieldAddr 185 (.tmp 1) 0) 0 false Mu
def Oi:Tr:=.need (.prim [W 0 0] (some 9)) (.load 185 (.tmp 1)) 185 false Oa
def Uv:az6 prog 23 (fun _=>none) (cJ [1,1,0,1,0,0,1,1,0,0,1] (dJ f225)) [(1,.v none),(4,.v none),(7,.v none),(8,.v none)] 3 194 1 3 ([1,7,8].map ResultVar.tmp)=Oi:=aT
def aE.RF(n0 T:Nat)(C:List aE):aE where
 rep:=fun M w v=>∃(b:Nat)(us:l7),v=.pointer (some ⟨b,0,none⟩)/\n0<=b/\¬M b/\w.heap[b]?=some (.cells us T (0,0))/\ai (fun k=>M k\/k=b) w C us.toList
 mono:=by
  rintro M w M' w' v hk ⟨b,us,rfl,h1,h2,h3,h4⟩;obtain⟨h5,h6⟩:=hk b _ h2 h3 rfl;refine⟨b,us,rfl,h1,h5,h6,h4.mono fun k o hkm ho hc=>?_⟩;obtain⟨h7,h8⟩:=hk k o (fun h=>hkm (.inl h)) ho hc;exact⟨fun h=>h.elim h7 (fun e=>hkm (.inr e)),h8⟩
 one:=by
  rintro M w v ⟨b,us,rfl,_⟩;rfl
def cH1{P:n7}{post:Out->Prop}{bk:List (List aF->Prop)}{τ:Env}{ty:Nat}{last:Bool}{k:Tr}{f:Nat}{args:List SW}{sh:List (Option Nat)}{x:n8}{xs:Array Operand}{tys:Array TypeId}{ts:List aF}
  (hp:post (.orc f (args.map (qI τ)) ts)) (hs:ts.map aF.shape=sh.map some) (hk:vc P post k (τ++ts) bk):vc P post (.need (.call f args sh) (.call ⟨.value x,xs,tys⟩) ty last k) τ bk:=
 .inr (.inr ⟨f,args,sh,ts,rfl,⟨_,_,rfl,rfl⟩,hs,hp,hk⟩)
def bb5(q:j0)(m:Nat)(lead aB:Rat)(st:Nat)(y:j1)(N B:Nat)(C:jy B q m lead y N)(hst:st<=N)(hN:N<=1073741824)(hm:m<=64)(hmN:m<=N)(hB:B<=4294967296)(h64:64<=B)(hql:q.length=m+1)(hyl:y.length=m)(hp:∀p∈q,p.length<1048576)(hl0:lead≠0)(hw:m+aj q<=st)(hrho:∀j,j<=2*st+1->Fit B (aB^j)):Ze prog 132 266 [(.agg (zJ q m lead aB (st:Nat)):aF),(.one (sQ y):aF)] (Zi ([eQ q,.int .i64 m]++qC lead) aB st y (aU q m lead y st) (MG (aU q m lead y st) aB (st-(m+aj q)) (m+aj q))):=by
 refine aT9 (args:=[.v (some 9),.v none]) (ins:=[.v (.agg (zJ q m lead aB (st:Nat))),.v (.one (sQ y))]) (hints:=(fun _=>none)) fo func132 ⟨rfl,rfl,trivial⟩ ?_;rw[Ei];dsimp only[List.map,In.env,aP,aQ];have hdm:=td (N:=1048576) q (fun p hp'=>na (hp p hp'));have hal:=bg q m lead y st;have haf:∀x∈aU q m lead y st,Fit B x:=fun x hx=>KH C hst hx;apply aA (GM q m lead y st N B C hst hN hm hmN h64 hql hyl (fun p hp'=>by have:=hp p hp';omega) hl0) rfl;apply aA (Uh q m lead (fun p hp'=>by have:=hp p hp';omega)) rfl;apply vn aL;dsimp only[aP,aQ];generalize hW:m+aj q=W at *;generalize ha:aU q m lead y st=a at *
 have fb:∀k,k<=W->Fit (B+B) (MG a aB (st-W) k):=by
  intro k
  induction k with
  | zero=>exact fun _=>Fit.zero O
  | succ k ih=>
    intro hk;rw[MG];refine vh (fun x hx=>?_) 2 bY;simp only[ee,jm,jr]at hx;rcases hx with rfl | rfl
    .exact ih O
    .exact(lQ (qJ haf _)).mul (hrho _ O)
 refine bC {k:Nat // k<=W} (fun g=>([aF.one (.int .i64 ((st-W+g.1:Nat):Int)),.one (eQ q),.one (.int .i64 m)]:List aF)++(qC lead).map aF.one++(qC aB).map aF.one++[aF.one (.int .i64 st),.one (sQ y),.one (sQ a)]++(qC (MG a aB (st-W) g.1)).map aF.one) (fun g=>W-g.1) ⟨0,cG _⟩ (by
  have e:(st:Int)-(W:Int)=((st-W+0:Nat):Int):=O
  rw[e];exact⟨aF.Sub.same,aF.Sub.same,aF.Sub.same,aF.Sub.same,aF.Sub.same,aF.Sub.same,aF.Sub.same,aF.Sub.same,aF.Sub.same,aF.Sub.same,aF.Sub.same,aF.Sub.same,fg.1,fg.2.1,fg.2.2.1,trivial⟩) (fun _=>rfl) ?_
 rintro⟨k,hk⟩;dsimp only[aP,aQ,List.map]at hk|-;refine uS az ?_ ?_<;>intro h5
 .have hkl:st-W+k<a.length:=O
  have hfa:=lQ (haf _ (cj (cS hkl)));have hfr:=hrho (st-W+k) O;apply vn (aY vv (cS hkl) (bV (st-W+k)));apply vn (ay mq dO bY (.inl rfl));apply aA (BN _);apply aA (kU aB (st-W+k) B (fun j hj=>hrho j O));apply aA (cr _ _ B B hfa hfr);apply bh (us:=rQ [MG a aB (st-W) k,(a.getD (st-W+k) 0).abs*aB^(st-W+k)])
  apply aA (aQ1 [MG a aB (st-W) k,(a.getD (st-W+k) 0).abs*aB^(st-W+k)] (B+B) (fun x hx=>by
   simp only[ee,jm,jr]at hx;rcases hx with rfl | rfl
   .exact fb k hk
   .exact hfa.mul hfr) O O bY) rfl
  dsimp only[aP,aQ];apply vn aC;dsimp only[aP,aQ];exact aa rfl ⟨⟨k+1,O⟩,aR.rfl,by show W-(k+1)<W-k;omega⟩
 rw[show k=W by omega];exact aN
abbrev jv(q:j0)(m:Nat)(lead aB:Rat)(st N l:Nat):List aE:=
 Zi ([eQ q,.int .i64 m]++qC lead) aB st (ab m l) (aU q m lead (ab m l) N) (MG (aU q m lead (ab m l) st) aB (st-(m+aj q)) (m+aj q))
def aE.and(c d:aE):aE where
 rep:=fun M w v=>c.rep M w v/\d.rep M w v
 mono:=fun hk h=>⟨aE.mono _ hk h.1,aE.mono _ hk h.2⟩
 one:=fun h=>c.one h.1
def au2{P:n7}{op:Op}{ty:Nat}{c d:aE}{t:aF}(h:aq P op ty [.one d] t):aq P op ty [.one (aE.and c d)] t:=fun M w ρ o h1 h2 hr=>by
 refine h M w ρ o h1 h2 ?_;generalize op.operands.toList.map ρ=vs at hr
 match vs,hr with
 | [v],hr=>exact⟨hr.1.2,trivial⟩
 | [],hr=>exact hr.elim
 | _::_::_,hr=>exact hr.2.elim
def bm0:kF prog 185 0=some (171,0,5):=aT
def bp6:kF prog 171 1=some (3,1,1):=aT
def cg6(v1:Value)(n0:Nat)(q:j0)(m:Nat)(lead aB:Rat)(st l:Nat)(hl:l<m)(hm:m<=64)(ts:List (List aE))(hts:ts.length<=64):vc prog (fun o=>o=.retr [.one (aE.and (.exact v1) (.aW (zJ q m lead aB (st:Nat)))),.one (.int .i64 m),.one (.int .i64 l)] (ts++[[aE.RF n0 266 (jv q m lead aB st st l)]])\/o=.orc 132 [.agg (zJ q m lead aB (st:Nat)),.one (sQ (ab m l))] [.one (aE.RF n0 266 (jv q m lead aB st st l))]) (az6 prog 23 (fun _=>none) (cJ [1,1,0,1,0,0,1,1,0,0,1] (dJ f225)) [(1,.v none),(4,.v none),(7,.v none),(8,.v none)] 3 194 1 3 ([1,7,8].map ResultVar.tmp)) ([.v (.one (aE.and (.exact v1) (.aW (zJ q m lead aB (st:Nat))))),.v (.one (.int .i64 l)),.v (.one (.int .i64 m)),.v (.one (.int .i64 l))].map In.env++[.rows (ts)]) []:=by
 rw[Uv];dsimp only[List.map,In.env,aP,aQ];apply vn (t:=.agg (zJ q m lead aB (st:Nat))) (au2 (ay bA7 dO bY (.inl rfl)));apply vn (t:=.one (.aW (zJ q m lead aB (st:Nat)))) (au2 (jE bm0 dO));apply vn (jE bp6 dO);apply vn (t:=.one (.int .i64 m)) (ay YF dO bY (.inr rfl));apply aA (bv9 m l hl hm);dsimp only[aP,aQ];refine cH1 (ts:=[.one (aE.RF n0 266 (jv q m lead aB st st l))]) (.inr rfl) rfl ?_;apply bh (us:=[[aE.RF n0 266 (jv q m lead aB st st l)]]);refine su (ts:=ts) (us:=[[aE.RF n0 266 (jv q m lead aB st st l)]]) (vs:=ts++[[aE.RF n0 266 (jv q m lead aB st st l)]]) rfl rfl rfl iF (by simp[maxLen];omega) ?_;dsimp only[aP,aQ];exact⟨_,rfl,.inl rfl⟩
abbrev vI(M:j2)(ps:j3)(bv:Value)(k:Nat):Prop:=(M k\/k∈ps)\/bv.ownBlock=some k
structure qH(M:j2)(n0:Nat)(w:World)(C:Nat->List aE)(bv:Value)(ps:j3):Prop where
 nd:ps.Nodup
 lo:∀b∈ps,n0<=b/\b<w.heap.size
 sl:w.ownsRow n0 194 1 bv ps.length (ps.map fun b=>Value.pointer (some ⟨b,0,none⟩))
 dis:∀b∈ps,bv.ownBlock≠some b
 cells:∀(l b:Nat),ps[l]?=some b->∃us:Array Value,w.heap[b]?=some (.cells us 266 (0,0))/\ai (vI M ps bv) w (C l) us.toList
structure cG3(M:j2)(w0:World)(ar:List aE)(C:Nat->List aE)(m l:Nat)(ps:j3)(a:Act)(W:World):Prop where
 sz:a.tmps.size=23
 df:a.defers=[]
 bel:Below w0.heap.size w0 W
 hl:l<=m
 pl:ps.length=l
 big:w0.heap.size<W.heap.size
 t1:(aE.and (.exact (.pointer (some ⟨w0.heap.size,0,none⟩))) (.aW ar)).rep (vI M ps (a.tmps.getD 3 undef)) W (a.tmps.getD 1 undef)
 t7:a.tmps.getD 7 undef=.int .i64 m
 t8:a.tmps.getD 8 undef=.int .i64 l
 bas:qH M (w0.heap.size+1) W C (a.tmps.getD 3 undef) ps
theorem VD{M:j2}{w:World}:∀ps:List Nat,ai M w (ps.map fun b=>[aE.exact (Value.pointer (some ⟨b,0,none⟩))]).flatten (ps.map fun b=>Value.pointer (some ⟨b,0,none⟩))
 | []=>trivial
 | b::ps=>⟨⟨rfl,rfl⟩,VD ps⟩
theorem ae5{M:j2}{w:World}:∀{ps:j3}{vs:n5}{c:aE},ai M w ((ps.map fun b=>[aE.exact (Value.pointer (some ⟨b,0,none⟩))])++[[c]]).flatten vs->∃x,vs=(ps.map fun b=>Value.pointer (some ⟨b,0,none⟩))++[x]/\c.rep M w x
 | [],[x],c,h=>⟨x,rfl,h.1⟩
 | [],[],c,h=>h.elim
 | [],_::_::_,c,h=>h.2.elim
 | b::ps,[],c,h=>h.elim
 | b::ps,v::vs,c,h=>by
   obtain⟨x,e,hx⟩:=ae5 (ps:=ps) h.2;have hv:v=.pointer (some ⟨b,0,none⟩):=h.1.1;exact⟨x,by rw[hv,e];rfl,hx⟩
def Uw{M:j2}{n0 b:Nat}{W W':World}{C:Nat->List aE}{v v':Value}{ps:j3}(I:qH M n0 W C v ps)(hg:W.grownBy W' v.ownBlock)(hblk:∀k,v'.ownBlock=some k->W.heap.size<=k\/v.ownBlock=some k)(hb:W.heap.size<=b) :
  bq (vI M ps v) W (vI M (ps++[b]) v') W':=fun k o hk ho _=>by
 have hlt:=(cf.1 ho).1;refine⟨?_,(hg.block k hlt (fun e=>hk (.inr e.symm))).trans ho⟩;rintro((h | h) | h)
 .exact hk (.inl (.inl h))
 .rcases iM.1 h with h | h
  .exact hk (.inl (.inr h))
  .rw[eo]at h;omega
 .rcases hblk k h with h | h
  .omega
  .exact hk (.inr h)
def aR9{M:j2}{n0:Nat}{W W':World}{C:Nat->List aE}{v v':Value}{ps:j3}{vs':n5}(I:qH M n0 W C v ps)(hg:W.grownBy W' v.ownBlock)
  (hown:W'.ownsRow 0 194 1 v' ((ps.map fun b=>[aE.exact (Value.pointer (some ⟨b,0,none⟩))])++[[aE.RF W.heap.size 266 (C ps.length)]]).length vs') (hblk:∀k,v'.ownBlock=some k->W.heap.size<=k\/v.ownBlock=some k)
  (hrep:ai (fun k=>(M k\/k∈ps)\/v'.ownBlock=some k) W' ((ps.map fun b=>[aE.exact (Value.pointer (some ⟨b,0,none⟩))])++[[aE.RF W.heap.size 266 (C ps.length)]]).flatten vs') (hn0:n0<=W.heap.size:=by omega) :
  ∃b,W.heap.size<=b/\qH M n0 W' C v' (ps++[b]):=by
 obtain⟨x,rfl,b,us,rfl,hb1,hb2,hb3,hb4⟩:=ae5 hrep;have hbn:b ∉ ps:=fun h=>by have:=(I.lo b h).2;omega
 have hblt:b<W'.heap.size:=(cf.1 hb3).1;have hk:=Uw I hg hblk hb1;refine⟨b,hb1,?_,fun b' hb'=>?_,?_,fun b' hb' e=>?_,fun l b' hl=>?_⟩
 .rw[List.nodup_append];exact⟨I.nd,bY,fun a ha c hc e=>by rw[eo]at hc;subst hc;subst e;exact hbn ha⟩
 .rcases iM.1 hb' with h | h
  .have h1:=I.lo b' h;have h2:=hg.size;exact⟨h1.1,O⟩
  .rw[eo]at h;subst h;exact⟨O,hblt⟩
 .have h:=hown;rw[gK,aX,bm,ck]at h;rw[gK,bm,ck,ep];refine⟨h.1,?_⟩;rcases h.2 with⟨_,e⟩ | ⟨g,cap,cur,hv,_,rest⟩
  .omega
  .refine .inr ⟨g,cap,cur,hv,?_,rest⟩;rcases hblk g (by rw[hv];rfl)with h | h
   .omega
   .exact(I.sl.lt g h).1
 .rcases iM.1 hb' with h | h
  .rcases hblk b' e with h2 | h2
   .have:=(I.lo b' h).2;omega
   .exact I.dis b' h h2
  .rw[eo]at h;subst h;exact hb2 (.inr e)
 .rcases bG l ps.length with hlt | hge
  .rw[et hlt]at hl;obtain⟨us',h1,h2⟩:=I.cells l b' hl;have hm:=cj hl;exact⟨us',(hg.block b' (I.lo b' hm).2 (fun e=>I.dis b' hm e.symm)).trans h1,h2.mono hk⟩
  .have hll:l=ps.length:=by
    have:=(fK.1 hl).1;rw[gK,bm,ck]at this;omega
   subst hll;rw[jP (ah _),jj]at hl;obtain rfl:b=b':=by simpa using hl
   refine⟨us,hb3,hb4.mono fun k o hkm ho _=>⟨?_,ho⟩⟩;rintro((h | h) | h)
   .exact hkm (.inl (.inl (.inl h)))
   .rcases iM.1 h with h | h
    .exact hkm (.inl (.inl (.inr h)))
    .rw[eo]at h;exact hkm (.inr h)
   .exact hkm (.inl (.inr h))
def qH.low{M:j2}{n0 n1:Nat}{W:World}{C:Nat->List aE}{v:Value}{ps:j3}(I:qH M n0 W C v ps)(h:n1<=n0):qH M n1 W C v ps:=
 ⟨I.nd,fun b hb=>⟨by have:=(I.lo b hb).1;omega,(I.lo b hb).2⟩,⟨I.sl.1,I.sl.2.imp id (fun⟨g,cap,cur,h1,h2,h3⟩=>⟨g,cap,cur,h1,O,h3⟩)⟩,I.dis,I.cells⟩
def qH.QO{M:j2}{n0:Nat}{w W:World}{C:Nat->List aE}{v:Value}{ps:j3}(I:qH M n0 W C v ps)(hM:cX M w)(hn:w.heap.size<=n0)(hb:Below w.heap.size w W):cX (vI M ps v) W:=by
 refine⟨fun k hk=>?_,hM.2.jc fun k o hk ho _=>?_⟩
 .rcases hk with(h | h) | h
  .have:=hM.1 k h;have:=hb.size;omega
  .exact(I.lo k h).2
  .exact(I.sl.lt k h).2
 .have hlt:=(cf.1 ho).1;refine⟨?_,(hb.block k hlt).trans ho⟩;rintro((h | h) | h)
  .exact hk h
  .have:=(I.lo k h).1;omega
  .have:=(I.sl.lt k h).1;omega
def aA5(q:j0)(m:Nat)(lead aB:Rat)(st N B:Nat)(C:∀l,l<m->jy B q m lead (ab m l) N)(hst:st<=N)(hN:N<=1073741824)(hm:m<=64)(hmN:m<=N)(hB:B<=4294967296)(h64:64<=B)(hql:q.length=m+1)(hp:∀p∈q,p.length<1048576)(hl0:lead≠0)(hw:m+aj q<=st)(hrho:∀j,j<=2*st+1->Fit B (aB^j))(n0 l:Nat)(hl:l<m) :
  (∀args w,(callFunc 132 args).run prog w=.ok (.enter 132 args) w)/\∀(M:j2)(w':World)(vs:n5),n0<=w'.heap.size->cX M w'->cW M w' [.agg (zJ q m lead aB (st:Nat)),.one (sQ (ab m l))] vs ->
   Calls prog 132 vs.toArray w' fun e w2=>Below w'.heap.size w' w2/\uF M w2 (.ret [.one (aE.RF n0 266 (jv q m lead aB st st l))]) e:=
 ⟨bM aT,fun M w' vs hn hM hr=>(bb5 q m lead aB st (ab m l) N B (C l hl) hst hN hm hmN hB h64 hql (PC m l) hp hl0 hw hrho M w' vs hM hr).mono (by
  rintro e w2 ⟨hb,b,us,rfl,hle,hh,hrep⟩;exact⟨hb,[.pointer (some ⟨b,0,none⟩)],rfl,⟨b,us.toArray,rfl,O,fun h=>by have:=hM.1 b h;omega,hh,hrep⟩,trivial⟩)⟩
def TH(M:j2)(w:World)(hM:cX M w)(q:j0)(m:Nat)(lead aB:Rat)(st N B:Nat)(C:∀l,l<m->jy B q m lead (ab m l) N)(hN:N<=1073741824)(hm:m<=64)(hB:B<=4294967296)(h64:64<=B)(hql:q.length=m+1)(hp:∀p∈q,p.length<1048576)(hl0:lead≠0)(hw:m+aj q<=st)(hrho:∀j,j<=2*st+1->Fit B (aB^j))
  (u0 u1 u2 u3 u4 u5 u6 u7 u8:Value) (ha:ai M w (zJ q m lead aB (st:Nat)) [u0,u1,u2,u3,u4,u5,u6,u7,u8]) (hst:st<=N:=by omega) (hmN:m<=N:=by omega) :
  Calls prog 225 #[.agg #[u0,u1,u2,u3,u4,u5,u6,u7,u8]] w fun e w'=>∃bv ps,e=.returned bv/\ps.length=m/\Below w.heap.size w w'/\qH M w.heap.size w' (jv q m lead aB st st) bv ps:=by
 obtain⟨o0,o1,o2,o3,o4,o5,o6,o7,o8⟩:u0.oneCell'=true/\u1.oneCell'=true/\u2.oneCell'=true/\u3.oneCell'=true/\u4.oneCell'=true/\u5.oneCell'=true/\u6.oneCell'=true/\u7.oneCell'=true/\u8.oneCell'=true:=by
  have:=ha.one;exact⟨this _ bY,this _ bY,this _ bY,this _ bY,this _ bY,this _ bY,this _ bY,this _ bY,this _ bY⟩
 have e1:u1=.int .i64 m:=ha.2.1.1;subst e1;refine jn func225 rfl ?_;simp only[ntmps225,ed,bm,ck,Nat.reduceAdd,Nat.reduceSub,fX,fW,fS,fU,List.nil_append,List.cons_append];have hM':cX M (w.alloc (.cells #[u0,.int .i64 m,u2,u3,u4,u5,u6,u7,u8] 185)):=⟨fun b hb=>by rw[br];have:=hM.1 b hb;omega,hM.2.below rfl ((cz _ w).alloc (ah _) _)⟩
 have hb0:Below w.heap.size w (w.alloc (.cells #[u0,.int .i64 m,u2,u3,u4,u5,u6,u7,u8] 185)):=(cz _ w).alloc (ah _) _
 go_wp2
 refine xJ (fun n a' W=>∃l ps,n=m-l/\cG3 M w (zJ q m lead aB (st:Nat)) (jv q m lead aB st st) m l ps a' W) (m-0) ⟨0,[],rfl,⟨rfl,rfl,hb0,cG _,rfl,by rw[br];omega,⟨⟨rfl,rfl⟩,?_⟩,rfl,rfl,⟨List.nodup_nil,bY,Au _ _ _ _,bY,by intro l b h;simp at h⟩⟩⟩ ?_
 .refine⟨w.heap.size,0,_,_,_,rfl,?_,bc w _,?_⟩
  .rintro((h | h) | h)
   .have:=hM.1 _ h;omega
   .cases h
   .cases h
  .exact ha.mono fun b o hb ho _=>by
    have hlt:=(cf.1 ho).1;refine⟨?_,(hb0.block b hlt).trans ho⟩;rintro((h | h) | h)
    .exact hb h
    .cases h
    .cases h
 rintro n a' W ⟨l,ps,rfl,I⟩;obtain⟨t,ds⟩:=a';have hds:ds=[]:=I.df;subst hds;have t7:t.getD 7 undef=.int .i64 m:=I.t7;have t8:t.getD 8 undef=.int .i64 l:=I.t8;have hll:=I.hl;rw[kw (t:=t) I.sz,t7,t8]
 go_wp2
 .rename_i Q1 K1 hK1 Q2 hlm K3 hK3;have hlm:l<m:=O
  have hpl:=I.pl;have hbl:=I.bel;have hbig:=I.big
  refine bU3 (E:=194) (sz:=1) (t0:=3) (tr:=3) (M:=fun k=>M k\/k∈ps) (v:=t.getD 3 undef) (vs:=ps.map fun b=>Value.pointer (some ⟨b,0,none⟩)) (base:=w.heap.size+1) (ins:=[(1,.v none),(4,.v none),(7,.v none),(8,.v none)]) (xs:=[.v (.one (aE.and (.exact (.pointer (some ⟨w.heap.size,0,none⟩))) (.aW (zJ q m lead aB (st:Nat))))),.v (.one (.int .i64 l)),.v (.one (.int .i64 m)),.v (.one (.int .i64 l))]) fo ⟨rfl,rfl,rfl,rfl,trivial⟩
   (cg6 (.pointer (some ⟨w.heap.size,0,none⟩)) W.heap.size q m lead aB st l hlm hm (ps.map fun b=>[aE.exact (Value.pointer (some ⟨b,0,none⟩))]) (by rw[aX];omega)) aT
   (aA5 q m lead aB st N B C hst hN hm hmN hB h64 hql hp hl0 hw hrho W.heap.size l hlm) (I.bas.QO hM O I.bel) (fun k hk e=>?_) rfl rfl ⟨I.t1,⟨rfl,rfl⟩,⟨rfl,rfl⟩,⟨rfl,rfl⟩,trivial⟩ rfl (by rw[aX];exact I.bas.sl) (by intro x hx;obtain⟨b,_,rfl⟩:=jf.1 hx;rfl) (VD ps) ?_
  .rcases hk with h | h
   .have:=hM.1 k h;have:=(I.bas.sl.lt k e).1;omega
   .exact I.bas.dis k h e
  .intro a' w' us v' vs' hg hsz hdf hrun htr hown hblk hres hrep;obtain⟨b,hb,hbas⟩:=aR9 I.bas hg (by rw[hpl];exact hown) hblk (by rw[hpl];exact hrep);have hus:=ja hrun;subst hus;have hkp:=Uw I.bas hg hblk hb;obtain⟨t',ds⟩:=a';have hds:ds=[]:=hdf;subst hds;have t1':t'.getD 1 undef=.pointer (some ⟨w.heap.size,0,none⟩):=hres.1.1.1;have t7':t'.getD 7 undef=.int .i64 m:=hres.2.1.1;have t8':t'.getD 8 undef=.int .i64 l:=hres.2.2.1.1;have t3':t'.getD 3 undef=v':=htr;have hsz':t'.size=23:=hsz;show K3 _ _;refine hK3 _ _ ?_;rw[kw (t:=t') hsz',t1',t7',t8',t3']
   go_wp2
   have ht1:=aE.mono _ hkp I.t1;rw[show((⟨t,[]⟩:Act).tmps.getD 1 undef)=.pointer (some ⟨w.heap.size,0,none⟩)from I.t1.1.1]at ht1
   exact⟨m-(l+1),O,l+1,rfl,ps++[b],⟨rfl,rfl,⟨hg.os.trans hbl.os,hg.tape.trans hbl.tape,hg.output.trans hbl.output,an hbl.size hg.size,fun k hk=>(hg.block k (by have:=hbl.size;omega) (fun e=>by have:=(I.bas.sl.lt k e.symm).1;omega)).trans (hbl.block k hk)⟩,
    hlm,by rw[gK,hpl];rfl,bt hbig hg.size,ht1,rfl,rfl,hbas⟩⟩
 .have hlm:l=m:=O
  simp[bodyPost,results,show f225.results=#[.tmp 2]from rfl,go_sem];have key:qH M w.heap.size W (jv q m lead aB st st) (t.getD 3 undef) ps:=I.bas.low (Qm _);rw[iG]at key;exact⟨ps,by rw[I.pl];exact hlm,I.bel,key⟩
end Go.Sy
namespace Go.Sy
open Go Go.Proofs Go.RowKit Tryz Ord
attribute [local go_sem] Oper.semAt_some
def Nz:Tr:=.retr [W 0 0,W 1 0,W 2 0,W 3 0] 9
def Mt:Tr:=.need (.strow 4 14 (.k (.int .i64 (0))) 10 [.u 8 0]) (.store 40 (.tmp 66) (.tmp 64)) 0 false Nz
def Ni:Tr:=.need (.call 101 [.agg [U 5 0,U 5 1,U 5 2,U 5 3,U 5 4],W 6 0,W 7 0] [none]) (D5 101 #[.tmp 58,.tmp 62,.tmp 63] #[171,40,3]) 40 true Mt
def LZ:Tr:=.need (.prim [W 0 0] none) (.load 3 (.tmp 10)) 3 false Ni
def MX:Tr:=.need (.ldrow 4 (.k (.int .i64 (0))) 9 1 false) (.load 40 (.tmp 61)) 40 false LZ
def MS:Tr:=.need (.ldrow 4 (.k (.int .i64 (0))) 0 5 true) (.load 171 (.tmp 57)) 171 false MX
def VU:zO prog 69 (fun _=>none) (cJ [1,1,1,1,1,1,0,1,0,0,1,1,0,0,1] (dJ f226)) [(10,.v none),(47,.v none),(48,.v none),(49,.v none)] 15 266 14 ([10,47,48,49].map ResultVar.tmp)=MS:=aT
def Mx:Tr:=.ret [W 0 0,.one (.ref 0 [.u 1 0,.u 1 1,.u 1 2]),.one (.ref 0 [.u 2 0]),.one (.ref 0 [.u 6 0,.u 6 1,.u 6 2])]
def Mv:Tr:=.need (.call 36 [.agg [U 4 0,U 4 1,U 4 2],.agg [U 5 0,U 5 1,U 5 2]] [some 3]) (D5 36 #[.tmp 17,.tmp 18] #[39,39]) 39 true Mx
def Nn:Tr:=.need (.call 202 [WK (2)] [some 3]) (D5 202 #[.const (I3 (2))] #[3]) 39 true Mv
def Md:Tr:=.need (.call 202 [W 3 0] [some 3]) (D5 202 #[.tmp 16] #[3]) 39 true Nn
def VY:lG prog 69 (fun _=>none) (cJ [] (dJ f226)) [(0,.v none),(1,.v (some 3)),(2,.v none),(3,.v none)] ([0,5,6,9].map ResultVar.tmp) (some 1) false=Md:=aT
def ce6(v10 v47:Value)(i:Nat)(q:j0)(m:Nat)(lead aB:Rat)(st l n N B:Nat)(b:Rat)(a:j1)(C:jy B q m lead (ab m l) N)(hN:N<=1073741824)(hm:m<=64)(hB:B<=4294967296)(h64:64<=B)(hql:q.length=m+1)(hp:∀p∈q,p.length<1048576)(hl0:lead≠0)(hn:n<=N:=by omega)(hmN:m<=N:=by omega):vc prog (fun o=>o=.retr [.one (aE.and (.exact v10) (.aW [.int .i64 n])),.one (.exact v47),.one (.int .i64 m),.one (.int .i64 i)] ([Zi ([eQ q,.int .i64 m]++qC lead) aB st (ab m l) (aU q m lead (ab m l) n) b])) (zO prog 69 (fun _=>none) (cJ [1,1,1,1,1,1,0,1,0,0,1,1,0,0,1] (dJ f226)) [(10,.v none),(47,.v none),(48,.v none),(49,.v none)] 15 266 14 ([10,47,48,49].map ResultVar.tmp)) ([.v (.one (aE.and (.exact v10) (.aW [.int .i64 n]))),.v (.one (.exact v47)),.v (.one (.int .i64 m)),.v (.one (.int .i64 i))].map In.env++[.rows ([Zi ([eQ q,.int .i64 m]++qC lead) aB st (ab m l) a b])]) []:=by
 rw[VU];dsimp only[List.map,In.env,aP,aQ];refine vld (ts:=[Zi ([eQ q,.int .i64 m]++qC lead) aB st (ab m l) a b]) (ik:=.i64) (n:=0) rfl rfl (uB _) (cells:=Zi ([eQ q,.int .i64 m]++qC lead) aB st (ab m l) a b) rfl (.inl rfl) rfl ?_;dsimp only[aP,aQ,SG,List.drop,List.take];refine vld (ts:=[Zi ([eQ q,.int .i64 m]++qC lead) aB st (ab m l) a b]) (ik:=.i64) (n:=0) (t:=.one (sQ (ab m l))) rfl rfl (uB _) (cells:=Zi ([eQ q,.int .i64 m]++qC lead) aB st (ab m l) a b) rfl (.inr rfl) rfl ?_;apply vn (t:=.one (.int .i64 n)) (au2 (bI YF));apply aA (GM q m lead (ab m l) n N B C hn hN hm hmN h64 hql (PC m l) (fun p hp'=>by have:=hp p hp';omega) hl0) rfl;refine BE (ts:=[Zi ([eQ q,.int .i64 m]++qC lead) aB st (ab m l) a b]) (us:=[Zi ([eQ q,.int .i64 m]++qC lead) aB st (ab m l) (aU q m lead (ab m l) n) b]) rfl rfl O (cells:=Zi ([eQ q,.int .i64 m]++qC lead) aB st (ab m l) a b) rfl rfl ?_;dsimp only[aP,aQ];exact yC rfl rfl
abbrev lX(q:j0)(m:Nat)(lead aB:Rat)(st l:Nat):Rat:=MG (aU q m lead (ab m l) st) aB (st-(m+aj q)) (m+aj q)
structure Dd(q:j0)(m:Nat)(lead aB:Rat)(st:Nat)(r goal:Rat)(d B G:Nat):Prop where
 BT:∀n,st<=n->n<=max 1500 st->∀i,i<=d->oj B aB n i r
 sh:∀n,st<=n->n<=max 1500 st->∀i,i<=d->cP aB n i r<1
 fb:∀l,l<m->Fit B (lX q m lead aB st l)
 ft:∀l,l<m->∀n,st<=n->n<=max 1500 st->∀i,i<=d->Fit G (fM (lX q m lead aB st l) aB n i r)
 gf:Fit G goal
 ds:d<=st
 stb:st<=1073741824
 h0:aB≠0
 hB:B<=1073741824
 h64:64<=B
 hG:G<=1073741824
abbrev QC(q:j0)(m:Nat)(lead aB:Rat)(st:Nat)(r goal:Rat)(d l n:Nat):Bool:=nh (lX q m lead aB st l) aB n r goal d
structure yM(en:Nat->Nat->Bool)(m st:Nat)(out:Option Nat):Prop where
 iff:∀n,st<=n->n<=1500->((∀l,l<m->en l n=true)↔∃N,out=some N/\N<=n)
 some:∀N,out=some N->st<=N/\N<=1500
 up:∀l,l<m->∀n,st<=n->n<1500->en l n=true->en l (n+1)=true
def bY9(bv:Value)(hb1:bv.oneCell'=true)(r:Rat)(d k:Int)(hk:k<=256):vc prog (fun o=>ey o (.ret [.one (.exact bv),.one (.aW (qC r)),.one (.aW [.int .i64 d]),.one (.aW (qC (mkRat 1 (2^k.toNat)*mkRat 1 (2^2))))])) (lG prog 69 (fun _=>none) (cJ [] (dJ f226)) [(0,.v none),(1,.v (some 3)),(2,.v none),(3,.v none)] ([0,5,6,9].map ResultVar.tmp) (some 1) false) ([.v (.one (.exact bv)),.v (qT r),.v (.one (.int .i64 d)),.v (.one (.int .i64 k))].map In.env) []:=by
 rw[VY];dsimp only[List.map,In.env,aP,aQ];apply aA (Ag k hk);apply aA (Ag 2);apply aA (cr (mkRat 1 (2^k.toNat)) (mkRat 1 (2^2)) 257 257 (gu O) (gu O));exact aN
def Un{M:j2}{W:World}(hM:cX M W){q:j0}{m:Nat}{lead aB:Rat}{st:Nat}{r goal:Rat}{d B G:Nat}(T:Dd q m lead aB st r goal d B G){l n:Nat}(hl:l<m)(hn1:st<=n)(hn2:n<=max 1500 st){b bn:Nat}{us:l7}{v6 v5 v9:Value}
  (hb:¬M b) (hbh:W.heap[b]?=some (.cells us 266 (0,0))) (hus:ai M W (jv q m lead aB st st l) us.toList) (hbn:¬M bn) (hbnh:W.heap[bn]?=some (.cells #[.int .i64 n] 3 (0,0)))
  (h6:(aE.aW [.int .i64 d]).rep M W v6) (h5:(aE.aW (qC r)).rep M W v5) (h9:(aE.aW (qC goal)).rep M W v9) :
  Calls prog 267 #[.pointer (some ⟨b,0,none⟩),v6,.pointer (some ⟨bn,0,none⟩),v5,v9] W fun e w'=>Below W.heap.size W w'/\e=.returned (.bool (QC q m lead aB st r goal d l n)):=by
 have hd:=Xj (eQ q) (.int .i64 m) (dT lead.num.natAbs) (.bool (decide (lead.num<0))) (dT (lead.den-1)) aB st (ab m l) (aU q m lead (ab m l) st) (lX q m lead aB st l) n d r goal B G (fun i hi=>T.BT n hn1 hn2 i hi) (by have:=T.stb;omega) (by have:=T.ds;omega) T.h0 (T.fb l hl) T.hB T.h64 (fun i hi=>T.sh n hn1 hn2 i hi) T.gf T.hG (fun i hi=>T.ft l hl n hn1 hn2 i hi);refine(hd.2 M W [.pointer (some ⟨b,0,none⟩),v6,.pointer (some ⟨bn,0,none⟩),v5,v9] hM ⟨⟨b,0,us,266,(0,0),rfl,hb,hbh,?_⟩,h6,⟨bn,0,_,_,_,rfl,hbn,hbnh,⟨⟨rfl,rfl⟩,trivial⟩⟩,h5,h9,trivial⟩).mono ?_
 .have hlen:=hus.length;show ai M W (jv q m lead aB st st l) (List.take (jv q m lead aB st st l).length (List.drop 0 us.toList));rw[gF,cU (np hlen.symm)];exact hus
 .rintro e w' ⟨hb,vs,rfl,hvs⟩;obtain⟨v,e1,hr⟩:=ap7 hvs;rw[hr.1]at e1;exact⟨hb,by rw[e1]⟩
def PA{M:j2}{W:World}(hM:cX M W)(e:Int)(p:Prop)[Decidable p]:Calls prog 130 #[.bool (decide p),.int .i64 e] W fun r w'=>Below W.heap.size W w'/\((p/\r=.returned (.tuple #[]))\/(¬p/\r=.panicked [{ v:=LR e,recovered:=false }])):=by
 by_cases hp:p
 .rw[gJ hp];refine((nP e).2 M W [.bool true,.int .i64 e] hM ⟨⟨rfl,rfl⟩,⟨rfl,rfl⟩,trivial⟩).mono ?_;rintro r w' ⟨hb,vs,rfl,hvs⟩
  obtain rfl:vs=[]:=by cases vs with
   | nil=>rfl
   | cons x vs=>exact hvs.elim
  exact⟨hb,.inl ⟨hp,rfl⟩⟩
 .rw[ej hp];refine((ll e).2 M W [.bool false,.int .i64 e] hM ⟨⟨rfl,rfl⟩,⟨rfl,rfl⟩,trivial⟩).mono ?_;rintro r w' ⟨hb,hp'⟩;exact⟨hb,.inr ⟨hp,bE0 hp'⟩⟩
structure cy8(M:j2)(w:World)(ps:j3)(bv:Value)(r goal:Rat)(d bn n:Nat)(a:Act)(W:World):Prop where
 sz:a.tmps.size=69
 df:a.defers=[]
 bel:Below w.heap.size w W
 bn1:w.heap.size<=bn
 hbn:W.heap[bn]?=some (.cells #[.int .i64 n] 3 (0,0))
 t0:a.tmps.getD 0 undef=bv
 t5:(aE.aW (qC r)).rep (fun k=>vI M ps bv k\/k=bn) W (a.tmps.getD 5 undef)
 t6:(aE.aW [.int .i64 d]).rep (fun k=>vI M ps bv k\/k=bn) W (a.tmps.getD 6 undef)
 t9:(aE.aW (qC goal)).rep (fun k=>vI M ps bv k\/k=bn) W (a.tmps.getD 9 undef)
 t10:a.tmps.getD 10 undef=.pointer (some ⟨bn,0,none⟩)
 t11:a.tmps.getD 11 undef=.func (.func 267) #[] #[a.tmps.getD 6 undef,.pointer (some ⟨bn,0,none⟩),a.tmps.getD 5 undef,a.tmps.getD 9 undef]
structure Ce(ps:j3)(w w':World):Prop where
 os:w'.os=w.os
 tape:w'.tape=w.tape
 output:w'.output=w.output
 size:w.heap.size<=w'.heap.size
 block:∀k,k<w.heap.size->k ∉ ps->w'.heap[k]?=w.heap[k]?
def Ce.aB7{ps:j3}{w w':World}(h:Below w.heap.size w w'):Ce ps w w':=⟨h.os,h.tape,h.output,h.size,fun k hk _=>h.block k hk⟩
def Ce.below{ps:j3}{w w' w2:World}(h:Ce ps w w')(k:Below w'.heap.size w' w2):Ce ps w w2:=⟨k.os.trans h.os,k.tape.trans h.tape,k.output.trans h.output,an h.size k.size,fun j hj hp=>(k.block j (bt hj h.size)).trans (h.block j hj hp)⟩
def Ce.grown{ps:j3}{w w' w2:World}{b:Nat}(h:Ce ps w w')(k:w'.grownBy w2 (some b))(hb:b∈ps):Ce ps w w2:=⟨k.os.trans h.os,k.tape.trans h.tape,k.output.trans h.output,an h.size k.size,fun j hj hp=>(k.block j (bt hj h.size) (fun e=>hp (by simp only[aM]at e;rw[e];exact hb))).trans (h.block j hj hp)⟩
def bn3{M:j2}{n0 i b:Nat}{W W':World}{C C':Nat->List aE}{v:Value}{ps:j3}{cur:l7}(I:qH M n0 W C v ps)(hi:ps[i]?=some b)(hg:W.grownBy W' (some b))(hh:W'.heap[b]?=some (.cells cur 266 (0,0)))
  (hr:ai (vI M ps v) W' (C' i) cur.toList) (hC:∀l,l≠i->C' l=C l):qH M n0 W' C' v ps:=by
 have hbm:=cj hi;have hk:bq (vI M ps v) W (vI M ps v) W':=fun k o hk ho _=>⟨hk,(hg.block k (cf.1 ho).1 (fun e=>hk (.inl (.inr (by simp only[aM]at e;rw[e];exact hbm))))).trans ho⟩
 refine⟨I.nd,fun k hk=>⟨(I.lo k hk).1,bt (I.lo k hk).2 hg.size⟩,⟨I.sl.1,?_⟩,I.dis,fun l b' hl=>?_⟩
 .rcases I.sl.2 with h | ⟨g,cap,cur,hv,h1,h2,h3⟩
  .exact .inl h
  .refine .inr ⟨g,cap,cur,hv,h1,(hg.block g (cf.1 h2).1 (fun e=>?_)).trans h2,h3⟩;simp only[aM]at e;exact I.dis b hbm (by rw[hv,<-e];rfl)
 .by_cases e:l=i
  .subst e;rw[hi]at hl;cases hl;exact⟨cur,hh,hr⟩
  .obtain⟨us,h1,h2⟩:=I.cells l b' hl;rw[hC l e];refine⟨us,(hg.block b' (I.lo b' (cj hl)).2 (fun e2=>?_)).trans h1,h2.mono hk⟩;simp only[aM]at e2;subst e2;exact e ((List.getElem?_inj (fK.1 hl).1 I.nd).1 (hl.trans hi.symm))
def qH.grow{M:j2}{n0:Nat}{W W':World}{C:Nat->List aE}{v:Value}{ps:j3}(I:qH M n0 W C v ps)(h:Below W.heap.size W W'):qH M n0 W' C v ps:=by
 refine⟨I.nd,fun k hk=>⟨(I.lo k hk).1,bt (I.lo k hk).2 h.size⟩,⟨I.sl.1,?_⟩,I.dis,fun l b hl=>?_⟩
 .rcases I.sl.2 with h' | ⟨g,cap,cur,hv,h1,h2,h3⟩
  .exact .inl h'
  .exact .inr ⟨g,cap,cur,hv,h1,(h.block g (cf.1 h2).1).trans h2,h3⟩
 .obtain⟨us,h1,h2⟩:=I.cells l b hl;exact⟨us,(h.block b (cf.1 h1).1).trans h1,h2.mono (bq.below h)⟩
def qH.congr{M:j2}{n0:Nat}{W:World}{C C':Nat->List aE}{v:Value}{ps:j3}(I:qH M n0 W C v ps)(h:∀l,l<ps.length->C' l=C l):qH M n0 W C' v ps:=
 ⟨I.nd,I.lo,I.sl,I.dis,fun l b hl=>by rw[h l (fK.1 hl).1];exact I.cells l b hl⟩
def Ce.low{ps:j3}{n0:Nat}{w0 w W:World}(h:Ce ps w W)(hw:Below n0 w0 w)(hn:n0<=w.heap.size)(hps:∀b∈ps,n0<=b):Below n0 w0 W:=
 ⟨h.os.trans hw.os,h.tape.trans hw.tape,h.output.trans hw.output,an hw.size h.size,fun k hk=>(h.block k O (fun hm=>by have:=hps k hm;omega)).trans (hw.block k hk)⟩
structure cF3(M:j2)(n0:Nat)(w:World)(ps:j3)(bv:Value)(C:Nat->List aE)(m bn n i:Nat)(a:Act)(W:World):Prop where
 sz:a.tmps.size=69
 df:a.defers=[]
 tu:Ce ps w W
 hbn:W.heap[bn]?=some (.cells #[.int .i64 n] 3 (0,0))
 bas:qH M n0 W C bv ps
 t10:a.tmps.getD 10 undef=.pointer (some ⟨bn,0,none⟩)
 t47:a.tmps.getD 47 undef=bv
 t48:a.tmps.getD 48 undef=.int .i64 m
 t49:a.tmps.getD 49 undef=.int .i64 i
def Ux(Ns Bs:Nat)(M:j2)(w0 w:World)(hM:cX M w0)(hw:Below w0.heap.size w0 w)(q:j0)(m:Nat)(lead aB:Rat)(st:Nat)(r:Rat)(d:Nat)(k:Int)(B G:Nat)(bv:Value)(ps:j3)(hm1:1<=m)(hk:k<=256)(goal:Rat)(hgq:mkRat 1 (2^k.toNat)*mkRat 1 (2^2)=goal)
  (T:Dd q m lead aB st r goal d B G) (out:Option Nat) (L:yM (QC q m lead aB st r goal d) m st out)
  (I:qH M w0.heap.size w (jv q m lead aB st st) bv ps) (hpl:ps.length=m) (hst15:st<=Ns) (SC:∀l,l<m->jy Bs q m lead (ab m l) Ns) (hNs:Ns<=1073741824) (hN15:1500<=Ns) (hm:m<=64) (hBs:Bs<=4294967296) (h64:64<=Bs) (hql:q.length=m+1) (hp:∀p∈q,p.length<1048576) (hl0:lead≠0) (r0 r1 r2:Value) (hr:ai (vI M ps bv) w (qC r) [r0,r1,r2]) :
  Calls prog 226 #[bv,.agg #[r0,r1,r2],.int .i64 d,.int .i64 k] w fun e w'=>match out with
   | some N=>e=.returned (.int .i64 N)/\Ce ps w w'/\qH M w0.heap.size w' (jv q m lead aB st N) bv ps
   | none=>e=.panicked [{ v:=LR 5,recovered:=false }]/\Below w0.heap.size w0 w':=by
 obtain⟨p0,p1,p2⟩:r0.oneCell'=true/\r1.oneCell'=true/\r2.oneCell'=true:=by have:=hr.one;exact⟨this _ bY,this _ bY,this _ bY⟩
 obtain⟨g,cap,cur,rfl,hg0,hgh,hgc,hgm,hgs,hgt⟩:∃g cap cur,bv=.slice (some ⟨g,0,none⟩) m cap/\w0.heap.size<=g/\w.heap[g]?=some (.cells cur 194 (0,0))/\m<=cap/\cap<=maxLen/\cur.size=cap/\cur.toList.take m=ps.map fun b=>Value.pointer (some ⟨b,0,none⟩):=by
  rcases I.sl.2 with⟨_,h⟩ | ⟨g,cap,cur,h1,h2,h3,h4,h5,h6,h7⟩
  .omega
  .rw[hpl]at h1 h4 h7;rw[dc]at h6 h7;exact⟨g,cap,cur,h1,h2,h3,h4,h5,h6,h7⟩
 refine jn func226 rfl ?_;simp only[ntmps226,ed,bm,ck,Nat.reduceAdd,Nat.reduceSub,fX,fW,fS,fU,List.nil_append,List.cons_append];have hfw:=I.QO hM (ah _) hw;have hbv1:(Value.slice (some ⟨g,0,none⟩) m cap).oneCell'=true:=rfl
 refine wY (n:=1) (ins:=[(0,.v none),(1,.v (some 3)),(2,.v none),(3,.v none)]) (xs:=[.v (.one (.exact (.slice (some ⟨g,0,none⟩) m cap))),.v (qT r),.v (.one (.int .i64 d)),.v (.one (.int .i64 k))]) fo ⟨rfl,rfl,rfl,rfl,trivial⟩
  (by have h:=bY9 (.slice (some ⟨g,0,none⟩) m cap) hbv1 r d k hk;rw[hgq]at h;exact h) aT hfw rfl rfl ⟨⟨rfl,rfl⟩,⟨_,rfl,hr⟩,⟨rfl,rfl⟩,⟨rfl,rfl⟩,trivial⟩ ?_ (by intro c v a' w' h;cases h)
 intro e a' W1 rs us hrs hex hB1 hsz hdf hrun hus;cases hrs;cases e with
 | exit id=>cases hex
 | ret=>cases hex
 | normal=>
 have huse:=ja hrun;subst huse;obtain⟨h0,h5,h6,h9,_⟩:=hus;have h0:a'.tmps.getD 0 undef=.slice (some ⟨g,0,none⟩) m cap:=h0.1;have h5:(aE.aW (qC r)).rep (vI M ps (.slice (some ⟨g,0,none⟩) m cap)) W1 (a'.tmps.getD 5 undef):=h5;have h6:(aE.aW [.int .i64 d]).rep (vI M ps (.slice (some ⟨g,0,none⟩) m cap)) W1 (a'.tmps.getD 6 undef):=h6;have h9:(aE.aW (qC goal)).rep (vI M ps (.slice (some ⟨g,0,none⟩) m cap)) W1 (a'.tmps.getD 9 undef):=h9;obtain⟨t,ds⟩:=a';have hds:ds=[]:=hdf;subst hds;have hsz:t.size=69:=hsz;show Code.wp _ (oe 1 _) _ _ _;simp only[oe];obtain⟨b0,hb0⟩:∃b0,ps[0]?=some b0:=⟨_,bU O⟩
 have hglt:g<w.heap.size:=(cf.1 hgh).1
 have hcur:∀(i b:Nat),ps[i]?=some b->cur[i]?=some (.pointer (some ⟨b,0,none⟩)):=by
  intro i b hi;have hlt:=(fK.1 hi).1;have h:(cur.toList.take m)[i]?=some (.pointer (some ⟨b,0,none⟩)):=by rw[hgt,dS,hi];rfl
  rw[fi,aI O]at h
  simpa using h
 have cp0:W1.cell? ⟨g,0,none⟩=some (.pointer (some ⟨b0,0,none⟩)):=aH ((hB1.block g hglt).trans hgh) (hcur 0 b0 hb0);obtain⟨us0,hu0,hr0⟩:=I.cells 0 b0 hb0;have hb0lt:=(I.lo b0 (cj hb0)).2
 have c8:W1.cell? ⟨b0,8,none⟩=some (.int .i64 st):=by
  refine aH ((hB1.block b0 hb0lt).trans hu0) ?_;obtain⟨x,hx,hxr⟩:=hr0.get 8 (.int .i64 st) rfl;rw[show x=.int .i64 st from hxr.1]at hx
  simpa using hx
 have hmf:=AC;rw[kw (t:=t) hsz,show t.getD 0 undef=.slice (some ⟨g,0,none⟩) m cap from h0];generalize hv5:t.getD 5 undef=v5 at *;generalize hv6:t.getD 6 undef=v6 at *;generalize hv9:t.getD 9 undef=v9 at *
 go_wp2
 obtain⟨bn,hbn⟩:∃bn,W1.heap.size=bn:=⟨_,rfl⟩
 have hbw:w.heap.size<=bn:=by have:=hB1.size;omega
 have hkal:bq (vI M ps (.slice (some ⟨g,0,none⟩) m cap)) W1 (fun k=>vI M ps (.slice (some ⟨g,0,none⟩) m cap) k\/k=bn) (W1.alloc (.cells #[.int .i64 st] 3)):=fun b o hb ho _=>by
  have hlt:=(cf.1 ho).1;exact⟨fun h=>h.elim hb (fun e=>O),(bJ _ _ _ hlt).trans ho⟩
 refine xJ (fun n' a' W=>∃i n,n'=m-i/\i<=m/\st<=n/\n<=max 1500 st/\(∀N,out=some N->n<=N)/\(∀l,l<i->QC q m lead aB st r goal d l n=true) /\
   cy8 M w ps (.slice (some ⟨g,0,none⟩) m cap) r goal d bn n a' W/\a'.tmps.getD 28 undef=.slice (some ⟨g,0,none⟩) m cap/\a'.tmps.getD 29 undef=.int .i64 m/\a'.tmps.getD 30 undef=.int .i64 i) (m-0)
  ⟨0,st,rfl,cG _,ah _,Rw _ _,fun N hN=>(L.some N hN).1,fun l hl=>O,⟨rfl,rfl,hB1.alloc O _,hbw,by rw[<-hbn];exact bc W1 _,rfl,aE.mono _ hkal h5,aE.mono _ hkal h6,aE.mono _ hkal h9,by rw[hbn];rfl,by rw[hbn];rfl⟩,rfl,rfl,rfl⟩ ?_
 rintro n' a' W ⟨i,n,rfl,him,hn1,hn2,hnN,hen,J,t28,t29,t30⟩;obtain⟨t',ds⟩:=a';have hds:ds=[]:=J.df;subst hds;have t28:t'.getD 28 undef=.slice (some ⟨g,0,none⟩) m cap:=t28;have t29:t'.getD 29 undef=.int .i64 m:=t29;have t30:t'.getD 30 undef=.int .i64 i:=t30;have t10:t'.getD 10 undef=.pointer (some ⟨bn,0,none⟩):=J.t10;have t11:=J.t11;have t11:t'.getD 11 undef=.func (.func 267) #[] #[t'.getD 6 undef,.pointer (some ⟨bn,0,none⟩),t'.getD 5 undef,t'.getD 9 undef]:=t11;have t0:t'.getD 0 undef=.slice (some ⟨g,0,none⟩) m cap:=J.t0;clear hv5 hv6 hv9;have hMW:cX M W:=⟨fun b hb=>by have:=hM.1 b hb;have:=hw.size;have:=J.bel.size;omega,(hM.2.below rfl hw).below rfl J.bel⟩
 rcases bG i m with hi | hi
 .obtain⟨bi,hbi⟩:∃b,ps[i]?=some b:=⟨_,bU O⟩
  have cpi:W.cell? ⟨g,i,none⟩=some (.pointer (some ⟨bi,0,none⟩)):=aH ((J.bel.block g hglt).trans hgh) (hcur i bi hbi);have j5:(aE.aW (qC r)).rep (fun k=>vI M ps (.slice (some ⟨g,0,none⟩) m cap) k\/k=bn) W (t'.getD 5 undef):=J.t5;have j6:(aE.aW [.int .i64 d]).rep (fun k=>vI M ps (.slice (some ⟨g,0,none⟩) m cap) k\/k=bn) W (t'.getD 6 undef):=J.t6;have j9:(aE.aW (qC goal)).rep (fun k=>vI M ps (.slice (some ⟨g,0,none⟩) m cap) k\/k=bn) W (t'.getD 9 undef):=J.t9;rw[kw (t:=t') J.sz,t0,t10,t11,t28,t29,t30];generalize t'.getD 5 undef=x5 at j5|-;generalize t'.getD 6 undef=x6 at j6|-;generalize t'.getD 9 undef=x9 at j9|-
  go_wp2
  refine xJ (fun n' a' W=>∃n,n'=1501-n/\st<=n/\n<=max 1500 st/\(∀N,out=some N->n<=N)/\(∀l,l<i->QC q m lead aB st r goal d l n=true) /\
   cy8 M w ps (.slice (some ⟨g,0,none⟩) m cap) r goal d bn n a' W/\a'.tmps.getD 28 undef=.slice (some ⟨g,0,none⟩) m cap/\a'.tmps.getD 29 undef=.int .i64 m/\a'.tmps.getD 30 undef=.int .i64 i/\a'.tmps.getD 13 undef=.pointer (some ⟨bi,0,none⟩)) (1501-n)
   ⟨n,rfl,hn1,hn2,hnN,hen,⟨rfl,rfl,J.bel,J.bn1,J.hbn,rfl,j5,j6,j9,rfl,rfl⟩,rfl,rfl,rfl,rfl⟩ ?_
  clear j5 j6 j9 cpi hMW J hn1 hn2 hnN hen;rintro n' a' W ⟨n,rfl,hn1,hn2,hnN,hen,J,t28,t29,t30,t13⟩;obtain⟨t2,ds⟩:=a';have hds:ds=[]:=J.df;subst hds;have t28:t2.getD 28 undef=.slice (some ⟨g,0,none⟩) m cap:=t28;have t29:t2.getD 29 undef=.int .i64 m:=t29;have t30:t2.getD 30 undef=.int .i64 i:=t30;have t13:t2.getD 13 undef=.pointer (some ⟨bi,0,none⟩):=t13;have t10:t2.getD 10 undef=.pointer (some ⟨bn,0,none⟩):=J.t10;have t11:t2.getD 11 undef=.func (.func 267) #[] #[t2.getD 6 undef,.pointer (some ⟨bn,0,none⟩),t2.getD 5 undef,t2.getD 9 undef]:=J.t11;have t0:t2.getD 0 undef=.slice (some ⟨g,0,none⟩) m cap:=J.t0;have hMW:cX M W:=⟨fun b hb=>by have:=hM.1 b hb;have:=hw.size;have:=J.bel.size;omega,(hM.2.below rfl hw).below rfl J.bel⟩
  have j5:(aE.aW (qC r)).rep (fun k=>vI M ps (.slice (some ⟨g,0,none⟩) m cap) k\/k=bn) W (t2.getD 5 undef):=J.t5;have j6:(aE.aW [.int .i64 d]).rep (fun k=>vI M ps (.slice (some ⟨g,0,none⟩) m cap) k\/k=bn) W (t2.getD 6 undef):=J.t6;have j9:(aE.aW (qC goal)).rep (fun k=>vI M ps (.slice (some ⟨g,0,none⟩) m cap) k\/k=bn) W (t2.getD 9 undef):=J.t9;rw[kw (t:=t2) J.sz,t0,t10,t11,t13,t28,t29,t30];generalize t2.getD 5 undef=x5 at j5|-;generalize t2.getD 6 undef=x6 at j6|-;generalize t2.getD 9 undef=x9 at j9|-;obtain⟨ui,hui,hri⟩:=I.cells i bi hbi;have hbilt:=(I.lo bi (cj hbi)).2;have hbige:=(I.lo bi (cj hbi)).1;have hww:=hw.size;have hkM:bq (vI M ps (.slice (some ⟨g,0,none⟩) m cap)) w M W:=fun b o hb ho _=>⟨fun h=>hb (.inl (.inl h)),(J.bel.block b (cf.1 ho).1).trans ho⟩
  have hkM2:bq (fun k=>vI M ps (.slice (some ⟨g,0,none⟩) m cap) k\/k=bn) W M W:=fun b o hb ho _=>⟨fun h=>hb (.inl (.inl (.inl h))),ho⟩
  have hec:=Un hMW T hi hn1 hn2 (b:=bi) (bn:=bn) (us:=ui) (v6:=x6) (v5:=x5) (v9:=x9) (fun h=>by have:=hM.1 bi h;omega) ((J.bel.block bi hbilt).trans hui) (hri.mono hkM) (fun h=>by have:=hM.1 bn h;have:=J.bn1;omega) J.hbn (aE.mono _ hkM2 j6) (aE.mono _ hkM2 j5) (aE.mono _ hkM2 j9)
  go_wp2_with (go_at_call 267;refine hec.mono ?_)
  rintro e w2 hb2 rfl;have hbn2:w2.heap[bn]?=some (.cells #[.int .i64 n] 3 (0,0)):=(hb2.block bn (cf.1 J.hbn).1).trans J.hbn;have cn2:w2.cell? ⟨bn,0,none⟩=some (.int .i64 n):=aH hbn2 rfl;have fn2:w2.frozen? ⟨bn,0,none⟩=false:=by simp[World.frozen?,hbn2]
  have hB2:Below w.heap.size w w2:=J.bel.trans (hb2.mono J.bel.size);have hMW2:cX M w2:=⟨fun b hb=>bt (hMW.1 b hb) hb2.size,hMW.2.below rfl hb2⟩
  have l5:=aE.mono _ (bq.below hb2) j5;have l6:=aE.mono _ (bq.below hb2) j6;have l9:=aE.mono _ (bq.below hb2) j9;cases hβ:QC q m lead aB st r goal d i n with
  | true=>
    go_wp2
    exact⟨m-(i+1),O,i+1,n,rfl,hi,hn1,hn2,hnN,fun l hl=>(Nat.lt_succ_iff_lt_or_eq.1 hl).elim (hen l) (fun e=>by rw[e];exact hβ),⟨rfl,rfl,hB2,J.bn1,hbn2,rfl,l5,l6,l9,rfl,rfl⟩,rfl,rfl,rfl⟩
  | false=>
    have hnN2:∀N,out=some N->n+1<=N:=fun N hN=>by
     rcases bG n N with h | h
     .exact h
     .have:=((L.iff n hn1 (by have:=(L.some N hN).2;have:=hnN N hN;omega)).2 ⟨N,hN,h⟩) i hi;rw[hβ]at this;cases this
    go_wp2_with (go_at_call 130;refine(PA (M:=M) hMW2 _ _).mono ?_)
    rintro e w3 hb3 (⟨hq1,rfl⟩ | ⟨hq1,rfl⟩)
    .have hbn3:w3.heap[bn]?=some (.cells #[.int .i64 n] 3 (0,0)):=(hb3.block bn (cf.1 hbn2).1).trans hbn2;have cn3:w3.cell? ⟨bn,0,none⟩=some (.int .i64 n):=aH hbn3 rfl;have fn3:w3.frozen? ⟨bn,0,none⟩=false:=by simp[World.frozen?,hbn3]
     have hB3:Below w.heap.size w w3:=hB2.trans (hb3.mono hB2.size);replace l5:=aE.mono _ (bq.below hb3) l5;replace l6:=aE.mono _ (bq.below hb3) l6;replace l9:=aE.mono _ (bq.below hb3) l9
     go_wp2
     rw[xM w3 bn 0 _ _ _ _ hbn3,show(#[Value.int .i64 n].setIfInBounds 0 (.int .i64 (n+1)))=#[Value.int .i64 (n+1)]from rfl];have hst:=dP w3 bn _ (#[Value.int .i64 (n+1)]:Array Value) _ _ hbn3;have hks:bq (fun k=>vI M ps (.slice (some ⟨g,0,none⟩) m cap) k\/k=bn) w3 (fun k=>vI M ps (.slice (some ⟨g,0,none⟩) m cap) k\/k=bn) (w3.setRow bn #[Value.int .i64 (n+1)]):=fun b o hb ho _=>⟨hb,(du _ _ _ _ (fun e=>hb (.inr e))).trans ho⟩
     exact⟨1501-(n+1),O,n+1,rfl,O,O,hnN2,fun l hl=>L.up l O n hn1 O (hen l hl),⟨rfl,rfl,below_setRow hB3 _ J.bn1,J.bn1,hst,rfl,aE.mono _ hks l5,aE.mono _ hks l6,aE.mono _ hks l9,rfl,rfl⟩,rfl,rfl,rfl,rfl⟩
    .obtain rfl:out=none:=by
      cases hout:out with
      | none=>rfl
      | some N=>
        have h1:=hnN2 N hout;have h2:=(L.some N hout).2;omega
     exact⟨rfl,rfl,hw.trans ((hB2.trans (hb3.mono hB2.size)).mono hw.size)⟩
 .have cn:W.cell? ⟨bn,0,none⟩=some (.int .i64 n):=aH J.hbn rfl;rw[kw (t:=t') J.sz,t0,t10,t11,t28,t29,t30]
  go_wp2_with (go_at_call 130;refine(PA (M:=M) hMW _ _).mono ?_)
  rintro e w2 hb2 (⟨hq1,rfl⟩ | ⟨hq1,rfl⟩)
  .obtain⟨N,hN,hNn⟩:=(L.iff n hn1 O).1 (fun l hl=>hen l O);obtain rfl:N=n:=by have:=hnN N hN;omega
   subst hN;have hbn2:w2.heap[bn]?=some (.cells #[.int .i64 N] 3 (0,0)):=(hb2.block bn (cf.1 J.hbn).1).trans J.hbn;have hB2:Below w.heap.size w w2:=J.bel.trans (hb2.mono J.bel.size);clear cn;have hbn1:=J.bn1
   go_wp2
   refine xJ (fun n' a' W=>∃i,n'=m-i/\i<=m/\cF3 M w0.heap.size w ps (.slice (some ⟨g,0,none⟩) m cap) (fun l=>if l<i then jv q m lead aB st N l else jv q m lead aB st st l) m bn N i a' W) (m-0)
    ⟨0,rfl,cG _,⟨rfl,rfl,Ce.aB7 hB2,hbn2,(I.grow hB2).congr (fun l _=>aD (pG l)),rfl,rfl,rfl,rfl⟩⟩ ?_
   rintro n' a' W ⟨i,rfl,him,K⟩;obtain⟨t3,ds⟩:=a';have hds:ds=[]:=K.df;subst hds;have t10:t3.getD 10 undef=.pointer (some ⟨bn,0,none⟩):=K.t10;have t47:t3.getD 47 undef=.slice (some ⟨g,0,none⟩) m cap:=K.t47;have t48:t3.getD 48 undef=.int .i64 m:=K.t48;have t49:t3.getD 49 undef=.int .i64 i:=K.t49;have hgps:g ∉ ps:=fun h=>I.dis g h rfl;rw[kw (t:=t3) K.sz,t10,t47,t48,t49];rcases bG i m with hi | hi
   .obtain⟨bi,hbi⟩:∃b,ps[i]?=some b:=⟨_,bU O⟩
    have cpi:W.cell? ⟨g,i,none⟩=some (.pointer (some ⟨bi,0,none⟩)):=aH ((K.tu.block g hglt hgps).trans hgh) (hcur i bi hbi);obtain⟨ui,hui,hri⟩:=K.bas.cells i bi hbi;rw[aD (Nat.lt_irrefl i)]at hri;have hbm:=cj hbi;have hww:=hw.size
    have hbnM:¬vI M ps (.slice (some ⟨g,0,none⟩) m cap) bn:=by
     rintro((h | h) | h)
     .have:=hM.1 bn h;omega
     .have:=(I.lo bn h).2;omega
     .simp only[Value.ownBlock,aM]at h;omega
    have hB0:Below w0.heap.size w0 W:=K.tu.low hw hw.size fun b hb=>(I.lo b hb).1
    go_wp2
    rename_i K5 hK5
    refine xA (N:=69) (t0:=15) (T:=266) (n:=14) (M:=vI M ps (.slice (some ⟨g,0,none⟩) m cap)) (g:=bi) (cur:=ui) (ins:=[(10,.v none),(47,.v none),(48,.v none),(49,.v none)])
     (xs:=[.v (.one (aE.and (.exact (.pointer (some ⟨bn,0,none⟩))) (.aW [.int .i64 N]))),.v (.one (.exact (.slice (some ⟨g,0,none⟩) m cap))),.v (.one (.int .i64 m)),.v (.one (.int .i64 i))]) fo ⟨rfl,rfl,rfl,rfl,trivial⟩
     (ce6 (.pointer (some ⟨bn,0,none⟩)) (.slice (some ⟨g,0,none⟩) m cap) i q m lead aB st i N Ns Bs (lX q m lead aB st i) (aU q m lead (ab m i) st) (SC i hi) hNs hm hBs h64 hql hp hl0) aT
     (K.bas.QO hM (ah _) hB0) (.inl (.inr hbm)) rfl rfl rfl ⟨⟨⟨rfl,rfl⟩,⟨bn,0,_,_,_,rfl,hbnM,K.hbn,⟨⟨rfl,rfl⟩,trivial⟩⟩⟩,⟨rfl,rfl⟩,⟨rfl,rfl⟩,⟨rfl,rfl⟩,trivial⟩ rfl hui hri ?_
    intro a' w' us cur' hg hsz hdf hrun hh hres hrep' _;have hus:=ja hrun;subst hus;obtain⟨t4,ds⟩:=a';have hds:ds=[]:=hdf;subst hds;have t10':t4.getD 10 undef=.pointer (some ⟨bn,0,none⟩):=hres.1.1.1;have t47':t4.getD 47 undef=(.slice (some ⟨g,0,none⟩) m cap):=hres.2.1.1;have t48':t4.getD 48 undef=.int .i64 m:=hres.2.2.1.1;have t49':t4.getD 49 undef=.int .i64 i:=hres.2.2.2.1.1;have hsz':t4.size=69:=hsz;have hbnbi:bn≠bi:=fun e=>hbnM (by rw[e];exact .inl (.inr hbm));have hbn4:=(hg.block bn (cf.1 K.hbn).1 (fun e=>hbnbi (by simpa using e))).trans K.hbn
    have hbas:=bn3 (C':=fun l=>if l<i+1 then jv q m lead aB st N l else jv q m lead aB st st l) K.bas hbi hg hh (by rw[aI (FP i)];exact hrep') (fun l hl=>by
     show(if l<i+1 then jv q m lead aB st N l else jv q m lead aB st st l)=if l<i then jv q m lead aB st N l else jv q m lead aB st st l
     rcases bG l i with h | h
     .rw[aI h,aI O]
     .rw[aD O,aD O])
    show K5 _ _;refine hK5 _ _ ?_;rw[kw (t:=t4) hsz',t10',t47',t48',t49']
    go_wp2
    exact⟨m-(i+1),O,i+1,rfl,hi,⟨rfl,rfl,K.tu.grown hg hbm,hbn4,hbas,rfl,rfl,rfl,rfl⟩⟩
   .have cn:W.cell? ⟨bn,0,none⟩=some (.int .i64 N):=aH K.hbn rfl
    go_wp2
    simp[bodyPost,results,show f226.results=#[.tmp 8]from rfl,go_sem];exact⟨K.tu,K.bas.congr fun l hl=>(aI O).symm⟩
  .obtain rfl:out=none:=by
    cases hout:out with
    | none=>rfl
    | some N=>
      have h1:=hnN N hout;have h2:=(L.some N hout).2;omega
   exact⟨rfl,rfl,hw.trans ((J.bel.trans (hb2.mono J.bel.size)).mono hw.size)⟩
end Go.Sy
