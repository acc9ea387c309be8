/- Part. -/
import Derived.Test.YtacgmapjhpghkaaGreatDoorQa
set_option linter.all false
namespace Go.Sy
open Go Go.Proofs Tryz Ord
def aO2:Tr:=aX 79 [(W 0 0),(G3 2)] [(some 3)] [7,8] [98,46] 46 false (aX 79 [(W 1 0),(G3 2)] [(some 3)] [10,11] [98,46] 46 false (aX 67 [(G3 3),(G3 4)] [none] [9,12] [46,46] 3 true (bD .eql 3 13 0 5 0 4 (.ret [(W 6 0)]))))
theorem Yg:aV prog f183 (fun _=>none) [.v none, .v none, .v (some 3)]=aO2:=by kernel_rfl
def aX7:Tr:=eI 0 0 3 0 28 26 27 (dF 11 0 (some 3) 46 28 (.need (.callv (.u 1 0) [(W 8 0),(W 10 0),(.agg [(U 12 0),(U 12 1),(U 12 2)])] [none]) (.call ⟨.value (tT 13),#[(tT 19),(tT 24),(tT 29)],#[98,98,46]⟩) 4 true (.need (.prim [(W 13 0)] none) (.unOp .not 4 (tT 30)) 4 false (.split (.u 14 0) (.ret [(tF false)]) (bD .add 3 11 1 3 0 3 (.back 0 [lV 2 0,lV 15 0]))))))
def bm3:Tr:=cN .lss 3 6 9 3 0 4 0 4 (.split (.u 5 0) (bD .sub 3 16 1 3 0 3 (eI 0 1 6 0 29 15 17 (dF 7 0 none 98 18 (eI 0 1 3 0 29 21 22 (dF 9 0 none 98 23 aX7))))) (.ret [(tF true)]))
def bk0:Tr:=.loop 0 [(.w (.one (.c (.k (.bool false))))),lK 1] (dD 0 1 8 29 bm3)
theorem KR:aV prog f182 (fun _=>none) [.v (some 2), .v none]=bk0:=by kernel_rfl
def ad8:Tr:=.ret [(W 8 0)]
def aZ5:Tr:=.split (.u 5 0) (.need (.call 182 [(.agg [(U 3 0),(U 4 0)]),(.one (.eZ 183 []))] [none]) (.call ⟨.value (.func 182),#[(tT 7),(.func 183)],#[31,224]⟩) 4 true (.need (.prim [(W 6 0)] none) (.unOp .not 4 (tT 8)) 4 false (.split (.u 7 0) (bD .sub 3 10 1 2 0 3 ad8) (aX 80 [(.agg [(U 3 0),(U 4 0)])] [(some 2)] [12] [31] 31 true (bD .add 3 4 1 2 0 3 (.back 0 [lV 1 0,lV 9 0,lV 8 0,lV 8 1])))))) (.ret [(WK 40)])
def bk9:Tr:=.loop 0 [lK 0,lK 0,lV 0 0,lV 0 1] (bD .lss 3 4 41 2 0 4 aZ5)
theorem YY:aV prog f87 (fun _=>none) [.v (some 2)]=bk9:=by kernel_rfl
def aN4:Tr:=aX 22 [(G2 0)] [none] [5] [31] 54 true (bD .neq 54 7 0 1 0 4 (.split (.u 2 0) (.ret [(WK 0),(W 1 0)]) (aX 87 [(G2 0)] [none] [10] [31] 3 true (.ret [(W 3 0),(WK 0)]))))
theorem af8:aV prog f19 (fun _=>none) [.v (some 2)]=aN4:=by kernel_rfl
def TS (A:Nat) (ps:List (List Rat)):Prop:=∀ p∈ps,p.length<=100/\∀ a∈p,Fit A a
theorem TS.dv {A:Nat} {ps:List (List Rat)} (hA:1<=A) (h:TS A ps):TS (A+12) (qJ ps):=fun p hp=>by
 obtain ⟨q,hq,rfl⟩:=eH.1 hp;have h1:=h q hq;have h2:=sX q;exact ⟨by omega,BV hA h1.2 (by omega)⟩
theorem rL {ps:List (List Rat)} {i:Nat} (h:i<ps.length:=by omega):ps.getD i []∈ps:=by
 rw [gO,bZ h];exact List.getElem_mem h
theorem BH {ps:List (List Rat)} {i:Nat} (h:i<ps.length):ps[i]? = some (ps.getD i []):=by
 rw [gO,bZ h];rfl
def pZ (l r:List Rat) (x:Rat):Bool:=decide (iR l x=iR r x)
def WN (c:List Rat->List Rat->Rat->Bool) (ks:List Rat) (ps:List (List Rat)):Bool:=(List.range (ps.length-1)).all fun j=>c (ps.getD j []) (ps.getD (j+1) []) (ks.getD (j+1) 0)
theorem Tp {c:List Rat->List Rat->Rat->Bool} {ks:List Rat} {ps:List (List Rat)} (h:∀ j,j+1<ps.length->c (ps.getD j []) (ps.getD (j+1) []) (ks.getD (j+1) 0)=true):WN c ks ps=true:=by
 rw [WN,List.all_eq_true];intro j hj;exact h j (by have:=List.mem_range.1 hj;omega)
theorem Yv {c:List Rat->List Rat->Rat->Bool} {ks:List Rat} {ps:List (List Rat)} (j:Nat) (h:c (ps.getD j []) (ps.getD (j+1) []) (ks.getD (j+1) 0)=false) (hj:j+1<ps.length:=by omega):WN c ks ps=false:=by
 cases hr:WN c ks ps with
 | false=>rfl
 | true=>
   rw [WN,List.all_eq_true] at hr;rw [hr j (List.mem_range.2 (by omega))] at h;cases h
theorem JV (ks:List Rat) (ps:List (List Rat)) (g:Nat) (c:List Rat->List Rat->Rat->Bool) (hl2:ks.length<1099511627776) (hg:∀ i,i+1<ps.length->aQ prog g [.one (sQ (ps.getD i [])), .one (sQ (ps.getD (i+1) [])),qT (ks.getD (i+1) 0)] (.ret [.one (.bool (c (ps.getD i []) (ps.getD (i+1) []) (ks.getD (i+1) 0)))])) (hl:ps.length<=ks.length:=by omega):aQ prog 182 [(.agg [sQ ks,eQ ps]:aJ),(.one (.eZ g []):aJ)] (.ret [.one (.bool (WN c ks ps))]):=by
 refine eF func182 KR ?_;refine bV {i:Nat // i<=ps.length-1/\∀ j,j<i->c (ps.getD j []) (ps.getD (j+1) []) (ks.getD (j+1) 0)=true} (fun g=>[.one (.bool false), .one (.int .i64 ((g.1:Int)+1))]) (fun g=>ps.length-1-g.1) ⟨0,cX _,fun j hj=>absurd hj (by omega)⟩ aW.rfl (fun _=>rfl) ?_;rintro ⟨i,hi,hb⟩;dsimp only [aF,aG] at hi hb ⊢;apply vn (aO pX (aL _)) rfl;apply vn bL rfl;refine vs _ rfl ?_ ?_<;>intro h3
 .apply vn (aE (by omega) (by omega)) rfl;dsimp only [aF,aG];apply vn (aI pX (m:=i) (by omega) (by omega) (BH (show i<ps.length by omega))) rfl;apply vn (cD PK) rfl;dsimp only [aF,aG];apply vn (aI pX (m:=i+1) (by omega) (by omega) (BH (show i+1<ps.length by omega))) rfl;apply vn (cD PK) rfl;dsimp only [aF,aG];apply vn (aI aZ (m:=i+1) (by omega) (by omega) (aH (show i+1<ks.length by omega))) rfl;apply vn (aM bU (by decide) (by simp) (.inl rfl)) rfl;apply pO (f:=g) (caps:=[]) rfl (hg i (by omega)) rfl;apply vn fO rfl;dsimp only [aF,aG];refine nY (!c (ps.getD i []) (ps.getD (i+1) []) (ks.getD (i+1) 0)) rfl (fun h13=>?_) (fun h13=>?_)
  .rw [Yv i (by simpa using h13)];exact aK rfl
  apply vn (aC (by omega) (by omega)) rfl
  exact bB rfl ⟨⟨i+1,by omega,fun j hj=>by
   rcases Nat.lt_or_ge j i with h | h
   .exact hb j h
   .obtain rfl:j=i:=by omega
    simpa using h13⟩,aW.rfl,by show ps.length-1-(i+1)<ps.length-1-i;omega⟩
 rw [Tp fun j hj=>hb j (by omega)];exact aK rfl
def Kv (ps:List (List Rat)):Nat->List (List Rat)
 | 0=>ps
 | c+1=>qJ (Kv ps c)
def nV (ks:List Rat) (ps:List (List Rat)):Nat->Nat->Int
 | 0,_=>40
 | f+1,c=>if WN pZ ks (Kv ps c) then nV ks ps f (c+1) else (c:Int)-1
theorem WS (ps:List (List Rat)):∀ c,(Kv ps c).length=ps.length
 | 0=>rfl
 | c+1=>by rw [Kv,aL,WS ps c]
open Go Go.Proofs Tryz Ord
theorem TS.r {A:Nat} {pr:List (List RQ)} (h:TS A (eqR pr)) {p:List RQ} (hp:p∈pr):p.length<=100/\∀ a∈p,Fit A a.q:=by
 have h1:=h (p.map RQ.q) (List.mem_map_of_mem hp);rw [aL] at h1;exact ⟨h1.1,fun a ha=>h1.2 _ (List.mem_map_of_mem ha)⟩
open Go Go.Proofs Go.RowKit Go.Shelf Tryz Ord
attribute [local go_sem] Oper.semAt_some
section
variable (M:Nat->Prop) (w:World) (Pq:Rat->Prop)
structure PV where
 q:Rat
 u0:Value
 u1:Value
 u2:Value
 ok:Pq q
 rep:bA M w (qC q) [u0,u1,u2]
end
theorem aT0 {M:Nat->Prop} {w:World} {Pq:Rat->Prop} {v:Value} {ps:List Rat} (h:(sQ ps).rep M w v) (hp:∀ q∈ps,Pq q) :
  ∃ (ts:List (PV M w Pq)) (a:Option Addr) (cap:Nat),v = .slice a ts.length cap/\ts.map PV.q=ps/\Sl3 PV.u0 PV.u1 PV.u2 w.heap.size w v ts:=by
 obtain ⟨a,cap,rfl,hc,hm,hel⟩:=h;have hlen:(rQ ps).length=ps.length:=aL _;rcases hel with h | ⟨b,off,cs,T,fz,rfl,hb,hh,hr⟩
 .have:ps = []:=by cases ps<;>simp_all [rQ]
  subst this;exact ⟨[],a,cap,rfl,rfl,a,cap,rfl, .inl rfl⟩
 .obtain ⟨ts,h1,h2⟩:=mX (fun i (x:PV M w Pq)=>ps[i]? = some x.q/\w.cell? ⟨b,off+i*3,none⟩=some x.u0/\w.cell? ⟨b,off+i*3+1,none⟩=some x.u1/\w.cell? ⟨b,off+i*3+2,none⟩=some x.u2) ps.length fun i hi=>by
   obtain ⟨q,hq⟩:∃ q,ps[i]? = some q:=⟨_,bZ hi⟩
   obtain ⟨_,hrep⟩:=hr i (qC q) (by rw [rQ,dK,hq];rfl)
   have hat:∀ j,j<3->((cs.toList.drop (off+i*3)).take 3)[j]? = cs[off+i*3+j]?:=fun j hj=>by
    rw [List.getElem?_take,if_pos hj,List.getElem?_drop];simp
   have hl:=hrep.length;generalize hus:(cs.toList.drop (off+i*3)).take 3=us at hrep hl hat
   match us,hrep with
   | [x0,x1,x2],hrep=>
     refine ⟨⟨q,x0,x1,x2,hp q (fU hq),hrep⟩,hq,?_,?_,?_⟩
     .have h0:=hat 0 (by omega);rw [Nat.add_zero] at h0;exact bP hh (by rw [<-h0];rfl)
     .exact bP hh (by rw [<-hat 1 (by omega)];rfl)
     .exact bP hh (by rw [<-hat 2 (by omega)];rfl)
   | [],hrep=>exact hrep.elim
   | [_],hrep=>exact hrep.2.elim
   | [_,_],hrep=>exact hrep.2.2.elim
   | _::_::_::_::_,hrep=>exact hrep.2.2.2.elim
  refine ⟨ts,_,cap,by rw [hlen,h1],?_,_,cap,by rw [hlen,h1], .inr ⟨b,off,rfl,(cL.1 hh).1,fun j v hj=>(h2 j v hj).2⟩⟩;refine List.ext_getElem? fun i=>?_;rw [dK];cases hi:ts[i]? with
  | none=>
    have:=List.getElem?_eq_none_iff.1 hi;rw [List.getElem?_eq_none_iff.2 (by omega)];rfl
  | some x=>rw [(h2 i x hi).1];rfl
def hP {M:Nat->Prop} {w:World} {Pq:Rat->Prop} (f:List Rat->Rat->List Rat) (pre:List (Nat×PV M w Pq)):List Rat:=pre.foldl (fun v c=>f v c.2.q) []
theorem aF0 {M:Nat->Prop} {w:World} {Pq:Rat->Prop} (f:List Rat->Rat->List Rat) (pre:List (Nat×PV M w Pq)) (y:Nat×PV M w Pq):hP f (pre ++ [y])=f (hP f pre) y.2.q:=by simp [hP]
theorem aT5 {M:Nat->Prop} {w:World} {Pq:Rat->Prop} {f:List Rat->Rat->List Rat} {Inv:Nat->List Rat->Prop} (h0:Inv 0 []) (hs:∀ k v c,Inv k v->Pq c->Inv (k+1) (f v c)) (pre:List (Nat×PV M w Pq)):Inv pre.length (hP f pre):=by
 have key:∀ (l:List (Nat×PV M w Pq)) (k:Nat) (v:List Rat),Inv k v->Inv (k+l.length) (l.foldl (fun v c=>f v c.2.q) v):=by
  intro l
  induction l with
  | nil=>intro k v h;exact h
  | cons y l ih=>
    intro k v h;have:=ih (k+1) (f v y.2.q) (hs k v _ h y.2.ok);rw [List.length_cons,show k+(l.length+1)=k+1+l.length by omega];exact this
 have:=key pre 0 [] h0
 rwa [Nat.zero_add] at this
theorem Bz {M:Nat->Prop} {w:World} {c:aD} {vs:List Value} (h:cC M w [.one c] vs):∃ v,pack vs=v/\c.rep M w v:=by
 match vs,h with
 | [v],h=>exact ⟨v,rfl,h.1⟩
 | [],h=>exact h.elim
 | _::_::_,h=>exact h.2.elim
set_option maxRecDepth 100000 in
set_option maxHeartbeats 1000000 in
theorem TR (M:Nat->Prop) (w:World) (Pq:Rat->Prop) (f:List Rat->Rat->List Rat) (Inv:Nat->List Rat->Prop) (g:FuncId) (caps:List aD) (h0:Inv 0 []) (hinv:∀ k v c,Inv k v->Pq c->Inv (k+1) (f v c))
  (hM:cH M w) [Inhabited (PV M w Pq)] (a:Option Addr) (cap:Nat) (ts:List (PV M w Pq))
  (hstep:∀ k v c,k<ts.length->Inv k v->Pq c->aQ prog g (.one (sQ v)::qT c::caps.map .one) (.ret [.one (sQ (f v c))]))
  (hI:Sl3 PV.u0 PV.u1 PV.u2 w.heap.size w (.slice a ts.length cap) ts) (z:Value) (hz:(sQ []).rep M w z) (cvs:List Value) (hcv:bA M w caps cvs) (hlen:ts.length<4611686018427387904:=by omega) :
  CallsIn Fence.wide 1001 prog 249 #[.slice a ts.length cap,z, .func (.func g) #[] cvs.toArray] w fun e W'=>Below w.heap.size w W'/\∃ u,e = .returned u/\(sQ (hP f (bk ts ts.length))).rep M W' u:=by
 refine callsIn_of_wp_marks func249 rfl trivial ?_ rfl;simp only [ntmps249,List.size_toArray,List.length_cons,List.length_nil,Nat.reduceAdd,Nat.reduceSub,Array.replicate_succ,Array.replicate_zero,List.push_toArray,List.append_toArray,List.nil_append,List.cons_append];generalize hL:ts.length=L at hI hlen hstep ⊢;obtain ⟨za,zl,zc,rfl⟩:∃ za zl zc,z = .slice za zl zc:=by obtain ⟨za,zc,e,_⟩:=hz;exact ⟨_,_,_,e⟩
 gi_wp2_with (refine ⟨trivial,?_⟩;gi_at_call 224;refine (TC _ _ _ _ _).mono ?_;rintro e w' ⟨rfl,rfl⟩)
 obtain ⟨n0,hn0⟩:∃ n0,w.heap.size=n0:=⟨_,rfl⟩
 obtain ⟨hM,hMg⟩:=hM;rw [hn0] at hI hM ⊢;obtain ⟨W0,hW0⟩:∃ W0,(((w.alloc (.cells #[.slice za zl zc] 98)).alloc (.cells #[.func (.func g) #[] cvs.toArray] 258)).alloc (.cells #[.slice a L cap] 98))=W0:=⟨_,rfl⟩
 have hs0:W0.heap.size=n0+3:=by rw [<-hW0];simp [hn0]
 have hX0:W0.heap[n0]? = some (.cells #[.slice za zl zc] 98 (0,0)):=by rw [<-hW0,heap_alloc_old _ _ _ (by simp;omega),heap_alloc_old _ _ _ (by simp;omega),<-hn0];exact heap_alloc_new w _
 have hS0:W0.heap[n0+1]? = some (.cells #[.func (.func g) #[] cvs.toArray] 258 (0,0)):=by
  rw [<-hW0,heap_alloc_old _ _ _ (by simp;omega)];have:=heap_alloc_new (w.alloc (.cells #[.slice za zl zc] 98)) (.cells #[.func (.func g) #[] cvs.toArray] 258);rw [World.size_alloc,hn0] at this;exact this
 have hP0:W0.heap[n0+2]? = some (.cells #[.slice a L cap] 98 (0,0)):=by
  rw [<-hW0];have:=heap_alloc_new ((w.alloc (.cells #[.slice za zl zc] 98)).alloc (.cells #[.func (.func g) #[] cvs.toArray] 258)) (.cells #[.slice a L cap] 98);rw [World.size_alloc,World.size_alloc,hn0] at this;exact this
 have hB0:Below n0 w W0:=by
  rw [<-hW0];exact (((Below.refl _ w).alloc (by omega) _).alloc (by simp;omega) _).alloc (by simp;omega) _
 rw [hW0]
 refine wpIn_rangeFunc_ownH (w0:=W0) rfl (by omega) (gf:=246) (lb:=#[.pointer (some ⟨n0+1+1,0,none⟩)]) rfl trivial (enters_of func246 (by kernel_rfl) rfl)
  (AH (e0:=PV.u0) (e1:=PV.u1) (e2:=PV.u2) (n0+2) n0 (.slice a L cap) ts (by omega) W0 (by omega) (by omega) (bP hP0 rfl) (hI.below hB0)) Wn (Wx (by omega) (by omega)) (Below.refl _ _) (fun _=>rfl)
  (fun pre W=>Below n0 w W/\n0+3<=W.heap.size/\W.heap[n0+1]? = some (.cells #[.func (.func g) #[] cvs.toArray] 258 (0,0)) /\
   ∃ ua ul uc,W.heap[n0]? = some (.cells #[.slice ua ul uc] 98 (0,0))/\(sQ (hP f pre)).rep (fun b=>M b\/b=n0) W (.slice ua ul uc))
  (fun _ _ _=>False) ?own (fun _=>by intro s A B row hs;exact hs.elim) ?start
  (fun y a' W=>∃ b,n0+3<=b/\a' = { tmps:=#[.slice a L cap, .slice za zl zc, .func (.func g) #[] cvs.toArray,undef, .pointer (some ⟨n0,0,none⟩), .pointer (some ⟨n0+1,0,none⟩), .slice none 0 0,undef, .pointer (some ⟨b,0,none⟩), .slice a L cap, .func (.func 246) #[] #[.pointer (some ⟨n0+1+1,0,none⟩)], .int .i64 (y.1:Int), .agg #[y.2.u0,y.2.u1,y.2.u2],undef,undef,undef,undef,undef],defers:=[] } /\ W.heap[b]? = some (.cells #[y.2.u0,y.2.u1,y.2.u2] 46 (0,0)))
  ?ax ?assign ?body ?done ?stop
 case own=>
  rintro s A A' row ⟨h1,h2,h3,ua,ul,uc,h5,h6⟩ hg hr;have hr':∀ r,row=some r->∃ o:Obj,A.heap[r]? = some o/\o.isCells=false:=fun r e=>(hr r e).2;refine ⟨h1.grown hg (by omega) (fun k e=>by have:=(hr k e).1;omega),Nat.le_trans h2 hg.size,eP hg hr' h3 rfl,ua,ul,uc,eP hg hr' h5 rfl,aD.mono _ (fun b o hb ho hc=>⟨hb,eP hg hr' ho hc⟩) h6⟩
 case start=>
  refine ⟨hB0,by omega,hS0,za,zl,zc,hX0,aD.mono _ (fun b o hb ho hc=>?_) hz⟩;have hlt:=(cL.1 ho).1;exact ⟨fun h=>h.elim hb (by omega),(hB0.block b (by omega)).trans ho⟩
 case ax=>
  rintro y a' _ A A' row ⟨b,h1,h2,h3⟩ hg hr;exact ⟨b,h1,h2,eP hg (fun r e=>(hr r e).2) h3 rfl⟩
 case assign=>
  rintro l pre y W K ⟨h1,h2,h3,ua,ul,uc,h5,h6⟩ hK
  gi_wp2
  obtain ⟨o0,o1,o2⟩:y.2.u0.oneCell'=true/\y.2.u1.oneCell'=true/\y.2.u2.oneCell'=true:=by
   have:=y.2.rep.one;exact ⟨this _ (by simp),this _ (by simp),this _ (by simp)⟩
  have hnew:=heap_alloc_new W (.cells #[.slice none 0 0, .bool false, .slice none 0 0] 46);rw [Dy hnew o0 o1 o2];obtain ⟨W',hW'⟩:∃ W',(W.alloc (.cells #[.slice none 0 0, .bool false, .slice none 0 0] 46)).setRow W.heap.size #[y.2.u0,y.2.u1,y.2.u2]=W':=⟨_,rfl⟩
  have hold:∀ k,k<W.heap.size->W'.heap[k]? = W.heap[k]?:=fun k hk=>by rw [<-hW',setRow_other _ _ _ _ (by omega),heap_alloc_old _ _ _ hk]
  have hself:W'.heap[W.heap.size]? = some (.cells #[y.2.u0,y.2.u1,y.2.u2] 46 (0,0)):=by rw [<-hW'];exact setRow_heap _ _ _ _ _ _ hnew
  have hbel:Below W.heap.size W W':=by rw [<-hW'];exact below_setRow ((Below.refl _ W).alloc (aY _) _) (aY _) _
  have hlt:∀ {k:Nat} {o:Obj},W.heap[k]? = some o->k<W.heap.size:=fun h=>(cL.1 h).1;rw [hW']
  gi_wp2
  refine hK _ _ ⟨hbel.size,fun k o _ ho _=>(hold k (hlt ho)).trans ho⟩ ⟨hbel.mono (by omega),fun v hv=>?_⟩
   ⟨h1.trans (hbel.mono (by omega)),Nat.le_trans h2 hbel.size,(hold _ (hlt h3)).trans h3,ua,ul,uc,(hold _ (hlt h5)).trans h5,aD.mono _ (fun b o hb ho _=>⟨hb,(hold b (hlt ho)).trans ho⟩) h6⟩
   ⟨W.heap.size,by omega,rfl,hself⟩
  simp only [World.cell?,hold (n0+2) (by omega)] at hv ⊢;exact hv
 case body=>
  rintro l pre y a' W hl _ ⟨h1,h2,h3,ua,ul,uc,h5,h6⟩ ⟨b,hb,rfl,hbc⟩ hlt;have hltW:∀ {k:Nat} {o:Obj},W.heap[k]? = some o->k<W.heap.size:=fun h=>(cL.1 h).1;have c0:W.cell? ⟨n0,0,none⟩=some (.slice ua ul uc):=bP h5 rfl;have cs:W.cell? ⟨n0+1,0,none⟩=some (.func (.func g) #[] cvs.toArray):=bP h3 rfl;have cb0:W.cell? ⟨b,0,none⟩=some y.2.u0:=bP hbc rfl;have cb1:W.cell? ⟨b,1,none⟩=some y.2.u1:=bP hbc rfl;have cb2:W.cell? ⟨b,2,none⟩=some y.2.u2:=bP hbc rfl;have hM1:∀ k,(M k\/k=n0)->k<W.heap.size:=fun k h=>h.elim (fun h=>by have:=hM k h;omega) (fun h=>by omega)
  have hkeep:bI M w (fun b=>M b\/b=n0) W:=fun k o hk ho _=>by
   have hlt:=(cL.1 ho).1;exact ⟨fun h=>h.elim hk (by omega),(h1.block k (by omega)).trans ho⟩
  rw [hL] at hlt;have hdo:=hstep pre.length (hP f pre) y.2.q hlt (aT5 h0 hinv pre) y.2.ok
  have hcall:Calls prog g (Value.slice ua ul uc::Value.agg #[y.2.u0,y.2.u1,y.2.u2]::cvs).toArray W fun e w'=>Below W.heap.size W w'/\∃ va vl vc,e = .returned (.slice va vl vc)/\(sQ (hP f (pre ++ [y]))).rep (fun b=>M b\/b=n0) w' (.slice va vl vc):=by
   have h7:=hdo.2 (fun b=>M b\/b=n0) W (.slice ua ul uc :: .agg #[y.2.u0,y.2.u1,y.2.u2]::cvs) ⟨hM1,hMg.eC hkeep⟩ ⟨h6,⟨[_,_,_],rfl,y.2.rep.mono hkeep⟩,cC.yB (hcv.mono hkeep)⟩;refine h7.mono ?_;rintro e w' ⟨hb',vs,rfl,hvs⟩;rw [aF0];obtain ⟨v,e1,hr⟩:=Bz hvs;have hr':=hr;obtain ⟨va,vc,rfl,_⟩:=hr';exact ⟨hb',va,_,vc,by rw [e1],hr⟩
  have eg:∀ args w,(callFunc g args).run prog w = .ok (.enter g args) w:=hdo.1
  gi_wp2
  refine ⟨trivial,(CallsIn.inRound l (callsIn_wide.2 hcall)).mono ?_⟩;rintro e w' ⟨hbw,va,vl,vc,rfl,hvr⟩;have hbox:w'.heap[n0]? = some (.cells #[.slice ua ul uc] 98 (0,0)):=(hbw.block n0 (hltW h5)).trans h5;have d0:w'.cell? ⟨n0,0,none⟩=some (.slice ua ul uc):=bP hbox rfl;have df:w'.frozen? ⟨n0,0,none⟩=false:=by simp [World.frozen?,hbox]
  gi_wp2
  rw [setCell_eq_setRow w' n0 0 #[.slice ua ul uc] 98 (0,0) (.slice va vl vc) hbox];obtain ⟨W3,hW3⟩:∃ W3,w'.setRow n0 (#[Value.slice ua ul uc].setIfInBounds 0 (.slice va vl vc))=W3:=⟨_,rfl⟩
  have hself:W3.heap[n0]? = some (.cells #[.slice va vl vc] 98 (0,0)):=by rw [<-hW3];exact setRow_heap _ _ _ _ _ _ hbox
  have hoth:∀ k,k≠n0->W3.heap[k]? = w'.heap[k]?:=fun k hk=>by rw [<-hW3,setRow_other _ _ _ _ hk]
  have hold:∀ {k:Nat} {o:Obj},k≠n0->W.heap[k]? = some o->W3.heap[k]? = some o:=fun hk ho=>(hoth _ hk).trans ((hbw.block _ (hltW ho)).trans ho);have hbel:Below n0 W W3:=by rw [<-hW3];exact below_setRow (hbw.mono (by omega)) (aY _) _
  rw [hW3];refine ⟨⟨hbel.size,fun k o hk ho _=>hold (by omega) ho⟩,⟨hbel,fun v hv=>?_⟩,h1.trans hbel,Nat.le_trans h2 hbel.size,hold (by omega) h3,va,vl,vc,hself,aD.mono _ (fun k o hk ho hc=>⟨hk,(hoth k fun e=>hk (.inr e)).trans ho⟩) hvr⟩;simp only [World.cell?,hoth (n0+2) (by omega),hbw.block (n0+2) (by omega)] at hv ⊢;exact hv
 case done=>
  rintro D ys W hD rfl ⟨h1,h2,h3,ua,ul,uc,h5,h6⟩ hK;have c0:W.cell? ⟨n0,0,none⟩=some (.slice ua ul uc):=bP h5 rfl
  gi_wp2
  refine ⟨by simp, .inl ⟨_,_,rfl,run_takeDeferred hK,?_⟩⟩;refine ⟨_,results_tmp rfl _ _ _,?_,⟨_,rfl,by rw [<-hL];exact aD.mono _ (fun k o hk ho hc=>⟨fun h=>hk (.inl h),(World.putObj_heap_other (fun e=>by rw [e,hK] at ho;cases ho;cases hc)).trans ho⟩) h6⟩⟩;rw [<-hn0] at h1;exact h1.trans (belowK_b (w:=w) (aY _) W D _ _ (by omega) hK rfl rfl)
 case stop=>
  rintro D c pre W hD _ h hK;exact h.elim
theorem bq6 {M:Nat->Prop} {w:World} {Pq:Rat->Prop} [Inhabited (PV M w Pq)] (f:List Rat->Rat->List Rat) (ts:List (PV M w Pq)):hP f (bk ts ts.length)=(ts.map PV.q).foldr (fun c v=>f v c) []:=by
 have h:hP f (bk ts ts.length)=((bk ts ts.length).map Prod.snd).foldl (fun v c=>f v c.q) []:=by rw [hP,List.foldl_map]
 rw [h,Zl,List.foldl_reverse,List.foldr_map]
theorem VB (ps:List Rat) (Pq:Rat->Prop) (f:List Rat->Rat->List Rat) (Inv:Nat->List Rat->Prop) (g:FuncId) (caps:List aD) (h0:Inv 0 []) (hinv:∀ k v c,Inv k v->Pq c->Inv (k+1) (f v c))
  (hp:∀ q∈ps,Pq q) (hz:Pq 0) (hlen:ps.length<4611686018427387904)
  (hstep:∀ k v c,k<ps.length->Inv k v->Pq c->aQ prog g (.one (sQ v)::qT c::caps.map .one) (.ret [.one (sQ (f v c))])) :
  aQ prog 249 [.one (sQ ps), .one (sQ []), .one (.eZ g caps)] (.ret [.one (sQ (ps.foldr (fun c v=>f v c) []))]):=by
 refine ⟨bK (by kernel_rfl),fun M w vs hM hv=>?_⟩
 match vs,hv with
 | [v0,v1,v2],⟨k0,k1,⟨fs,k2,hfs⟩,_⟩=>
   obtain ⟨ts,a,cap,rfl,hq,hsl⟩:=aT0 k0 hp
   haveI:Inhabited (PV M w Pq):=⟨⟨0, .slice none 0 0, .bool false, .slice none 0 0,hz,bA.sub kY ⟨⟨rfl,rfl⟩,⟨rfl,rfl⟩,⟨rfl,rfl⟩,trivial⟩⟩⟩
   subst k2;have hl:ps.length=ts.length:=by rw [<-hq,aL]
   have h1:=TR M w Pq f Inv g caps h0 hinv hM a cap ts (by rw [<-hl];exact hstep) hsl v1 k1 fs hfs;rw [bq6,hq] at h1;refine ((callsIn_wide (n:=1001)).1 h1).mono ?_;rintro e w' ⟨hb,u,rfl,hr⟩;exact ⟨hb,[u],rfl,hr,trivial⟩
 | [],hv=>exact hv.elim
 | [_],hv=>exact hv.2.elim
 | [_,_],hv=>exact hv.2.2.elim
 | _::_::_::_::_,hv=>exact hv.2.2.2.elim
end Go.Sy
namespace Go.Sy
open Go Go.Proofs Tryz Ord
theorem nP (x:Rat):∀ p:List Rat,ev (trim p) x=ev p x
 | []=>rfl
 | a::p=>by
   have ih:=nP x p;unfold trim at ih ⊢;rw [sH];split
   .rename_i h;rw [h.1,List.take_zero,dY] at ih;have ha:a=0:=by simpa [zr] using h.2
    rw [List.take_zero,dY,bM,<-ih,ha];grind
   .rw [List.take_succ_cons,bM,bM,ih]
theorem kM:∀ p:List Rat,oL (trim p)
 | []=>fun a h=>by cases h
 | a::p=>by
   have ih:=kM p;unfold trim at ih ⊢;rw [sH];split
   .intro b hb;cases hb
   .rename_i h;intro b hb;rw [List.take_succ_cons,List.getLast?_cons] at hb;cases hl:(p.take (sH zr p)).getLast? with
    | some c=>
      rw [hl] at hb;simp only [Option.getD_some,aR] at hb;subst hb;exact ih c hl
    | none=>
      rw [hl] at hb;simp only [Option.getD_none,aR] at hb;subst hb;intro e;refine h ⟨?_,by simp [zr,e]⟩;have h1:=List.getLast?_eq_none_iff.1 hl;have h2:min (sH zr p) p.length=0:=by rw [<-List.length_take,h1];rfl
      have:=kR (z:=zr) p;omega
theorem wL (x:Rat):∀ (p:List Rat) (m:Nat),p.length<=m->ev ((List.range m).map fun i=>p.getD i 0) x=ev p x
 | [],m,_=>by
   have:(List.range m).map (fun i=>([]:List Rat).getD i 0)=List.replicate m 0:=by
    apply List.ext_getElem?;intro i;rw [dK,List.getElem?_replicate];by_cases h:i<m
    .rw [List.getElem?_range h,if_pos h];rfl
    .rw [if_neg h,List.getElem?_eq_none (by simpa using h)];rfl
   rw [this,Zx,dY]
 | a::p,0,h=>by simp at h
 | a::p,m+1,h=>by
   rw [List.range_succ_eq_map,List.map_cons,bM,List.map_map,bM];have:=wL x p m (by simpa using h);rw [<-this];rfl
theorem am0 (x:Rat) (f g:Nat->Rat):∀ l:List Nat,ev (l.map fun i=>f i+g i) x=ev (l.map f) x+ev (l.map g) x
 | []=>by simp only [List.map_nil,dY];grind
 | a::l=>by rw [List.map_cons,List.map_cons,List.map_cons,bM,bM,bM,am0 x f g l];grind
theorem VG (x:Rat) (p q:List Rat):ev (vB p q) x=ev p x+ev q x:=by
 rw [vB,nP,am0,wL x p _ (Nat.le_max_left _ _),wL x q _ (Nat.le_max_right _ _)]
theorem Om (x:Rat) (p q:List Rat):ev (iM p q) x=ev p x*ev q x:=by
 unfold iM;split
 .rename_i h;rcases h with rfl | rfl
  .rw [dY];grind
  .rw [dY];grind
 .rename_i h;have hq:0<q.length:=List.length_pos_iff.2 fun e=>h (.inr e);rw [nP,Wl p q x hq _ (aY _),List.take_length]
theorem FW (p q:List Rat):oL (vB p q):=kM _
theorem Ge (p q:List Rat):oL (iM p q):=by
 unfold iM;split
 .intro a h;cases h
 .exact kM _
theorem oD {p:List Rat} {a:Rat} (h:a∈trim p):a∈p:=List.mem_of_mem_take h
theorem fR (p:List Rat):(trim p).length<=p.length:=by rw [iA];exact kR _
theorem Sa (p q:List Rat):(vB p q).length<=max p.length q.length:=by
 have:=fR ((List.range (max p.length q.length)).map fun i=>p.getD i 0+q.getD i 0);rw [aL,nZ] at this;exact this
theorem az0 {D S T:Nat} (h0:D≠0) {p q:List Rat} (hp:∀ a∈p,Bd D S a) (hq:∀ a∈q,Bd D T a):∀ a∈vB p q,Bd D (S+T) a:=fun a ha=>by
 obtain ⟨i,_,rfl⟩:=eH.1 (oD ha);exact (lH hp i).add h0 (lH hq i)
theorem Ax (p q:List Rat):(iM p q).length<=if p = [] then 0 else p.length+q.length-1:=by
 unfold iM;split
 .simp
 .rename_i h;rw [if_neg (fun e=>h (.inl e))];have:=fR (mulL p q p.length);rw [gQ] at this;exact this
theorem Wa {D E S T:Nat} (h0:D≠0) (h1:E≠0) {p q:List Rat} (hp:∀ a∈p,Bd D S a) (hq:∀ b∈q,Bd E T b):∀ x∈iM p q,Bd (D*E) (p.length*(S*T)) x:=fun x hx=>by
 unfold iM at hx;split at hx
 .cases hx
 .exact xB h0 h1 hp hq _ x (oD hx)
def Np (q v:List Rat) (c:Rat):List Rat:=vB (iM v q) (trim [c])
def rU (p q:List Rat):List Rat:=p.foldr (fun c v=>Np q v c) []
theorem Al (x:Rat) (q:List Rat):∀ p:List Rat,ev (rU p q) x=ev p (ev q x)
 | []=>rfl
 | a::p=>by
   have ih:=Al x q p;unfold rU at ih ⊢;rw [List.foldr_cons,Np,VG,Om,nP,ih,bM,bM,dY];grind
theorem CN (p q:List Rat):oL (rU p q):=by
 cases p with
 | nil=>intro a h;cases h
 | cons a p=>exact FW _ _
def ag0 (D E S T K:Nat) (k:Nat) (v:List Rat):Prop:=k<=K->v.length<=k/\∀ a∈v,Bd (D*E^k) (S*(K*T+1)^k) a
theorem XE {D E S T K:Nat}:ag0 D E S T K 0 []:=fun _=>⟨aY _,fun a h=>by cases h⟩
theorem Vj {E:Nat} (h:E≠0) (k:Nat):E^k≠0:=fun e=>h (Nat.pow_eq_zero.1 e).1
theorem YE {D E S T K:Nat} (h0:D≠0) (h1:E≠0) {q:List Rat} (hq:∀ b∈q,Bd E T b) (hql:q.length<=2) (k:Nat) (v:List Rat) (c:Rat) (h:ag0 D E S T K k v) (hc:Bd D S c):ag0 D E S T K (k+1) (Np q v c):=by
 intro hk;obtain ⟨hl,hb⟩:=h (by omega);have hDk:D*E^k≠0:=Nat.mul_ne_zero h0 (Vj h1 k);have hD1:D*E^(k+1)≠0:=Nat.mul_ne_zero h0 (Vj h1 _)
 constructor
 .have h2:=Sa (iM v q) (trim [c]);have h3:=Ax v q;have h4:=fR [c];unfold Np;split at h3<;>simp at h4<;>omega
 .have h2:=Wa hDk h1 hb hq
  have h3:∀ x∈iM v q,Bd (D*E^(k+1)) (K*T*(S*(K*T+1)^k)) x:=fun x hx=>by
   refine (h2 x hx).mono ⟨1,by rw [Nat.pow_succ,Nat.mul_one,Nat.mul_assoc]⟩ ?_;have:v.length*(S*(K*T+1)^k*T)<=K*(S*(K*T+1)^k*T):=Nat.mul_le_mul_right _ (by omega);refine Nat.le_trans this (Nat.le_of_eq ?_);rw [Nat.mul_comm (S*_) T,Nat.mul_assoc]
  have h4:∀ x∈trim [c],Bd (D*E^(k+1)) (S*(K*T+1)^k) x:=fun x hx=>by
   have:=oD hx;rw [List.mem_singleton] at this;subst this;exact hc.mono (Nat.dvd_mul_right _ _) (Nat.le_mul_of_pos_right _ (Nat.pow_pos (by omega)))
  intro a ha;refine (az0 hD1 h3 h4 a ha).le (Nat.le_of_eq ?_);rw [Nat.pow_succ];generalize (K*T+1)^k=r;generalize K*T=u
  grind
def xH (D E S T K:Nat):Nat:=D*E^K*E*((K+1)*((S*(K*T+1)^K+1)*(T+1)))
theorem UL {D E S T K k n:Nat} (h0:D≠0) (h1:E≠0) (hk:k<=K) (hn:n<=K):D*E^k*E*((n+1)*((S*(K*T+1)^k+1)*(T+1)))<=xH D E S T K:=by
 unfold xH;refine Nat.mul_le_mul (Nat.mul_le_mul_right _ (Nat.mul_le_mul_left _ (Nat.pow_le_pow_right (by omega) hk))) (Nat.mul_le_mul (by omega) (Nat.mul_le_mul_right _ ?_));have:=Nat.mul_le_mul_left S (Nat.pow_le_pow_right (n:=K*T+1) (by omega) hk);omega
def aS3:Tr:=aX 64 [(W 0 0),(W 2 0)] [none] [6,7] [98,98] 98 false (aX 251 [(G3 1)] [none] [9] [46] 98 true (aX 66 [(W 3 0),(W 4 0)] [none] [8,10] [98,98] 98 true (.ret [(W 5 0)])))
theorem NY:aV prog f250 (fun _=>none) [.v none, .v (some 3), .ref 1]=aS3:=by kernel_rfl
def bb0:Tr:=.need (.call 249 [(W 0 0),(.one (.c (.k (.slice none 0 0)))),(.one (.eZ 250 [(.ref 0 [(.u 1 0)])]))] [none]) (.call ⟨.value (.func 249),#[(tT 5),(.const (.slice none 0 0)),(tT 6)],#[98,98,258]⟩) 98 true (.ret [(W 2 0)])
theorem Vq:aV prog f231 (fun _=>none) [.v none, .v none]=bb0:=by kernel_rfl
def bl0:Tr:=aX 232 [(G3 1)] [none] [6] [46] 98 true (aX 231 [(W 0 0),(W 2 0)] [none] [5,7] [98,98] 98 true (.ret [(W 3 0)]))
theorem aa9:aV prog f205 (fun _=>none) [.v none, .v (some 3)]=bl0:=by kernel_rfl
theorem PN (v q:List Rat) (c:Rat) (D E S T K k B:Nat) (h0:D≠0) (h1:E≠0) (hq:∀ b∈q,Bd E T b) (hql:q.length<=2) (hv:ag0 D E S T K k v) (hc:Bd D S c) (hK:K<=1073741824) (hB:B<=8589934592) (hX:xH D E S T K<2^B) (hk:k<K:=by omega):aQ prog 250 [(.one (sQ v):aJ),(qT c:aJ),(.one (.bG ([sQ q])):aJ)] (.ret [.one (sQ (Np q v c))]):=by
 refine dvr (ins:=[.v (.one (sQ v)), .v (qT c), .ref ([sQ q])]) func250 NY ?_;obtain ⟨hl,hb⟩:=hv (by omega);have hDk:D*E^k≠0:=Nat.mul_ne_zero h0 (Vj h1 k);have hX1:=Nat.lt_of_le_of_lt (UL (S:=S) (T:=T) (k:=k) (n:=v.length) h0 h1 (by omega) (show v.length<=K by omega)) hX;obtain ⟨f1,f2,f3,f4⟩:=EK hDk h1 hX1
 have hB1:1<=B:=by
  rcases Nat.eq_zero_or_pos B with rfl | h
  .exfalso
   have:0<D*E^k*E*((v.length+1)*((S*(K*T+1)^k+1)*(T+1))):=Nat.mul_pos (Nat.pos_of_ne_zero (Nat.mul_ne_zero hDk h1)) (Nat.mul_pos (by omega) (Nat.mul_pos (by omega) (by omega)));omega
  .exact h
 have hm:∀ a∈iM v q,Fit B a:=fun a ha=>by
  have:=Wa hDk h1 hb hq a ha;rcases Nat.eq_zero_or_pos v.length with h | h
  .have:v = []:=List.eq_nil_of_length_eq_zero h;subst this;simp [iM] at ha
  .refine f3 a (v.length-1) (by omega) (this.le (Nat.le_of_eq ?_));rw [show v.length=v.length-1+1 by omega,Nat.add_mul,Nat.one_mul,Nat.add_sub_cancel]
 have ht:∀ a∈trim [c],Fit B a:=fun a ha=>by
  have:=oD ha;rw [List.mem_singleton] at this;subst this;exact f1 _ (hc.mono (Nat.dvd_mul_right _ _) (Nat.le_mul_of_pos_right _ (Nat.pow_pos (by omega))))
 have l1:=Ax v q;have l2:=fR [c];apply aA (Va v q (D*E^k) E (S*(K*T+1)^k) T B hDk h1 hb hq hX1 hB) rfl;apply aA (Rz c) rfl;apply aA (Pe (iM v q) (trim [c]) B B hm ht (by simp at l2;omega) hB1 hB1 (by split at l1<;>omega)) rfl;exact aK rfl
theorem Uj (p q:List Rat) (D E S T K B:Nat) (h0:D≠0) (h1:E≠0) (hp:∀ a∈p,Bd D S a) (hq:∀ b∈q,Bd E T b) (hql:q.length<=2) (hpl:p.length<=K) (hK:K<=1073741824) (hB:B<=8589934592) (hX:xH D E S T K<2^B):aQ prog 231 [(.one (sQ p):aJ),(.one (sQ q):aJ)] (.ret [.one (sQ (rU p q))]):=by
 refine eF func231 Vq ?_
 refine YT (show aW [.one (sQ p), .one (.exact (.slice none 0 0)), .one (.eZ 250 [.bG [sQ q]])] [.one (sQ p), .one (sQ []), .one (.eZ 250 [.bG [sQ q]])] from ⟨aJ.Sub.same,aD.Sub.nil,aJ.Sub.same,trivial⟩)
  (VB p (Bd D S) (fun v c=>Np q v c) (ag0 D E S T K) 250 [.bG [sQ q]] XE (fun k v c hv hc=>YE h0 h1 hq hql k v c hv hc) hp Bd.zero (by omega)
   (fun k v c hk hv hc=>PN v q c D E S T K k B h0 h1 hq hql hv hc hK hB hX)) rfl ?_
 exact aK rfl
def vC (p:List Rat) (c:Rat):List Rat:=rU p [c,1]
theorem XC (p:List Rat) (c x:Rat):ev (vC p c) x=ev p (x+c):=by
 rw [vC,Al];simp only [bM,dY]
 congr 1;grind
theorem QJ (p:List Rat) (c:Rat) (D E S T K B:Nat) (hp:∀ a∈p,Bd D S a) (hc:Bd E T c) (hpl:p.length<=K) (hX:xH D E S T K<2^B) (h0:D≠0:=by omega) (h1:E≠0:=by omega) (hT:1<=T:=by omega) (hK:K<=1073741824:=by omega) (hB:B<=8589934592:=by omega):aQ prog 205 [(.one (sQ p):aJ),(qT c:aJ)] (.ret [.one (sQ (vC p c))]):=by
 refine eF func205 aa9 ?_;apply aA (aG9 c) rfl
 apply aA (Uj p [c,1] D E S T K B h0 h1 hp (fun b hb=>by
  rcases List.mem_cons.1 hb with rfl | hb
  .exact hc
  .rw [List.mem_singleton] at hb;subst hb;exact Bd.one hT) (by simp) hpl hK hB hX) rfl
 exact aK rfl
open Go Go.Proofs Tryz Ord
open Go Go.Proofs Tryz Ord
theorem QG {A B:Nat} {p q:List Rat} (hA:1<=A) (hB:1<=B) (hp:∀ a∈p,Fit A a) (hq:∀ a∈q,Fit B a):∀ a∈vB p q,Fit (A+B+1) a:=by
 refine rI fun a ha=>?_;obtain ⟨i,hi,rfl⟩:=eH.1 ha;exact (aB hp i hA).add (aB hq i hB)
theorem Sj (p q:List Rat):(vB p q).length<=max p.length q.length:=by
 have h:=iA ((List.range (max p.length q.length)).map fun i=>p.getD i 0+q.getD i 0);have h2:=kR (z:=zr) ((List.range (max p.length q.length)).map fun i=>p.getD i 0+q.getD i 0);rw [vB,h]
 simpa using h2
structure QH (A:Nat) (ks:List Rat) (ps:List (List Rat)):Prop where
 hA1:1<=A
 hA:A<=1000
 hk:∀ a∈ks,Fit A a
 hp:∀ p∈ps,p.length<=9/\∀ a∈p,Fit A a
 hn:ps.length<=20
 hl:ps.length+1=ks.length
open Go Go.Proofs Tryz Ord
theorem TN {A:Nat} {p:List RQ} (h:∀ a∈p.map RQ.q,Fit A a):∀ a∈p,Fit A a.q:=fun a ha=>h _ (List.mem_map_of_mem ha)
open Go Go.Proofs Tryz Ord
def aY1:Tr:=eI 0 0 10 0 28 25 26 (dF 11 0 (some 3) 46 27 (.need (.callv (.u 2 0) [(.agg [(U 12 0),(U 12 1),(U 12 2)]),(.agg [(U 1 0),(U 1 1),(U 1 2)])] [none]) (.call ⟨.value (tT 24),#[(tT 28),(tT 29)],#[46,46]⟩) 3 true (bD .lss 3 30 0 13 0 4 (.split (.u 14 0) (bD .add 3 32 1 10 0 3 (.back 0 [lV 15 0,lV 5 0])) (.back 0 [lV 4 0,lV 10 0])))))
def aE8:Tr:=cN .lss 3 36 37 4 0 3 0 4 (.split (.u 7 0) (eI 0 0 4 0 28 41 42 (dF 8 0 (some 3) 46 43 (.need (.callv (.u 2 0) [(.agg [(U 9 0),(U 9 1),(U 9 2)]),(.agg [(U 1 0),(U 1 1),(U 1 2)])] [none]) (.call ⟨.value (tT 40),#[(tT 44),(tT 45)],#[46,46]⟩) 3 false (bD .eql 3 46 0 10 0 4 (.ret [(W 4 0),(W 11 0)]))))) (.ret [(W 4 0),(tF false)]))
def bi9:Tr:=.loop 0 [lK 0,lV 3 0] (cN .lss 3 15 16 4 0 5 0 4 (.split (.u 6 0) (cN .add 3 18 19 4 0 5 0 3 (.need (.prim [(W 7 0)] none) (.convert 3 251 (tT 20)) 251 false (.need (.prim [(W 8 0),(.one (.c (.k (.int .u64 1))))] none) (.binOp .shr 251 (tT 21) (.const (.int .u64 1)) 251) 251 false (.need (.prim [(W 9 0)] none) (.convert 251 3 (tT 22)) 3 false aY1)))) aE8))
def bi8:Tr:=dD 0 0 12 28 bi9
theorem tW:aV prog f176 (fun _=>none) [.v none, .v (some 3), .v none]=bi8:=by kernel_rfl
def aQ1:Tr:=.need (.call 176 [(W 0 0),(G3 1),(.one (.eZ 67 []))] [none,none]) (.call ⟨.value (.func 176),#[(tT 9),(tT 10),(.func 67)],#[28,46,220]⟩) 218 false (.need (.prim [(W 3 0)] none) (.unOp .not 4 (tT 14)) 4 false (.split (.u 4 0) (bD .sub 3 16 1 2 0 3 (dD 0 1 20 29 (bD .sub 3 21 1 6 0 3 (.need (.prim [(W 5 0),(W 7 0)] none) (.call ⟨.builtin .min,#[(tT 18),(tT 22)],#[3,3]⟩) 3 false ad8)))) (dD 0 1 20 29 (bD .sub 3 21 1 5 0 3 (.need (.prim [(W 2 0),(W 6 0)] none) (.call ⟨.builtin .min,#[(tT 18),(tT 22)],#[3,3]⟩) 3 false (.ret [(W 7 0)]))))))
theorem ao5:aV prog f78 (fun _=>none) [.v (some 2), .v (some 3)]=aQ1:=by kernel_rfl
def ak7:Tr:=.ret [(.agg [tN,(tE (.bool false)),tN]),(WK 11)]
def aD5:Tr:=bD .gtr 3 30 0 12 0 4 (.split (.u 13 0) ak7 (aX 78 [(G2 0),(G3 1)] [none] [36,37] [31,46] 3 false (eI 0 1 14 0 29 35 38 (dF 15 0 none 98 39 (aX 79 [(W 16 0),(G3 1)] [(some 3)] [40,41] [98,46] 46 true (.ret [(G3 17),(WK 0)]))))))
def bk4:Tr:=bD .lss 3 18 0 6 0 4 (.split (.u 7 0) ak7 (dD 0 0 25 28 (bD .sub 3 26 1 8 0 3 (eI 0 0 9 0 28 23 27 (dF 10 0 (some 3) 46 28 (aX 67 [(G3 1),(G3 11)] [none] [21,29] [46,46] 3 false aD5))))))
def aO0:Tr:=aX 22 [(G2 0)] [none] [7] [31] 54 true (bD .neq 54 9 0 2 0 4 (.split (.u 3 0) (.ret [(.agg [tN,(tE (.bool false)),tN]),(W 2 0)]) (.need (.prim [(W 0 0),(WK 0)] none) (.indexAddr 28 (tT 15) (.const (I3 0))) 0 false (dF 4 0 (some 3) 46 16 (aX 67 [(G3 1),(G3 5)] [none] [13,17] [46,46] 3 false bk4)))))
theorem bD7:aV prog f16 (fun _=>none) [.v (some 2), .v (some 3)]=aO0:=by kernel_rfl
theorem bd8 {P:Program} {T U ty:TypeId} {x y:Operand} {k yk:IntKind} {a:Int} (hk:1<=k.bits):bE P (.binOp .shr T x y U) ty [.one (.int k a), .one (.int yk 1)] (.one (.int k (a/2))):=by
 intro M w ρ o ho _ hr;obtain ⟨hx,hy⟩:=qO hr;have hx:ρ x = .int k a/\_:=hx;have hy:ρ y = .int yk 1/\_:=hy;refine ⟨.int k (a/2),?_,⟨rfl,rfl⟩⟩
 have hg:(eqGuard .shr T x y (.int k a) (.int yk 1)).run P w = .ok () w:=by
  unfold eqGuard;simp
 have hm:min (1:Int).toNat k.bits=1:=by show min 1 _=1;omega
 have hf:a.fdiv (2^1)=a/2:=by rw [Int.fdiv_eq_ediv_of_nonneg _ (by decide)];rfl
 simp only [execOp,ho,hx.1,hy.1,Sem.run_bind,hg,Result.andThen_ok,binOp,Op.shift,show ¬ ((1:Int)<0) by decide,if_false,hm,hf,Sem.run_pure]
theorem tU (l:List Rat) (x:Rat) (A:Nat) (hA1:1<=A) (hA:A<=1073741824) (hl:l.length<1099511627776) (hp:∀ a∈l,Fit A a) (hx:Fit A x) (hr:gC true l=true):aQ prog 176 [(.one (sQ l):aJ),(qT x:aJ),(.one (.eZ 67 []):aJ)] (.ret [.one (.int .i64 (tR l x:Int)), .one (.bool (decide (tR l x<l.length/\l.getD (tR l x) 0=x)))]):=by
 refine eF func176 tW ?_;apply vn (aO aZ (aL _)) rfl;refine bV {g:Nat×Nat // g.1<=g.2/\g.2<=l.length/\(∀ k,k<g.1->l.getD k 0<x)/\(∀ k,g.2<=k->k<l.length->x<=l.getD k 0)} (fun g=>[.one (.int .i64 (g.1.1:Int)), .one (.int .i64 (g.1.2:Int))]) (fun g=>g.1.2-g.1.1) ⟨(0,l.length),cX _,aY _,fun k h=>absurd h (by omega),fun k h h2=>absurd h2 (by omega)⟩ aW.rfl (fun _=>rfl) ?_;rintro ⟨⟨i,j⟩,hij,hj,hlo,hhi⟩;dsimp only [aF,aG] at hij hj hlo hhi ⊢;apply vn bL rfl;refine vs _ rfl ?_ ?_<;>intro h3
 .apply vn (aC (by omega) (by omega)) rfl;apply vn (oJ ⟨_,un3⟩ aJ3) rfl;apply vn (bd8 (by decide)) rfl;rw [show ((i:Int)+(j:Int))/2=(((i+j)/2:Nat):Int) by omega];dsimp only [aF,aG];apply vn (qZ ⟨_,aJ3⟩ un3) rfl;dsimp only [aF,aG];apply vn (aI aZ (m:=(i+j)/2) (by omega) (by omega) (aH (show (i+j)/2<l.length by omega))) rfl;apply vn (aM bU (by decide) (by simp) (.inl rfl)) rfl;apply pO (f:=67) (caps:=[]) rfl (fF _ _ A A (aB hp _ hA1) hx) rfl;apply vn bL rfl;dsimp only [aF,aG];refine vs _ rfl ?_ ?_<;>intro h12
  .apply vn (aC (by omega) (by omega)) rfl;dsimp only [aF,aG];exact bB rfl ⟨⟨((i+j)/2+1,j),by show (i+j)/2+1<=j;omega,hj,fun k hk=>Std.lt_of_le_of_lt (rY hr (show k<=(i+j)/2 by have:k<(i+j)/2+1:=hk;omega)) (wU.1 h12),hhi⟩,aW.rfl,by show j-((i+j)/2+1)<j-i;omega⟩
  exact bB rfl ⟨⟨(i,(i+j)/2),by show i<=(i+j)/2;omega,by show (i+j)/2<=l.length;omega,hlo,fun k hk hk2=>Rat.le_trans (Rat.not_lt.1 fun e=>h12 (wU.2 e)) (rY hr (show (i+j)/2<=k from hk) hk2)⟩,aW.rfl,by show (i+j)/2-i<j-i;omega⟩
 obtain rfl:i=j:=by omega
 have hlow:tR l x=i:=BW hlo (fun h=>hhi i (aY _) h) hj;rw [hlow];apply vn bL rfl;refine vs _ rfl ?_ ?_<;>intro h17
 .apply vn (aI aZ (m:=i) (by omega) (Int.toNat_natCast i) (aH (show i<l.length by omega))) rfl;apply vn (aM bU (by decide) (by simp) (.inl rfl)) rfl;apply pO (f:=67) (caps:=[]) rfl (fF _ _ A A (aB hp _ hA1) hx) rfl;dsimp only [aF,aG];apply vn dA rfl;dsimp only [aF,aG];rw [show decide (i<l.length/\l.getD i 0=x)=decide (gB (l.getD i 0) x=0) by rw [decide_eq_decide];exact ⟨fun h=>lA.2 h.2,fun h=>⟨by omega,lA.1 h⟩⟩];exact aK rfl
 rw [decide_eq_false (show ¬ (i<l.length/\l.getD i 0=x) by omega)];exact aK rfl
theorem aa3 (ks:List Rat) (ps:List (List Rat)) (x:Rat) (A:Nat) (hA1:1<=A) (hp:∀ a∈ks,Fit A a) (hx:Fit A x) (hr:gC true ks=true) (hn:ps.length+1=ks.length) (hA:A<=1073741824:=by omega) (hl:ks.length<1099511627776:=by omega):aQ prog 78 [(.agg [sQ ks,eQ ps]:aJ),(qT x:aJ)] (.ret [.one (.int .i64 (qU ks ps.length x))]):=by
 refine eF func78 ao5 ?_;have hlow:tR ks x<=ks.length:=List.findIdx_le_length;apply aA (tU ks x A hA1 hA hl hp hx hr) rfl;apply vn fO rfl;refine nY (!decide (tR ks x<ks.length/\ks.getD (tR ks x) 0=x)) rfl (fun h2=>?_) (fun h2=>?_)
 .apply vn (aE (by omega) (by omega)) rfl;apply vn (aO pX (aL _)) rfl;dsimp only [aF,aG];apply vn (aE (by omega) (by omega)) rfl;apply vn WM rfl;dsimp only [aF,aG];rw [Bool.not_eq_true'] at h2;rw [qU,if_neg (of_decide_eq_false h2)];exact aK rfl
 apply vn (aO pX (aL _)) rfl;apply vn (aE (by omega) (by omega)) rfl;apply vn WM rfl;dsimp only [aF,aG];rw [Bool.not_eq_false'] at h2;rw [qU,if_pos (of_decide_eq_true h2)];exact aK rfl
def inD (ks:List Rat) (x:Rat):Prop:=ks.getD 0 0<=x/\x<=ks.getD (ks.length-1) 0
theorem bg9 {l:List Rat} {n:Nat} {x:Rat} (hn:n+1=l.length) (hn0:1<=n) (h:inD l x):∃ i,i<n/\l.getD i 0<=x/\(x<l.getD (i+1) 0\/(i+1=n/\x=l.getD (i+1) 0)):=by
 refine Classical.byContradiction fun hne=>?_
 have key:∀ i,i<=n->l.getD i 0<=x:=by
  intro i
  induction i with
  | zero=>intro _;exact h.1
  | succ i ih=>
    intro hi;refine Rat.not_lt.1 fun e=>hne ⟨i,by omega,ih (by omega), .inl e⟩
 have h1:=key n (aY _);have h2:=h.2;rw [show l.length-1=n by omega] at h2;exact hne ⟨n-1,by omega,key (n-1) (by omega), .inr ⟨by omega,by rw [show n-1+1=n by omega];exact Std.le_antisymm h2 h1⟩⟩
theorem Fe {ks:List Rat} {ps:List (List Rat)} (h:rH ks ps=true):2<=ks.length/\ks.length<=60/\gC true ks=true/\ps.length+1=ks.length/\ps.any Qv=false:=by
 simp only [rH,Bool.and_eq_true,decide_eq_true_eq] at h;obtain ⟨h1,h2,h3,h4,h5⟩:=h;exact ⟨h1,h2,h3,h4,by simpa using h5⟩
def yF (ks:List Rat) (ps:List (List Rat)) (x:Rat):Rat:=iR (ps.getD (qU ks ps.length x).toNat []) x
theorem aa0 {ks:List Rat} {n:Nat} {x:Rat} (hr:gC true ks=true) (hn:n+1=ks.length) (h:inD ks x) (hn0:1<=n:=by omega):∃ i:Nat,i<n/\qU ks n x=i:=by
 obtain ⟨i,hi,h1,h2⟩:=bg9 hn hn0 h;exact ⟨i,hi,zW hr hn hi h1 h2⟩
end Go.Sy
