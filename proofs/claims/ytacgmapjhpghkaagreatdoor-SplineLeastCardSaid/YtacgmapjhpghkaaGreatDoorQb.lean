/- Part. -/
import Derived.Test.YtacgmapjhpghkaaGreatDoorQa
set_option linter.all false
namespace Go.Sy
open Go Go.Proofs Tryz Ord
def Rn (A:Nat) (ps:List (List Rat)):Prop:=∀ p∈ps,p.length<=100/\∀ a∈p,Fit A a
theorem Rn.dv {A:Nat} {ps:List (List Rat)} (hA:1<=A) (h:Rn A ps):Rn (A+12) (mW ps):=fun p hp=>by
 obtain ⟨q,hq,rfl⟩:=eM.1 hp;have h1:=h q hq;have h2:=lR q;exact ⟨by omega,pZ hA h1.2 (by omega)⟩
theorem xE {ps:List (List Rat)} {i:Nat} (h:i<ps.length):ps.getD i []∈ps:=by
 rw [iP,cC h];exact List.getElem_mem h
theorem Oq {ps:List (List Rat)} {i:Nat} (h:i<ps.length:=by omega):ps[i]? = some (ps.getD i []):=by
 rw [iP,cC h];rfl
open Go Go.Proofs Tryz Ord
theorem Rn.r {A:Nat} {pr:List (List RQ)} (h:Rn A (eqR pr)) {p:List RQ} (hp:p∈pr):p.length<=100/\∀ a∈p,Fit A a.q:=by
 have h1:=h (p.map RQ.q) (List.mem_map_of_mem hp);rw [aK] at h1;exact ⟨h1.1,fun a ha=>h1.2 _ (List.mem_map_of_mem ha)⟩
open Go Go.Proofs Go.RowKit Go.Shelf Tryz Ord
attribute [local go_sem] Oper.semAt_some
section
variable (M:Nat->Prop) (w:World) (Pq:Rat->Prop)
structure PV where
 q:Rat
 u0:Value
 u1:Value
 u2:Value
 ok:Pq q
 rep:bA M w (qC q) [u0,u1,u2]
end
theorem aT7 {M:Nat->Prop} {w:World} {Pq:Rat->Prop} {v:Value} {ps:List Rat} (h:(sQ ps).rep M w v) (hp:∀ q∈ps,Pq q) :
  ∃ (ts:List (PV M w Pq)) (a:Option Addr) (cap:Nat),v = .slice a ts.length cap/\ts.map PV.q=ps/\Sl3 PV.u0 PV.u1 PV.u2 w.heap.size w v ts:=by
 obtain ⟨a,cap,rfl,hc,hm,hel⟩:=h;have hlen:(rQ ps).length=ps.length:=aK _;rcases hel with h | ⟨b,off,cs,T,fz,rfl,hb,hh,hr⟩
 .have:ps = []:=by cases ps<;>simp_all [rQ]
  subst this;exact ⟨[],a,cap,rfl,rfl,a,cap,rfl, .inl rfl⟩
 .obtain ⟨ts,h1,h2⟩:=nG (fun i (x:PV M w Pq)=>ps[i]? = some x.q/\w.cell? ⟨b,off+i*3,none⟩=some x.u0/\w.cell? ⟨b,off+i*3+1,none⟩=some x.u1/\w.cell? ⟨b,off+i*3+2,none⟩=some x.u2) ps.length fun i hi=>by
   obtain ⟨q,hq⟩:∃ q,ps[i]? = some q:=⟨_,cC hi⟩
   obtain ⟨_,hrep⟩:=hr i (qC q) (by rw [rQ,dL,hq];rfl)
   have hat:∀ j,j<3->((cs.toList.drop (off+i*3)).take 3)[j]? = cs[off+i*3+j]?:=fun j hj=>by
    rw [List.getElem?_take,if_pos hj,List.getElem?_drop];simp
   have hl:=hrep.length;generalize hus:(cs.toList.drop (off+i*3)).take 3=us at hrep hl hat
   match us,hrep with
   | [x0,x1,x2],hrep=>
     refine ⟨⟨q,x0,x1,x2,hp q (gD hq),hrep⟩,hq,?_,?_,?_⟩
     .have h0:=hat 0 (by omega);rw [Nat.add_zero] at h0;exact bK hh (by rw [<-h0];rfl)
     .exact bK hh (by rw [<-hat 1 (by omega)];rfl)
     .exact bK hh (by rw [<-hat 2 (by omega)];rfl)
   | [],hrep=>exact hrep.elim
   | [_],hrep=>exact hrep.2.elim
   | [_,_],hrep=>exact hrep.2.2.elim
   | _::_::_::_::_,hrep=>exact hrep.2.2.2.elim
  refine ⟨ts,_,cap,by rw [hlen,h1],?_,_,cap,by rw [hlen,h1], .inr ⟨b,off,rfl,(cS.1 hh).1,fun j v hj=>(h2 j v hj).2⟩⟩;refine List.ext_getElem? fun i=>?_;rw [dL];cases hi:ts[i]? with
  | none=>
    have:=List.getElem?_eq_none_iff.1 hi;rw [List.getElem?_eq_none_iff.2 (by omega)];rfl
  | some x=>rw [(h2 i x hi).1];rfl
def hP {M:Nat->Prop} {w:World} {Pq:Rat->Prop} (f:List Rat->Rat->List Rat) (pre:List (Nat×PV M w Pq)):List Rat:=pre.foldl (fun v c=>f v c.2.q) []
theorem aG4 {M:Nat->Prop} {w:World} {Pq:Rat->Prop} (f:List Rat->Rat->List Rat) (pre:List (Nat×PV M w Pq)) (y:Nat×PV M w Pq):hP f (pre ++ [y])=f (hP f pre) y.2.q:=by simp [hP]
theorem aU0 {M:Nat->Prop} {w:World} {Pq:Rat->Prop} {f:List Rat->Rat->List Rat} {Inv:Nat->List Rat->Prop} (h0:Inv 0 []) (hs:∀ k v c,Inv k v->Pq c->Inv (k+1) (f v c)) (pre:List (Nat×PV M w Pq)):Inv pre.length (hP f pre):=by
 have key:∀ (l:List (Nat×PV M w Pq)) (k:Nat) (v:List Rat),Inv k v->Inv (k+l.length) (l.foldl (fun v c=>f v c.2.q) v):=by
  intro l
  induction l with
  | nil=>intro k v h;exact h
  | cons y l ih=>
    intro k v h;have:=ih (k+1) (f v y.2.q) (hs k v _ h y.2.ok);rw [List.length_cons,show k+(l.length+1)=k+1+l.length by omega];exact this
 have:=key pre 0 [] h0
 rwa [Nat.zero_add] at this
theorem VO {M:Nat->Prop} {w:World} {c:aD} {vs:List Value} (h:cD M w [.one c] vs):∃ v,pack vs=v/\c.rep M w v:=by
 match vs,h with
 | [v],h=>exact ⟨v,rfl,h.1⟩
 | [],h=>exact h.elim
 | _::_::_,h=>exact h.2.elim
set_option maxRecDepth 100000 in
set_option maxHeartbeats 1000000 in
theorem UB (M:Nat->Prop) (w:World) (Pq:Rat->Prop) (f:List Rat->Rat->List Rat) (Inv:Nat->List Rat->Prop) (g:FuncId) (caps:List aD) (h0:Inv 0 []) (hinv:∀ k v c,Inv k v->Pq c->Inv (k+1) (f v c))
  (hM:cK M w) [Inhabited (PV M w Pq)] (a:Option Addr) (cap:Nat) (ts:List (PV M w Pq))
  (hstep:∀ k v c,k<ts.length->Inv k v->Pq c->aQ prog g (.one (sQ v)::qT c::caps.map .one) (.ret [.one (sQ (f v c))]))
  (hI:Sl3 PV.u0 PV.u1 PV.u2 w.heap.size w (.slice a ts.length cap) ts) (z:Value) (hz:(sQ []).rep M w z) (cvs:List Value) (hcv:bA M w caps cvs) (hlen:ts.length<4611686018427387904:=by omega) :
  CallsIn Fence.wide 1001 prog 249 #[.slice a ts.length cap,z, .func (.func g) #[] cvs.toArray] w fun e W'=>Below w.heap.size w W'/\∃ u,e = .returned u/\(sQ (hP f (bk ts ts.length))).rep M W' u:=by
 refine callsIn_of_wp_marks func249 rfl trivial ?_ rfl;simp only [ntmps249,List.size_toArray,List.length_cons,List.length_nil,Nat.reduceAdd,Nat.reduceSub,Array.replicate_succ,Array.replicate_zero,List.push_toArray,List.append_toArray,List.nil_append,List.cons_append];generalize hL:ts.length=L at hI hlen hstep ⊢;obtain ⟨za,zl,zc,rfl⟩:∃ za zl zc,z = .slice za zl zc:=by obtain ⟨za,zc,e,_⟩:=hz;exact ⟨_,_,_,e⟩
 gi_wp2_with (refine ⟨trivial,?_⟩;gi_at_call 224;refine (Un _ _ _ _ _).mono ?_;rintro e w' ⟨rfl,rfl⟩)
 obtain ⟨n0,hn0⟩:∃ n0,w.heap.size=n0:=⟨_,rfl⟩
 obtain ⟨hM,hMg⟩:=hM;rw [hn0] at hI hM ⊢;obtain ⟨W0,hW0⟩:∃ W0,(((w.alloc (.cells #[.slice za zl zc] 98)).alloc (.cells #[.func (.func g) #[] cvs.toArray] 258)).alloc (.cells #[.slice a L cap] 98))=W0:=⟨_,rfl⟩
 have hs0:W0.heap.size=n0+3:=by rw [<-hW0];simp [hn0]
 have hX0:W0.heap[n0]? = some (.cells #[.slice za zl zc] 98 (0,0)):=by rw [<-hW0,heap_alloc_old _ _ _ (by simp;omega),heap_alloc_old _ _ _ (by simp;omega),<-hn0];exact heap_alloc_new w _
 have hS0:W0.heap[n0+1]? = some (.cells #[.func (.func g) #[] cvs.toArray] 258 (0,0)):=by
  rw [<-hW0,heap_alloc_old _ _ _ (by simp;omega)];have:=heap_alloc_new (w.alloc (.cells #[.slice za zl zc] 98)) (.cells #[.func (.func g) #[] cvs.toArray] 258);rw [World.size_alloc,hn0] at this;exact this
 have hP0:W0.heap[n0+2]? = some (.cells #[.slice a L cap] 98 (0,0)):=by
  rw [<-hW0];have:=heap_alloc_new ((w.alloc (.cells #[.slice za zl zc] 98)).alloc (.cells #[.func (.func g) #[] cvs.toArray] 258)) (.cells #[.slice a L cap] 98);rw [World.size_alloc,World.size_alloc,hn0] at this;exact this
 have hB0:Below n0 w W0:=by
  rw [<-hW0];exact (((Below.refl _ w).alloc (by omega) _).alloc (by simp;omega) _).alloc (by simp;omega) _
 rw [hW0]
 refine wpIn_rangeFunc_ownH (w0:=W0) rfl (by omega) (gf:=246) (lb:=#[.pointer (some ⟨n0+1+1,0,none⟩)]) rfl trivial (enters_of func246 (by kernel_rfl) rfl)
  (AX (e0:=PV.u0) (e1:=PV.u1) (e2:=PV.u2) (n0+2) n0 (.slice a L cap) ts (by omega) W0 (by omega) (by omega) (bK hP0 rfl) (hI.below hB0)) Xd (Xo (by omega) (by omega)) (Below.refl _ _) (fun _=>rfl)
  (fun pre W=>Below n0 w W/\n0+3<=W.heap.size/\W.heap[n0+1]? = some (.cells #[.func (.func g) #[] cvs.toArray] 258 (0,0)) /\
   ∃ ua ul uc,W.heap[n0]? = some (.cells #[.slice ua ul uc] 98 (0,0))/\(sQ (hP f pre)).rep (fun b=>M b\/b=n0) W (.slice ua ul uc))
  (fun _ _ _=>False) ?own (fun _=>by intro s A B row hs;exact hs.elim) ?start
  (fun y a' W=>∃ b,n0+3<=b/\a' = { tmps:=#[.slice a L cap, .slice za zl zc, .func (.func g) #[] cvs.toArray,undef, .pointer (some ⟨n0,0,none⟩), .pointer (some ⟨n0+1,0,none⟩), .slice none 0 0,undef, .pointer (some ⟨b,0,none⟩), .slice a L cap, .func (.func 246) #[] #[.pointer (some ⟨n0+1+1,0,none⟩)], .int .i64 (y.1:Int), .agg #[y.2.u0,y.2.u1,y.2.u2],undef,undef,undef,undef,undef],defers:=[] } /\ W.heap[b]? = some (.cells #[y.2.u0,y.2.u1,y.2.u2] 46 (0,0)))
  ?ax ?assign ?body ?done ?stop
 case own=>
  rintro s A A' row ⟨h1,h2,h3,ua,ul,uc,h5,h6⟩ hg hr;have hr':∀ r,row=some r->∃ o:Obj,A.heap[r]? = some o/\o.isCells=false:=fun r e=>(hr r e).2;refine ⟨h1.grown hg (by omega) (fun k e=>by have:=(hr k e).1;omega),Nat.le_trans h2 hg.size,eR hg hr' h3 rfl,ua,ul,uc,eR hg hr' h5 rfl,aD.mono _ (fun b o hb ho hc=>⟨hb,eR hg hr' ho hc⟩) h6⟩
 case start=>
  refine ⟨hB0,by omega,hS0,za,zl,zc,hX0,aD.mono _ (fun b o hb ho hc=>?_) hz⟩;have hlt:=(cS.1 ho).1;exact ⟨fun h=>h.elim hb (by omega),(hB0.block b (by omega)).trans ho⟩
 case ax=>
  rintro y a' _ A A' row ⟨b,h1,h2,h3⟩ hg hr;exact ⟨b,h1,h2,eR hg (fun r e=>(hr r e).2) h3 rfl⟩
 case assign=>
  rintro l pre y W K ⟨h1,h2,h3,ua,ul,uc,h5,h6⟩ hK
  gi_wp2
  obtain ⟨o0,o1,o2⟩:y.2.u0.oneCell'=true/\y.2.u1.oneCell'=true/\y.2.u2.oneCell'=true:=by
   have:=y.2.rep.one;exact ⟨this _ (by simp),this _ (by simp),this _ (by simp)⟩
  have hnew:=heap_alloc_new W (.cells #[.slice none 0 0, .bool false, .slice none 0 0] 46);rw [Du hnew o0 o1 o2];obtain ⟨W',hW'⟩:∃ W',(W.alloc (.cells #[.slice none 0 0, .bool false, .slice none 0 0] 46)).setRow W.heap.size #[y.2.u0,y.2.u1,y.2.u2]=W':=⟨_,rfl⟩
  have hold:∀ k,k<W.heap.size->W'.heap[k]? = W.heap[k]?:=fun k hk=>by rw [<-hW',setRow_other _ _ _ _ (by omega),heap_alloc_old _ _ _ hk]
  have hself:W'.heap[W.heap.size]? = some (.cells #[y.2.u0,y.2.u1,y.2.u2] 46 (0,0)):=by rw [<-hW'];exact setRow_heap _ _ _ _ _ _ hnew
  have hbel:Below W.heap.size W W':=by rw [<-hW'];exact below_setRow ((Below.refl _ W).alloc (aY _) _) (aY _) _
  have hlt:∀ {k:Nat} {o:Obj},W.heap[k]? = some o->k<W.heap.size:=fun h=>(cS.1 h).1;rw [hW']
  gi_wp2
  refine hK _ _ ⟨hbel.size,fun k o _ ho _=>(hold k (hlt ho)).trans ho⟩ ⟨hbel.mono (by omega),fun v hv=>?_⟩
   ⟨h1.trans (hbel.mono (by omega)),Nat.le_trans h2 hbel.size,(hold _ (hlt h3)).trans h3,ua,ul,uc,(hold _ (hlt h5)).trans h5,aD.mono _ (fun b o hb ho _=>⟨hb,(hold b (hlt ho)).trans ho⟩) h6⟩
   ⟨W.heap.size,by omega,rfl,hself⟩
  simp only [World.cell?,hold (n0+2) (by omega)] at hv ⊢;exact hv
 case body=>
  rintro l pre y a' W hl _ ⟨h1,h2,h3,ua,ul,uc,h5,h6⟩ ⟨b,hb,rfl,hbc⟩ hlt;have hltW:∀ {k:Nat} {o:Obj},W.heap[k]? = some o->k<W.heap.size:=fun h=>(cS.1 h).1;have c0:W.cell? ⟨n0,0,none⟩=some (.slice ua ul uc):=bK h5 rfl;have cs:W.cell? ⟨n0+1,0,none⟩=some (.func (.func g) #[] cvs.toArray):=bK h3 rfl;have cb0:W.cell? ⟨b,0,none⟩=some y.2.u0:=bK hbc rfl;have cb1:W.cell? ⟨b,1,none⟩=some y.2.u1:=bK hbc rfl;have cb2:W.cell? ⟨b,2,none⟩=some y.2.u2:=bK hbc rfl;have hM1:∀ k,(M k\/k=n0)->k<W.heap.size:=fun k h=>h.elim (fun h=>by have:=hM k h;omega) (fun h=>by omega)
  have hkeep:bO M w (fun b=>M b\/b=n0) W:=fun k o hk ho _=>by
   have hlt:=(cS.1 ho).1;exact ⟨fun h=>h.elim hk (by omega),(h1.block k (by omega)).trans ho⟩
  rw [hL] at hlt;have hdo:=hstep pre.length (hP f pre) y.2.q hlt (aU0 h0 hinv pre) y.2.ok
  have hcall:Calls prog g (Value.slice ua ul uc::Value.agg #[y.2.u0,y.2.u1,y.2.u2]::cvs).toArray W fun e w'=>Below W.heap.size W w'/\∃ va vl vc,e = .returned (.slice va vl vc)/\(sQ (hP f (pre ++ [y]))).rep (fun b=>M b\/b=n0) w' (.slice va vl vc):=by
   have h7:=hdo.2 (fun b=>M b\/b=n0) W (.slice ua ul uc :: .agg #[y.2.u0,y.2.u1,y.2.u2]::cvs) ⟨hM1,hMg.eE hkeep⟩ ⟨h6,⟨[_,_,_],rfl,y.2.rep.mono hkeep⟩,cD.yK (hcv.mono hkeep)⟩;refine h7.mono ?_;rintro e w' ⟨hb',vs,rfl,hvs⟩;rw [aG4];obtain ⟨v,e1,hr⟩:=VO hvs;have hr':=hr;obtain ⟨va,vc,rfl,_⟩:=hr';exact ⟨hb',va,_,vc,by rw [e1],hr⟩
  have eg:∀ args w,(callFunc g args).run prog w = .ok (.enter g args) w:=hdo.1
  gi_wp2
  refine ⟨trivial,(CallsIn.inRound l (callsIn_wide.2 hcall)).mono ?_⟩;rintro e w' ⟨hbw,va,vl,vc,rfl,hvr⟩;have hbox:w'.heap[n0]? = some (.cells #[.slice ua ul uc] 98 (0,0)):=(hbw.block n0 (hltW h5)).trans h5;have d0:w'.cell? ⟨n0,0,none⟩=some (.slice ua ul uc):=bK hbox rfl;have df:w'.frozen? ⟨n0,0,none⟩=false:=by simp [World.frozen?,hbox]
  gi_wp2
  rw [setCell_eq_setRow w' n0 0 #[.slice ua ul uc] 98 (0,0) (.slice va vl vc) hbox];obtain ⟨W3,hW3⟩:∃ W3,w'.setRow n0 (#[Value.slice ua ul uc].setIfInBounds 0 (.slice va vl vc))=W3:=⟨_,rfl⟩
  have hself:W3.heap[n0]? = some (.cells #[.slice va vl vc] 98 (0,0)):=by rw [<-hW3];exact setRow_heap _ _ _ _ _ _ hbox
  have hoth:∀ k,k≠n0->W3.heap[k]? = w'.heap[k]?:=fun k hk=>by rw [<-hW3,setRow_other _ _ _ _ hk]
  have hold:∀ {k:Nat} {o:Obj},k≠n0->W.heap[k]? = some o->W3.heap[k]? = some o:=fun hk ho=>(hoth _ hk).trans ((hbw.block _ (hltW ho)).trans ho);have hbel:Below n0 W W3:=by rw [<-hW3];exact below_setRow (hbw.mono (by omega)) (aY _) _
  rw [hW3];refine ⟨⟨hbel.size,fun k o hk ho _=>hold (by omega) ho⟩,⟨hbel,fun v hv=>?_⟩,h1.trans hbel,Nat.le_trans h2 hbel.size,hold (by omega) h3,va,vl,vc,hself,aD.mono _ (fun k o hk ho hc=>⟨hk,(hoth k fun e=>hk (.inr e)).trans ho⟩) hvr⟩;simp only [World.cell?,hoth (n0+2) (by omega),hbw.block (n0+2) (by omega)] at hv ⊢;exact hv
 case done=>
  rintro D ys W hD rfl ⟨h1,h2,h3,ua,ul,uc,h5,h6⟩ hK;have c0:W.cell? ⟨n0,0,none⟩=some (.slice ua ul uc):=bK h5 rfl
  gi_wp2
  refine ⟨by simp, .inl ⟨_,_,rfl,run_takeDeferred hK,?_⟩⟩;refine ⟨_,results_tmp rfl _ _ _,?_,⟨_,rfl,by rw [<-hL];exact aD.mono _ (fun k o hk ho hc=>⟨fun h=>hk (.inl h),(World.putObj_heap_other (fun e=>by rw [e,hK] at ho;cases ho;cases hc)).trans ho⟩) h6⟩⟩;rw [<-hn0] at h1;exact h1.trans (belowK_b (w:=w) (aY _) W D _ _ (by omega) hK rfl rfl)
 case stop=>
  rintro D c pre W hD _ h hK;exact h.elim
theorem bo9 {M:Nat->Prop} {w:World} {Pq:Rat->Prop} [Inhabited (PV M w Pq)] (f:List Rat->Rat->List Rat) (ts:List (PV M w Pq)):hP f (bk ts ts.length)=(ts.map PV.q).foldr (fun c v=>f v c) []:=by
 have h:hP f (bk ts ts.length)=((bk ts ts.length).map Prod.snd).foldl (fun v c=>f v c.q) []:=by rw [hP,List.foldl_map]
 rw [h,ZS,List.foldl_reverse,List.foldr_map]
theorem Wq (ps:List Rat) (Pq:Rat->Prop) (f:List Rat->Rat->List Rat) (Inv:Nat->List Rat->Prop) (g:FuncId) (caps:List aD) (h0:Inv 0 []) (hinv:∀ k v c,Inv k v->Pq c->Inv (k+1) (f v c))
  (hp:∀ q∈ps,Pq q) (hz:Pq 0) (hlen:ps.length<4611686018427387904)
  (hstep:∀ k v c,k<ps.length->Inv k v->Pq c->aQ prog g (.one (sQ v)::qT c::caps.map .one) (.ret [.one (sQ (f v c))])) :
  aQ prog 249 [.one (sQ ps), .one (sQ []), .one (.fP g caps)] (.ret [.one (sQ (ps.foldr (fun c v=>f v c) []))]):=by
 refine ⟨bJ (by kernel_rfl),fun M w vs hM hv=>?_⟩
 match vs,hv with
 | [v0,v1,v2],⟨k0,k1,⟨fs,k2,hfs⟩,_⟩=>
   obtain ⟨ts,a,cap,rfl,hq,hsl⟩:=aT7 k0 hp
   haveI:Inhabited (PV M w Pq):=⟨⟨0, .slice none 0 0, .bool false, .slice none 0 0,hz,bA.sub jV ⟨⟨rfl,rfl⟩,⟨rfl,rfl⟩,⟨rfl,rfl⟩,trivial⟩⟩⟩
   subst k2;have hl:ps.length=ts.length:=by rw [<-hq,aK]
   have h1:=UB M w Pq f Inv g caps h0 hinv hM a cap ts (by rw [<-hl];exact hstep) hsl v1 k1 fs hfs;rw [bo9,hq] at h1;refine ((callsIn_wide (n:=1001)).1 h1).mono ?_;rintro e w' ⟨hb,u,rfl,hr⟩;exact ⟨hb,[u],rfl,hr,trivial⟩
 | [],hv=>exact hv.elim
 | [_],hv=>exact hv.2.elim
 | [_,_],hv=>exact hv.2.2.elim
 | _::_::_::_::_,hv=>exact hv.2.2.2.elim
end Go.Sy
namespace Go.Sy
open Go Go.Proofs Tryz Ord
theorem kW (x:Rat):∀ p:List Rat,ev (trim p) x=ev p x
 | []=>rfl
 | a::p=>by
   have ih:=kW x p;unfold trim at ih ⊢;rw [sK];split
   .rename_i h;rw [h.1,List.take_zero,dF] at ih;have ha:a=0:=by simpa [zr] using h.2
    rw [List.take_zero,dF,bE,<-ih,ha];grind
   .rw [List.take_succ_cons,bE,bE,ih]
theorem hU:∀ p:List Rat,oV (trim p)
 | []=>fun a h=>by cases h
 | a::p=>by
   have ih:=hU p;unfold trim at ih ⊢;rw [sK];split
   .intro b hb;cases hb
   .rename_i h;intro b hb;rw [List.take_succ_cons,List.getLast?_cons] at hb;cases hl:(p.take (sK zr p)).getLast? with
    | some c=>
      rw [hl] at hb;simp only [Option.getD_some,aN] at hb;subst hb;exact ih c hl
    | none=>
      rw [hl] at hb;simp only [Option.getD_none,aN] at hb;subst hb;intro e;refine h ⟨?_,by simp [zr,e]⟩;have h1:=List.getLast?_eq_none_iff.1 hl;have h2:min (sK zr p) p.length=0:=by rw [<-List.length_take,h1];rfl
      have:=kV (z:=zr) p;omega
theorem oP (x:Rat):∀ (p:List Rat) (m:Nat),p.length<=m->ev ((List.range m).map fun i=>p.getD i 0) x=ev p x
 | [],m,_=>by
   have:(List.range m).map (fun i=>([]:List Rat).getD i 0)=List.replicate m 0:=by
    apply List.ext_getElem?;intro i;rw [dL,List.getElem?_replicate];by_cases h:i<m
    .rw [List.getElem?_range h,if_pos h];rfl
    .rw [if_neg h,List.getElem?_eq_none (by simpa using h)];rfl
   rw [this,aa2,dF]
 | a::p,0,h=>by simp at h
 | a::p,m+1,h=>by
   rw [List.range_succ_eq_map,List.map_cons,bE,List.map_map,bE];have:=oP x p m (by simpa using h);rw [<-this];rfl
theorem ao6 (x:Rat) (f g:Nat->Rat):∀ l:List Nat,ev (l.map fun i=>f i+g i) x=ev (l.map f) x+ev (l.map g) x
 | []=>by simp only [List.map_nil,dF];grind
 | a::l=>by rw [List.map_cons,List.map_cons,List.map_cons,bE,bE,bE,ao6 x f g l];grind
theorem iC (x:Rat) (p q:List Rat):ev (iM p q) x=ev p x+ev q x:=by
 rw [iM,kW,ao6,oP x p _ (Nat.le_max_left _ _),oP x q _ (Nat.le_max_right _ _)]
theorem lQ (x:Rat) (p q:List Rat):ev (eF p q) x=ev p x*ev q x:=by
 unfold eF;split
 .rename_i h;rcases h with rfl | rfl
  .rw [dF];grind
  .rw [dF];grind
 .rename_i h;have hq:0<q.length:=List.length_pos_iff.2 fun e=>h (.inr e);rw [kW,Xb p q x hq _ (aY _),List.take_length]
theorem FL (p q:List Rat):oV (iM p q):=hU _
theorem FW (p q:List Rat):oV (eF p q):=by
 unfold eF;split
 .intro a h;cases h
 .exact hU _
theorem oO {p:List Rat} {a:Rat} (h:a∈trim p):a∈p:=List.mem_of_mem_take h
theorem fN (p:List Rat):(trim p).length<=p.length:=by rw [iA];exact kV _
theorem SU (p q:List Rat):(iM p q).length<=max p.length q.length:=by
 have:=fN ((List.range (max p.length q.length)).map fun i=>p.getD i 0+q.getD i 0);rw [aK,mV] at this;exact this
theorem aA9 {D S T:Nat} (h0:D≠0) {p q:List Rat} (hp:∀ a∈p,Bd D S a) (hq:∀ a∈q,Bd D T a):∀ a∈iM p q,Bd D (S+T) a:=fun a ha=>by
 obtain ⟨i,_,rfl⟩:=eM.1 (oO ha);exact (lP hp i).add h0 (lP hq i)
theorem AL (p q:List Rat):(eF p q).length<=if p = [] then 0 else p.length+q.length-1:=by
 unfold eF;split
 .simp
 .rename_i h;rw [if_neg (fun e=>h (.inl e))];have:=fN (mulL p q p.length);rw [gL] at this;exact this
theorem WT {D E S T:Nat} (h0:D≠0) (h1:E≠0) {p q:List Rat} (hp:∀ a∈p,Bd D S a) (hq:∀ b∈q,Bd E T b):∀ x∈eF p q,Bd (D*E) (p.length*(S*T)) x:=fun x hx=>by
 unfold eF at hx;split at hx
 .cases hx
 .exact xD h0 h1 hp hq _ x (oO hx)
def NO (q v:List Rat) (c:Rat):List Rat:=iM (eF v q) (trim [c])
def rV (p q:List Rat):List Rat:=p.foldr (fun c v=>NO q v c) []
theorem Ax (x:Rat) (q:List Rat):∀ p:List Rat,ev (rV p q) x=ev p (ev q x)
 | []=>rfl
 | a::p=>by
   have ih:=Ax x q p;unfold rV at ih ⊢;rw [List.foldr_cons,NO,iC,lQ,kW,ih,bE,bE,dF];grind
theorem CM (p q:List Rat):oV (rV p q):=by
 cases p with
 | nil=>intro a h;cases h
 | cons a p=>exact FL _ _
def aj0 (D E S T K:Nat) (k:Nat) (v:List Rat):Prop:=k<=K->v.length<=k/\∀ a∈v,Bd (D*E^k) (S*(K*T+1)^k) a
theorem Yu {D E S T K:Nat}:aj0 D E S T K 0 []:=fun _=>⟨aY _,fun a h=>by cases h⟩
theorem VT {E:Nat} (h:E≠0) (k:Nat):E^k≠0:=fun e=>h (Nat.pow_eq_zero.1 e).1
theorem Zs {D E S T K:Nat} (h0:D≠0) (h1:E≠0) {q:List Rat} (hq:∀ b∈q,Bd E T b) (hql:q.length<=2) (k:Nat) (v:List Rat) (c:Rat) (h:aj0 D E S T K k v) (hc:Bd D S c):aj0 D E S T K (k+1) (NO q v c):=by
 intro hk;obtain ⟨hl,hb⟩:=h (by omega);have hDk:D*E^k≠0:=Nat.mul_ne_zero h0 (VT h1 k);have hD1:D*E^(k+1)≠0:=Nat.mul_ne_zero h0 (VT h1 _)
 constructor
 .have h2:=SU (eF v q) (trim [c]);have h3:=AL v q;have h4:=fN [c];unfold NO;split at h3<;>simp at h4<;>omega
 .have h2:=WT hDk h1 hb hq
  have h3:∀ x∈eF v q,Bd (D*E^(k+1)) (K*T*(S*(K*T+1)^k)) x:=fun x hx=>by
   refine (h2 x hx).mono ⟨1,by rw [Nat.pow_succ,Nat.mul_one,Nat.mul_assoc]⟩ ?_;have:v.length*(S*(K*T+1)^k*T)<=K*(S*(K*T+1)^k*T):=Nat.mul_le_mul_right _ (by omega);refine Nat.le_trans this (Nat.le_of_eq ?_);rw [Nat.mul_comm (S*_) T,Nat.mul_assoc]
  have h4:∀ x∈trim [c],Bd (D*E^(k+1)) (S*(K*T+1)^k) x:=fun x hx=>by
   have:=oO hx;rw [List.mem_singleton] at this;subst this;exact hc.mono (Nat.dvd_mul_right _ _) (Nat.le_mul_of_pos_right _ (Nat.pow_pos (by omega)))
  intro a ha;refine (aA9 hD1 h3 h4 a ha).le (Nat.le_of_eq ?_);rw [Nat.pow_succ];generalize (K*T+1)^k=r;generalize K*T=u
  grind
def xJ (D E S T K:Nat):Nat:=D*E^K*E*((K+1)*((S*(K*T+1)^K+1)*(T+1)))
theorem Vw {D E S T K k n:Nat} (h0:D≠0) (h1:E≠0) (hk:k<=K) (hn:n<=K):D*E^k*E*((n+1)*((S*(K*T+1)^k+1)*(T+1)))<=xJ D E S T K:=by
 unfold xJ;refine Nat.mul_le_mul (Nat.mul_le_mul_right _ (Nat.mul_le_mul_left _ (Nat.pow_le_pow_right (by omega) hk))) (Nat.mul_le_mul (by omega) (Nat.mul_le_mul_right _ ?_));have:=Nat.mul_le_mul_left S (Nat.pow_le_pow_right (n:=K*T+1) (by omega) hk);omega
def aT1:Tr:=aZ 64 [(W 0 0),(W 2 0)] [none] [6,7] [98,98] 98 false (aZ 251 [(G3 1)] [none] [9] [46] 98 true (aZ 66 [(W 3 0),(W 4 0)] [none] [8,10] [98,98] 98 true (.ret [(W 5 0)])))
theorem Ov:aV prog f250 (fun _=>none) [.v none, .v (some 3), .ref 1]=aT1:=by kernel_rfl
def ba5:Tr:=.need (.call 249 [(W 0 0),(.one (.c (.k (.slice none 0 0)))),(.one (.fP 250 [(.ref 0 [(.u 1 0)])]))] [none]) (.call ⟨.value (.func 249),#[(tT 5),(.const (.slice none 0 0)),(tT 6)],#[98,98,258]⟩) 98 true (.ret [(W 2 0)])
theorem VZ:aV prog f231 (fun _=>none) [.v none, .v none]=ba5:=by kernel_rfl
def bj6:Tr:=aZ 232 [(G3 1)] [none] [6] [46] 98 true (aZ 231 [(W 0 0),(W 2 0)] [none] [5,7] [98,98] 98 true (.ret [(W 3 0)]))
theorem ad7:aV prog f205 (fun _=>none) [.v none, .v (some 3)]=bj6:=by kernel_rfl
theorem Qw (v q:List Rat) (c:Rat) (D E S T K k B:Nat) (h0:D≠0) (h1:E≠0) (hq:∀ b∈q,Bd E T b) (hql:q.length<=2) (hv:aj0 D E S T K k v) (hc:Bd D S c) (hK:K<=1073741824) (hB:B<=8589934592) (hX:xJ D E S T K<2^B) (hk:k<K:=by omega):aQ prog 250 [(.one (sQ v):aJ),(qT c:aJ),(.one (.bH ([sQ q])):aJ)] (.ret [.one (sQ (NO q v c))]):=by
 refine dvr (ins:=[.v (.one (sQ v)), .v (qT c), .ref ([sQ q])]) func250 Ov ?_;obtain ⟨hl,hb⟩:=hv (by omega);have hDk:D*E^k≠0:=Nat.mul_ne_zero h0 (VT h1 k);have hX1:=Nat.lt_of_le_of_lt (Vw (S:=S) (T:=T) (k:=k) (n:=v.length) h0 h1 (by omega) (show v.length<=K by omega)) hX;obtain ⟨f1,f2,f3,f4⟩:=EA hDk h1 hX1
 have hB1:1<=B:=by
  rcases Nat.eq_zero_or_pos B with rfl | h
  .exfalso
   have:0<D*E^k*E*((v.length+1)*((S*(K*T+1)^k+1)*(T+1))):=Nat.mul_pos (Nat.pos_of_ne_zero (Nat.mul_ne_zero hDk h1)) (Nat.mul_pos (by omega) (Nat.mul_pos (by omega) (by omega)));omega
  .exact h
 have hm:∀ a∈eF v q,Fit B a:=fun a ha=>by
  have:=WT hDk h1 hb hq a ha;rcases Nat.eq_zero_or_pos v.length with h | h
  .have:v = []:=List.eq_nil_of_length_eq_zero h;subst this;simp [eF] at ha
  .refine f3 a (v.length-1) (by omega) (this.le (Nat.le_of_eq ?_));rw [show v.length=v.length-1+1 by omega,Nat.add_mul,Nat.one_mul,Nat.add_sub_cancel]
 have ht:∀ a∈trim [c],Fit B a:=fun a ha=>by
  have:=oO ha;rw [List.mem_singleton] at this;subst this;exact f1 _ (hc.mono (Nat.dvd_mul_right _ _) (Nat.le_mul_of_pos_right _ (Nat.pow_pos (by omega))))
 have l1:=AL v q;have l2:=fN [c];apply aA (VK v q (D*E^k) E (S*(K*T+1)^k) T B hDk h1 hb hq hX1 hB) rfl;apply aA (Sp c) rfl;apply aA (Fi (eF v q) (trim [c]) B B hm ht (by simp at l2;omega) hB1 (by split at l1<;>omega) hB1) rfl;exact aL rfl
theorem UU (p q:List Rat) (D E S T K B:Nat) (h0:D≠0) (h1:E≠0) (hp:∀ a∈p,Bd D S a) (hq:∀ b∈q,Bd E T b) (hql:q.length<=2) (hpl:p.length<=K) (hK:K<=1073741824) (hB:B<=8589934592) (hX:xJ D E S T K<2^B):aQ prog 231 [(.one (sQ p):aJ),(.one (sQ q):aJ)] (.ret [.one (sQ (rV p q))]):=by
 refine eH func231 VZ ?_
 refine ZE (show aX [.one (sQ p), .one (.exact (.slice none 0 0)), .one (.fP 250 [.bH [sQ q]])] [.one (sQ p), .one (sQ []), .one (.fP 250 [.bH [sQ q]])] from ⟨aJ.Sub.same,aD.Sub.nil,aJ.Sub.same,trivial⟩)
  (Wq p (Bd D S) (fun v c=>NO q v c) (aj0 D E S T K) 250 [.bH [sQ q]] Yu (fun k v c hv hc=>Zs h0 h1 hq hql k v c hv hc) hp Bd.zero (by omega)
   (fun k v c hk hv hc=>Qw v q c D E S T K k B h0 h1 hq hql hv hc hK hB hX)) rfl ?_
 exact aL rfl
def uZ (p:List Rat) (c:Rat):List Rat:=rV p [c,1]
theorem Yt (p:List Rat) (c x:Rat):ev (uZ p c) x=ev p (x+c):=by
 rw [uZ,Ax];simp only [bE,dF]
 congr 1;grind
theorem Rv (p:List Rat) (c:Rat) (D E S T K B:Nat) (hp:∀ a∈p,Bd D S a) (hc:Bd E T c) (hpl:p.length<=K) (hX:xJ D E S T K<2^B) (h0:D≠0:=by omega) (h1:E≠0:=by omega) (hT:1<=T:=by omega) (hK:K<=1073741824:=by omega) (hB:B<=8589934592:=by omega):aQ prog 205 [(.one (sQ p):aJ),(qT c:aJ)] (.ret [.one (sQ (uZ p c))]):=by
 refine eH func205 ad7 ?_;apply aA (aI4 c) rfl
 apply aA (UU p [c,1] D E S T K B h0 h1 hp (fun b hb=>by
  rcases List.mem_cons.1 hb with rfl | hb
  .exact hc
  .rw [List.mem_singleton] at hb;subst hb;exact Bd.one hT) (by simp) hpl hK hB hX) rfl
 exact aL rfl
open Go Go.Proofs Tryz Ord
open Go Go.Proofs Tryz Ord
theorem Cy {A B:Nat} {p q:List Rat} (hA:1<=A) (hB:1<=B) (hp:∀ a∈p,Fit A a) (hq:∀ a∈q,Fit B a):∀ a∈iM p q,Fit (A+B+1) a:=by
 refine rK fun a ha=>?_;obtain ⟨i,hi,rfl⟩:=eM.1 ha;exact (aC hp i hA).add (aC hq i hB)
theorem EP (p q:List Rat):(iM p q).length<=max p.length q.length:=by
 have h:=iA ((List.range (max p.length q.length)).map fun i=>p.getD i 0+q.getD i 0);have h2:=kV (z:=zr) ((List.range (max p.length q.length)).map fun i=>p.getD i 0+q.getD i 0);rw [iM,h]
 simpa using h2
structure Rt (A:Nat) (ks:List Rat) (ps:List (List Rat)):Prop where
 hA1:1<=A
 hA:A<=1000
 hk:∀ a∈ks,Fit A a
 hp:∀ p∈ps,p.length<=9/\∀ a∈p,Fit A a
 hn:ps.length<=20
 hl:ps.length+1=ks.length
open Go Go.Proofs Tryz Ord
theorem Ck {A:Nat} {p:List RQ} (h:∀ a∈p.map RQ.q,Fit A a):∀ a∈p,Fit A a.q:=fun a ha=>h _ (List.mem_map_of_mem ha)
open Go Go.Proofs Tryz Ord
def inD (ks:List Rat) (x:Rat):Prop:=ks.getD 0 0<=x/\x<=ks.getD (ks.length-1) 0
end Go.Sy
