/- Code: what has been paid holds. The single operations: what they make of types. The steps of a proof of vc. Functions to which a slice is lent. Row operations: steps of a proof. Functions to which a variable is lent: the last argument points to it. A tree in another place: the unknowns are renamed, some more stand about. Operations on integers that stay in their range: the result as it is. Pieces of a function's code; functions that return a new struct of their own. Pieces that own a row, or to which a variable is lent.
-/
import Derived.Test.YtdmcadckdnnglaaGreatDoorSc
import Derived.Deep.LoopGhost
import Derived.Laws.CopyOwn
import Derived.Laws.BitsLemmas
import Derived.Laws.Bits64
import Derived.Laws.StructEq
import Derived.Laws.Strings
import Derived.Laws.Small
set_option linter.unusedVariables false
set_option linter.unusedSimpArgs false
namespace Go.Sy
open Go.RowKit (Below)
def zO:Ex→Exit
 | .normal=>.normal
 | .exit id=>.exit id
 | .ret=>.ret
section
variable {P:Program} {N:Nat} {M0:dL} {w0:World} {post:Out→Prop} {hints:Nat→Option Hint}
def aJ8 (post:Out→Prop) (M0:dL) (w0:World) (Q:Exit→Act→World→Prop):Prop:=
 ∀ c v a w,post (.pan c)→c.rep M0.M w v→Kept M0 w0 w→a.defers = []→Q (.panic [{ v,recovered:=false }]) a w
def vB (P:Program) (post:Out→Prop) (M0:dL) (w0:World):Prop:=
 ∀ f args news,post (.orc f args news)→(∀ as w,(callFunc f as).run P w = .ok (.enter f as) w)∧∀ (M:Nat→Prop) (w:World) (vs:List Value),Kept M0 w0 w→dK M w→cG M w args vs→Calls P f vs.toArray w fun e w'=>Below w.heap.size w w'∧sK M w' (.ret news) e
theorem vB.no {P:Program} {out:Out} {M0:dL} {w0:World}:vB P (fun o=>jP o out) M0 w0:=fun f args news h=>by cases out<;>exact (h:False).elim
theorem vB.noR {P:Program} {rs:List aG} {ts:List (List aI)} {M0:dL} {w0:World}:vB P (fun o=>o = .retr rs ts) M0 w0:=fun f args news h=>by cases h
theorem vB.noE {P:Program} {rs:List aG} {M0:dL} {w0:World}:vB P (fun o=>o = .ret rs) M0 w0:=fun f args news h=>by cases h
def SM (P:Program) (N:Nat) (M0:dL) (w0:World) (post:Out→Prop) (d:Nat) (τ:Env) (bk:List (List aG→Prop)) (k:Ex→Nat→Nat→St→Eh→Tr) (Q:Exit→Act→World→Prop):Prop:=
 ∀ ex nb s dec m bk' ρ a w,bk'.take d=bk.take d→d≤bk'.length→vc P post (k ex nb (τ++m).length s dec) (τ++m) bk'→gU (τ++m) dec→Sat M0 w0 N s (τ++m) ρ a w→Q (zO ex) a w
theorem jR (hm:P.follows .mixedOrders=true):∀ (c:Code) (l d nb ni:Nat) (s:St) (dec:Eh) (k:Ex→Nat→Nat→St→Eh→Tr) (τ:Env) (bk:List (List aG→Prop)),
  vc P post (exec P N hints c l d nb ni s dec k) τ bk→τ.length=ni→gU τ dec→d≤bk.length →
  ∀ ρ a w (Q:Exit→Act→World→Prop),Sat M0 w0 N s τ ρ a w→aJ8 post M0 w0 Q→vB P post M0 w0→SM P N M0 w0 post d τ bk k Q→c.wp P Q a w:=by
 intro c
 induction c with
 | skip=>
   intro l d nb ni s dec k τ bk h hn hd hb ρ a w Q hs hp ho hk;refine wp_skip (hk .normal nb s dec [] bk ρ a w rfl hb ?_ (by rw [List.append_nil];exact hd) (by rw [List.append_nil];exact hs));rw [List.append_nil,hn];exact h
 | exit id=>
   intro l d nb ni s dec k τ bk h hn hd hb ρ a w Q hs hp ho hk;refine wp_exit (hk (.exit id) nb s dec [] bk ρ a w rfl hb ?_ (by rw [List.append_nil];exact hd) (by rw [List.append_nil];exact hs));rw [List.append_nil,hn];exact h
 | ret=>
   intro l d nb ni s dec k τ bk h hn hd hb ρ a w Q hs hp ho hk;refine wp_ret (hk .ret nb s dec [] bk ρ a w rfl hb ?_ (by rw [List.append_nil];exact hd) (by rw [List.append_nil];exact hs));rw [List.append_nil,hn];exact h
 | region id ops draw=>
   intro l d nb ni s dec k τ bk h hn hd hb ρ a w Q hs hp ho hk;have h:vc P post (jD P N ops ops.toList 0 nb ni s dec [] fun nb ni s dec recs=>if ordered recs then k .normal nb ni s dec else .fail 1000) τ bk:=h
   have main:∃ (m:Env) (fs:List CP) (z:Option Nat),gS P N ops Q M0 w0 (τ++m) z 0 s fs ops.toList∧ordered (fs.map (·.r)).reverse=true ∧
     ((∃ j,z=some j∧j<ops.size)∨(z=none∧∀ ρ a w,Sat M0 w0 N (s.apps (fs.map (·.e))) (τ++m) ρ a w→Q .normal a w)):=by
    rcases Cs hp ho ops.toList 0 nb ni s dec [] τ h hn hd (fun j=>by simp) with ⟨m,fs,nb',dec',h1,h2,h3⟩ | ⟨m,fs,z,h1,h2,h3,h4⟩
    ·rw [List.append_nil] at h3;split at h3
     ·rename_i ho;exact ⟨m,fs,none,h1,ho, .inr ⟨rfl,fun ρ a w hs=>hk .normal nb' _ dec' m bk ρ a w rfl hb h3 h2 hs⟩⟩
     ·exact h3.elim
    ·rw [List.append_nil] at h4;exact ⟨m,fs,some z,h1,h4, .inl ⟨z,rfl,by simpa using h3⟩⟩
   obtain ⟨m,fs,z,h1,h2,h3⟩:=main
   have hrepl:∀ j,(Array.replicate ops.size false).getD j false=false:=by
    intro j;rw [Array.getD_eq_getD_getElem?];cases h:(Array.replicate ops.size false)[j]? with
    | none=>rfl
    | some b=>have:=(Array.getElem?_eq_some_iff.1 h).2;simp at this;subst this;rfl
   cases draw with
   | true=>
     refine wp_region_any hm (Mj h1 h2 h3 ops.size _ ρ a _ (by simp) ?_ ?_ ?_ ?_)
     ·intro j f _ hl;rw [hrepl] at hl;cases hl
     ·intro j _;exact hrepl j
     ·exact Nat.le_trans (List.length_filter_le _ _) (by simp)
     ·have e:done s fs (fun j=>(Array.replicate ops.size false).getD j false)=s:=by
       show s.apps _=s;rw [Iv _ 0 _ fun j=>?_]
       ·rfl
       ·exact hrepl j
      rw [e];exact (hs.ext m).drew _
   | false=>
     refine wp_region ?_;rw [List.range_eq_range'];refine Mb h1 h2 h3 ops.size 0 ρ a w (Nat.zero_add _) (fun j _=>Nat.zero_le j) ?_;rw [List.take_zero];exact hs.ext m
 | seq x y ihx ihy=>
   intro l d nb ni s dec k τ bk h hn hd hb ρ a w Q hs hp ho hk;refine wp_seq (ihx l d nb ni s dec _ τ bk h hn hd hb ρ a w _ hs ?_ ho ?_)
   ·intro c v a w h1 h2 h3 h4;exact hp c v a w h1 h2 h3 h4
   ·intro ex nb' s' dec' m bk' ρ' a' w' hbk hb' hv hd' hs';cases ex with
    | normal=>
      refine ihy _ d nb' _ s' dec' k (τ++m) bk' hv rfl hd' hb' ρ' a' w' Q hs' hp ho ?_;intro ex2 nb2 s2 dec2 m2 bk2 ρ2 a2 w2 hbk2 hb2 hv2 hd2 hs2;rw [List.append_assoc] at hv2 hd2 hs2;exact hk ex2 nb2 s2 dec2 (m++m2) bk2 ρ2 a2 w2 (hbk2.trans hbk) hb2 hv2 hd2 hs2
    | exit id=>exact hk (.exit id) nb' s' dec' m bk' ρ' a' w' hbk hb' hv hd' hs'
    | ret=>exact hk .ret nb' s' dec' m bk' ρ' a' w' hbk hb' hv hd' hs'
 | cond c x y ihx ihy=>
   intro l d nb ni s dec k τ bk h hn hd hb ρ a w Q hs hp ho hk
   have h:vc P post (match (Fq c).run s with
    | some (.w (.one (.c x')))=>parts dec x' fun β dec=>if β then exec P N hints x l d nb ni s dec k else exec P N hints y (l+lL x) d nb ni s dec k
    | _=>.fail 1001) τ bk:=h
   split at h
   ·rename_i x' hx;obtain ⟨β,dec2,hc,hd2,hv⟩:=Ec hd h;have hval:(c0 τ x').rep (Ms M0 ρ s) w (a.eval c):=Ap hs hx;rw [hc] at hval;refine wp_cond (t:=β) hval.1 ?_;cases β with
    | true=>exact ihx l d nb ni s dec2 k τ bk hv hn hd2 hb ρ a w Q hs hp ho hk
    | false=>exact ihy _ d nb ni s dec2 k τ bk hv hn hd2 hb ρ a w Q hs hp ho hk
   ·exact h.elim
 | block id x ih=>
   intro l d nb ni s dec k τ bk h hn hd hb ρ a w Q hs hp ho hk;refine wp_block (ih l d nb ni s dec _ τ bk h hn hd hb ρ a w _ hs ?_ ho ?_)
   ·intro c v a w h1 h2 h3 h4;exact hp c v a w h1 h2 h3 h4
   ·intro ex nb' s' dec' m bk' ρ' a' w' hbk hb' hv hd' hs';cases ex with
    | normal=>exact hk .normal nb' s' dec' m bk' ρ' a' w' hbk hb' hv hd' hs'
    | exit id'=>
      show if id'=id then Q .normal a' w' else Q (.exit id') a' w'
      simp only at hv;split at hv
      ·rename_i e;rw [if_pos e];exact hk .normal nb' s' dec' m bk' ρ' a' w' hbk hb' hv hd' hs'
      ·rename_i e;rw [if_neg e];exact hk (.exit id') nb' s' dec' m bk' ρ' a' w' hbk hb' hv hd' hs'
    | ret=>exact hk .ret nb' s' dec' m bk' ρ' a' w' hbk hb' hv hd' hs'
 | loop x ih=>
   intro l d nb ni s dec k τ bk h hn hd hb ρ a w Q hs hp ho hk
   have h:vc P post (match head P ((hints l).getD (auto P N x s)) (EN x) s nb ni with
    | none=>.fail 1002
    | some h=>.loop d h.inits (exec P N hints x (l+1) (d+1) h.nb h.ni h.s dec (ZP P ((hints l).getD (auto P N x s)) ni h d k))) τ bk:=h
   generalize (hints l).getD (auto P N x s)=hint at h;split at h
   ·exact h.elim
   ·rename_i hd0 hh;obtain ⟨G,tys,μ,g0,hg0,hlen,hbody⟩:=h
    have hfit:fits ni hd0.inits hd0.F hd0.s s=true∧hd0.ni=ni+hd0.inits.length:=by
     unfold head at hh;split at hh
     ·simp only at hh;split at hh
      ·rename_i hc;simp only [Option.some.injEq] at hh;subst hh;simp only [Bool.and_eq_true,decide_eq_true_eq] at hc;exact hc
      ·cases hh
     ·cases hh
    refine wp_loop_ghost (fun n a' w'=>∃ g ρ',μ g=n∧Sat M0 w0 N hd0.s (τ++tys g) ρ' a' w') (μ g0) ?_ ?_
    ·have hs0:Sat M0 w0 N s (τ ++ []) ρ a w:=by rw [List.append_nil];exact hs
     obtain ⟨ρ',h1⟩:=Oq hs0 hn hfit.1;rw [List.append_nil] at h1;exact ⟨g0,ρ',rfl,h1.sub (aO.app (aO.refl τ) hg0)⟩
    ·rintro n a' w' ⟨g,ρ',rfl,hs'⟩;have htl:(bk.take d).length=d:=by rw [List.length_take];omega
     refine ih (l+1) (d+1) hd0.nb hd0.ni hd0.s dec _ (τ++tys g) _ (hbody g) (by rw [List.length_append,hlen,hn,hfit.2]) (hd.ext _) (by simp [htl]) ρ' a' w' _ hs' ?_ ho ?_
     ·intro c v a w h1 h2 h3 h4;exact hp c v a w h1 h2 h3 h4
     ·intro ex nb2 s2 dec2 m bk2 ρ2 a2 w2 hbk2 hb2 hv2 hd2 hs2
      have htake:bk2.take d=bk.take d:=by
       have:=congrArg (List.take d) hbk2;rw [List.take_take,List.take_take,Nat.min_eq_left (Nat.le_succ d)] at this;rw [this,List.take_append_of_le_length (by omega),List.take_take,Nat.min_self]
      have hother:∀ e:Ex,vc P post (k e nb2 (τ++tys g++m).length s2 dec2) (τ++tys g++m) bk2→Q (zO e) a2 w2:=by
       intro e hv;rw [List.append_assoc] at hv hd2 hs2;exact hk e nb2 s2 dec2 (tys g++m) bk2 ρ2 a2 w2 htake (by omega) hv hd2 hs2
      cases ex with
      | normal=>
        have hv2:vc P post (match Tc P hint ni hd0 s2 with | some vs=>.back d vs | none=>.fail 1003) (τ++tys g++m) bk2:=hv2;split at hv2
        ·rename_i vs hvs;obtain ⟨f,hf,hfv⟩:=hv2
         have hget:bk2[d]? = some (fun ts=>∃ g',aO ts (tys g')∧μ g'<μ g):=by
          have h1:(bk2.take (d+1))[d]? = bk2[d]?:=by rw [List.getElem?_take,if_pos (Nat.lt_succ_self d)]
          rw [←h1,hbk2,List.getElem?_take,if_pos (Nat.lt_succ_self d),List.getElem?_append_right (by omega),htl,Nat.sub_self];rfl
         rw [hget] at hf;simp only [Option.some.injEq] at hf;subst hf;obtain ⟨g',hg',hlt⟩:=hfv
         have hfb:∃ F,fits ni vs F hd0.s s2=true:=by
          unfold Tc at hvs;split at hvs
          ·simp only at hvs;split at hvs
           ·rename_i hc;simp only [Option.some.injEq] at hvs;subst hvs;exact ⟨_,hc⟩
           ·cases hvs
          ·cases hvs
         obtain ⟨F,hF⟩:=hfb;rw [List.append_assoc] at hs2 hg';obtain ⟨ρ3,h3⟩:=Oq hs2 hn hF;exact ⟨μ g',hlt,g',ρ3,rfl,h3.sub (aO.app (aO.refl τ) hg')⟩
        ·exact hv2.elim
      | exit id=>exact hother (.exit id) hv2
      | ret=>exact hother .ret hv2
 | _=>intro l d nb ni s dec k τ bk h;exact h.elim
inductive In where
 | v (t:aG)
 | ref (cells:List aI)
 | lent (E sz:Nat) (ts:List (List aI))
def In.ty:In→aG
 | .v t=>t
 | .ref cells=>.one (.bC cells)
 | .lent _ _ _=>.rows []
def In.env:In→aG
 | .v t=>t
 | .ref cells=>.agg cells
 | .lent _ _ ts=>.rows ts
def In.Is:Arg→In→Prop
 | .v sh, .v t=>t.shape=some sh
 | .ref n, .ref cells=>cells.length=n
 | .lent E sz, .lent E' sz' ts=>E'=E∧sz'=sz
 | _,_=>False
end
section
variable {P:Program} {N:Nat} {M0:dL} {w0 w:World} {s:St} {τ:Env} {ρ:Nat→Gh} {a:Act}
def mB (tmps:Array Value) (r:ResultVar):Sem Value:=
 match r with
 | .tmp t=>pure (tmps.getD t Go.undef)
 | .cell b t=>do loadVar t (←asAddr (tmps.getD b Go.undef))
theorem iK (fn:Func) (tmps:Array Value) (vs:List Value) (h:(fn.results.toList.mapM (mB tmps)).run P w = .ok vs w) :
  (results fn tmps).run P w = .ok (pack vs) w:=by
 have e:results fn tmps=(do
   let vs ←fn.results.mapM (mB tmps)
   pure (if h:vs.size=1 then vs[0] else .tuple vs)):=rfl
 rw [e,Array.mapM_eq_mapM_toList];simp only [Sem.run_bind,Sem.run_map,h,Result.andThen_ok,Sem.run_pure]
 congr 1
 match vs with
 | []=>rfl
 | [v]=>rfl
 | _::_::_=>rfl
theorem Ci (h:Sat M0 w0 N s τ ρ a w) (l:List Nat):bV M0 ρ s l M0.M:=
 ⟨fun k hk=>.inl hk,fun b x k h1 h2 _ hk=>by
  exact h.old k hk (h.lo b x k h1 h2).1⟩
theorem oU (h:Sat M0 w0 N s τ ρ a w) {M':Nat→Prop}:∀ {rs:List ResultVar} {vs:List SW} {l:List Nat},(Ar P s rs).run s=some (vs,l)→bV M0 ρ s l M' →
  ∃ us,(rs.mapM (mB a.tmps)).run P w = .ok us w∧cG M' w (vs.map (oV τ)) us
 | [],vs,l,hq,hS=>by
   simp only [Ar,Q.eK,Option.some.injEq,Prod.mk.injEq] at hq;obtain ⟨rfl,rfl⟩:=hq;exact ⟨[],rfl,trivial⟩
 | .tmp t::rs,vs,l,hq,hS=>by
   obtain ⟨v,h1,h2⟩:=Q.bind_some hq;obtain ⟨⟨y,l1⟩,h3,h4⟩:=Q.bind_some h2;obtain ⟨⟨ys,l2⟩,h5,h6⟩:=Q.bind_some h4;simp only [Q.run_pure,Option.some.injEq,Prod.mk.injEq] at h6;obtain ⟨rfl,rfl⟩:=h6;obtain ⟨us,hr,hrep⟩:=oU h h5 (hS.mono fun x hx=>List.mem_append_right _ hx);refine ⟨a.tmps.getD t Go.undef::us,?_,Ia h h3 (hS.mono fun x hx=>List.mem_append_left _ hx) (rE h h1),hrep⟩;simp only [List.mapM_cons,mB,Sem.run_bind,Sem.run_pure,Result.andThen_ok,hr]
 | .cell t T::rs,vs,l,hq,hS=>by
   obtain ⟨c,h1,h2⟩:=Q.bind_some hq;have hx:=dJ h h1;cases c with
   | p b off=>
     obtain ⟨bx,h3,h4⟩:=Q.bind_some h2;simp only [fY,Option.some.injEq] at h3;cases bx with
     | none=>cases h4
     | some bx=>cases bx with
       | row=>cases h4
       | part=>cases h4
       | dead=>cases h4
       | var T' cells=>
         obtain ⟨⟨ag,n⟩,h5,h6⟩:=Q.bind_some h4;rw [dH] at h5;obtain ⟨cs,h7,h8⟩:=Q.bind_some h6;rw [dH] at h7;obtain ⟨⟨cs',l1⟩,h9,h10⟩:=Q.bind_some h8;obtain ⟨⟨ys,l2⟩,h11,h12⟩:=Q.bind_some h10;obtain ⟨v,h13,h14⟩:=Q.bind_some h12;simp only [Q.run_pure,Option.some.injEq,Prod.mk.injEq] at h14;obtain ⟨rfl,rfl⟩:=h14;obtain ⟨us,hr,hrep⟩:=oU h h11 (hS.mono fun x hx=>List.mem_append_right _ hx);obtain ⟨hlen,rfl⟩:=uF h7;obtain ⟨vs',hh,hall⟩:=h.bx b _ h3;have hl:=hall.length;have hcs:=Ah h h9 (hS.mono fun x hx=>List.mem_append_left _ hx) ((hall.drop off).take n);have hcl:=hcs.length
         have hn1:ag=true∨n=1:=by
          cases ag with
          | true=>exact .inl rfl
          | false=>
            right
            simp only [Bool.false_eq_true,if_false] at h13;split at h13
            ·simp only [List.length_map,List.length_singleton,List.length_take,List.length_drop] at hcl;omega
            ·cases h13
         obtain ⟨u,hru,hu⟩:=gB (P:=P) (w:=w) h5 hh (off:=off) (by simp;omega) hn1;have hxe:a.tmps.getD t Go.undef = .pointer (some ⟨(ρ b).blk,off,none⟩):=hx.2;refine ⟨u::us,?_,?_,hrep⟩
         ·simp only [List.mapM_cons,mB,Sem.run_bind,hxe,asAddr,Sem.run_pure,Result.andThen_ok,hru,hr]
         ·cases ag with
          | true=>
            simp only [if_true,Q.eK,Option.some.injEq] at h13 hu;subst h13;exact ⟨_,hu,by simpa using hcs⟩
          | false=>
            simp only [Bool.false_eq_true,if_false] at h13 hu;split at h13
            ·rename_i c';simp only [Q.eK,Option.some.injEq] at h13;subst h13;have hu':(vs'.drop off).take n = [u]:=by simpa using hu
             rw [hu'] at hcs;exact hcs.1
            ·cases h13
   | _=>cases h2
theorem oW {M:Nat→Prop} {k:Nat}:¬ (dL.mk M ⟨0,Go.undef,#[]⟩).O k:=fun h=>by cases h
theorem Kept.below {M:Nat→Prop} {w0 w:World} (h:Kept ⟨M,⟨0,Go.undef,#[]⟩⟩ w0 w):Below w0.heap.size w0 w:=
 ⟨h.os,h.tape,h.output,h.size,fun k hk=>h.block k hk oW⟩
theorem mK {M:Nat→Prop} {ex:Nat→Prop} {i:Nat} {g:Arg} {x:In} {v:Value} (hτ:τ[i]? = some x.env) (hi:In.Is g x) (hv:x.ty.rep M w v):fM ex τ ρ M w (dG i g) v:=by
 cases g with
 | v sh=>cases x with
   | v t=>exact sF hτ hi hv
   | ref cells=>exact hi.elim
   | lent _ _ _=>exact hi.elim
 | lent _ _=>cases x with
   | v t=>exact hi.elim
   | ref cells=>exact hi.elim
   | lent _ _ _=>exact (hv:False).elim
 | ref n=>cases x with
   | v t=>exact hi.elim
   | lent _ _ _=>exact hi.elim
   | ref cells=>
     have hc:((List.range n).map fun j=>C0.u i j).map (c0 τ)=cells:=by
      apply List.ext_getElem?;intro j;rw [List.map_map,List.getElem?_map];have hl:cells.length=n:=hi;by_cases hj:j<n
      ·rw [List.getElem?_range hj,List.getElem?_eq_getElem (by omega)];simp only [Option.map_some,Function.comp,c0,List.getD_eq_getElem?_getD,hτ,Option.getD_some,In.env,aG.cell,aG.cells,List.getElem?_eq_getElem (show j<cells.length by omega)]
      ·rw [List.getElem?_eq_none (by simpa using hj),List.getElem?_eq_none (by omega)];rfl
     show (aI.bC _).rep M w v;rw [hc,List.drop_zero];exact hv
theorem aD {f:FuncId} {fn:Func} {hints:Nat→Option Hint} {args:List Arg} {ins:List In} {out:Out} (hm:P.follows .mixedOrders=true) (hok:zP P f=true)
  (hf:P.funcs[f]? = some fn) (hin:aX In.Is args ins) (h:vc P (fun o=>jP o out) (aN P fn hints args) (ins.map In.env) []):aK P f (ins.map In.ty) out:=by
 refine ⟨bP hok,fun M w vs hM hvs=>?_⟩;unfold aN at h;split at h
 ·exact h.elim
 ·rename_i c hb;split at h
  ·rename_i hlen;refine calls_of_wp hf hb ?_;have hil:ins.length=args.length:=hin.length.symm;have hvl:vs.length=args.length:=by rw [←hvs.length];simpa using hil
   refine jR (M0:=⟨M,⟨0,Go.undef,#[]⟩⟩) (w0:=w) hm c 0 0 0 args.length _ [] _ (ins.map In.env) [] h (by simpa using hil) (by intro x hx;cases hx) (Nat.le_refl _) (fun _=>⟨0,Go.undef,#[]⟩) _ w _ ?_ ?_ vB.no ?_
   ·refine ⟨⟨rfl,rfl,rfl,Nat.le_refl _,fun _ _ _=>rfl,fun x hx=>⟨(hM.2 x hx).1,oW,(hM.2 x hx).2⟩⟩,?_,rfl,fun t=>?_,(by intro b x hb;cases hb),(by intro b b' x x' k hb;cases hb),(by intro b x k hb;cases hb),fun k hk ho=>ho.elim (fun h=>Nat.not_lt.2 h (hM.1 k hk)) oW,(by intro b E sz cid hb;cases hb)⟩
    ·simp;omega
    ·have hlook:∀ (l:List Arg) (d:Nat),(look (l.mapIdx fun i a=>(d+i,dG (d+i) a)) t)=if d≤t then (l[t-d]?).map (dG t) else none:=by
      intro l
      induction l with
      | nil=>intro d;simp [look]
      | cons x l ih=>
        intro d;rw [List.mapIdx_cons];simp only [look,Nat.add_zero]
        have e:(l.mapIdx fun i a=>(d+(i+1),dG (d+(i+1)) a))=l.mapIdx fun i a=>(d+1+i,dG (d+1+i) a):=by
         congr 1;funext i a;rw [show d+(i+1)=d+1+i by omega]
        rw [e,ih (d+1)];by_cases h1:d=t
        ·subst h1;simp
        ·rw [if_neg h1];by_cases h2:d+1≤t
         ·rw [if_pos h2,if_pos (by omega),show t-d=(t-(d+1))+1 by omega,List.getElem?_cons_succ]
         ·rw [if_neg h2,if_neg (by omega)]
     have hst:(⟨args.mapIdx fun i a=>(i,dG i a),[],[]⟩:St).t t=((args[t]?).map (dG t)).getD .junk:=by
      have:=hlook args 0;simp only [Nat.zero_add,Nat.zero_le,if_true,Nat.sub_zero] at this;simp only [St.t,this]
     rw [hst];cases hat:args[t]? with
     | none=>trivial
     | some g=>
       have htl:t<args.length:=(List.getElem?_eq_some_iff.1 hat).1;have hiv:∃ x,ins[t]? = some x∧In.Is g x:=hin.get t g hat;obtain ⟨x,hx,hix⟩:=hiv;have hvt:vs[t]? = some (vs[t]'(by omega)):=List.getElem?_eq_getElem (by omega);obtain ⟨ty,hty,hrep⟩:=hvs.get t _ hvt;rw [List.getElem?_map,hx] at hty;simp only [Option.map_some,Option.some.injEq] at hty;subst hty
       have hval:(vs.toArray++Array.replicate (fn.ntmps-vs.toArray.size) Go.undef).getD t Go.undef=vs[t]'(by omega):=by
        rw [Array.getD_eq_getD_getElem?,Array.getElem?_append_left (by simp;omega)];simp [hvt]
       rw [hval];refine mK (by rw [List.getElem?_map,hx];rfl) hix (aG.yC ?_ hrep);intro k o hk ho _;refine ⟨fun hm=>?_,ho⟩;rcases hm with hm | ⟨b,x,hb,_⟩
       ·exact hk hm
       ·cases hb
   ·intro c v a w' hp hr hb hd;refine ⟨hd,hb.below,?_⟩;cases out with
    | pan d=>have hp:c=d:=hp;subst hp;exact ⟨v,rfl,hr⟩
    | ret _=>exact hp.elim
    | orc _ _ _=>exact hp.elim
    | retr _ _=>exact hp.elim
   ·intro ex nb s dec m bk' ρ a w' _ _ hv _ hs
    have key:vc P (fun o=>jP o out) (match (Ar P s fn.results.toList).run s with
      | some (vs,_)=>.ret vs
      | none=>.fail 1008) (ins.map In.env++m) bk'→a.defers = []∧∃ v,(results fn a.tmps).run P w' = .ok v w'∧(Below w.heap.size w w'∧sK M w' out (.returned v)):=by
     intro hv;split at hv
     ·rename_i vs' l hq;obtain ⟨us,hr,hrep⟩:=oU hs hq (Ci hs _);refine ⟨hs.df,_,iK fn a.tmps us hr,hs.below.below,?_⟩;cases out with
      | ret rs=>exact ⟨us,rfl,cG.sub hv hrep⟩
      | retr _ _=>exact hv.elim
      | orc _ _ _=>exact hv.elim
      | pan _=>exact hv.elim
     ·exact hv.elim
    cases ex with
    | normal=>exact key hv
    | ret=>exact key hv
    | exit id=>exact hv.elim
  ·exact h.elim
end
open Go.RowKit (Below)
section
variable {P:Program} {T U ty:TypeId} {x y:Operand}
theorem AQ {M:Nat→Prop} {w:World} {ρ:Operand→Value} {t:aG} (h:cG M w [t] ((#[x]:Array Operand).toList.map ρ)):t.rep M w (ρ x):=h.1
theorem vE {M:Nat→Prop} {w:World} {ρ:Operand→Value} {t u:aG} (h:cG M w [t,u] ((#[x,y]:Array Operand).toList.map ρ)):t.rep M w (ρ x)∧u.rep M w (ρ y):=⟨h.1,h.2.1⟩
theorem mA {op:BinOp} {k:IntKind} {a b:Int} {r:Value} (h1:r.oneCell'=true) (h:∀ w,(binOp op T (.int k a) (.int k b)).run P w = .ok r w) :
  aZ P (.binOp op T x y U) ty [.one (.int k a), .one (.int k b)] (.one (.exact r)):=by
 intro M w ρ o ho _ hr;obtain ⟨hx,hy⟩:=vE hr;have hx:ρ x = .int k a∧_:=hx;have hy:ρ y = .int k b∧_:=hy;refine ⟨r,?_,⟨rfl,h1⟩⟩
 have hg:(eqGuard op T x y (.int k a) (.int k b)).run P w = .ok () w:=by
  unfold eqGuard;cases op<;>simp
 simp only [execOp,ho,hx.1,hy.1,Sem.run_bind,hg,Result.andThen_ok,h w,Sem.run_pure]
theorem eA {k:IntKind} {a b c:Int} (h:k.wrap (a+b)=c):aZ P (.binOp .add T x y U) ty [.one (.int k a), .one (.int k b)] (.one (.int k c)):=
 mA rfl fun w=>by simp [binOp,Op.intArith,h]
theorem oZ {k:IntKind} {a b c:Int} (h:k.wrap (a-b)=c):aZ P (.binOp .sub T x y U) ty [.one (.int k a), .one (.int k b)] (.one (.int k c)):=
 mA rfl fun w=>by simp [binOp,Op.intArith,h]
theorem sO {k:IntKind} {a b c:Int} (h:k.wrap (a*b)=c):aZ P (.binOp .mul T x y U) ty [.one (.int k a), .one (.int k b)] (.one (.int k c)):=
 mA rfl fun w=>by simp [binOp,Op.intArith,h]
theorem qU {k:IntKind} {a b c:Int} (hb:b≠0) (h:k.wrap (a.tdiv b)=c):aZ P (.binOp .quo T x y U) ty [.one (.int k a), .one (.int k b)] (.one (.int k c)):=
 mA rfl fun w=>by simp [binOp,Op.intDiv,hb,h]
theorem CT {k:IntKind} {a b c:Int} (hb:b≠0) (h:a.tmod b=c):aZ P (.binOp .rem T x y U) ty [.one (.int k a), .one (.int k b)] (.one (.int k c)):=
 mA rfl fun w=>by simp [binOp,Op.intDiv,hb,h]
theorem TV {k:IntKind} {a b:Int}:aZ P (.binOp .eql T x y U) ty [.one (.int k a), .one (.int k b)] (.one (.bool (decide (a=b)))):=
 mA rfl fun w=>by simp [binOp,Op.intCmp,BEq.beq]
theorem Jr {k:IntKind} {a b:Int}:aZ P (.binOp .neq T x y U) ty [.one (.int k a), .one (.int k b)] (.one (.bool (!decide (a=b)))):=
 mA rfl fun w=>by simp [binOp,Op.intCmp,bne,BEq.beq]
theorem vF {k:IntKind} {a b:Int}:aZ P (.binOp .lss T x y U) ty [.one (.int k a), .one (.int k b)] (.one (.bool (decide (a<b)))):=
 mA rfl fun w=>by simp [binOp,Op.intCmp]
theorem aF3 {k:IntKind} {a b:Int}:aZ P (.binOp .leq T x y U) ty [.one (.int k a), .one (.int k b)] (.one (.bool (decide (a≤b)))):=
 mA rfl fun w=>by simp [binOp,Op.intCmp]
theorem IQ {k:IntKind} {a b:Int}:aZ P (.binOp .gtr T x y U) ty [.one (.int k a), .one (.int k b)] (.one (.bool (decide (b<a)))):=
 mA rfl fun w=>by simp [binOp,Op.intCmp]
theorem El {k:IntKind} {a b:Int}:aZ P (.binOp .geq T x y U) ty [.one (.int k a), .one (.int k b)] (.one (.bool (decide (b≤a)))):=
 mA rfl fun w=>by simp [binOp,Op.intCmp]
theorem mL {b:Bool}:aZ P (.unOp .not T x) ty [.one (.bool b)] (.one (.bool (!b))):=by
 intro M w ρ o ho _ hr;have hx:ρ x = .bool b∧_:=AQ hr;exact ⟨.bool (!b),by simp [execOp,ho,hx.1,Op.unary],⟨rfl,rfl⟩⟩
theorem Zq {k:IntKind} {a c:Int} (h:k.wrap (0-a)=c):aZ P (.unOp .neg T x) ty [.one (.int k a)] (.one (.int k c)):=by
 intro M w ρ o ho _ hr;have hx:ρ x = .int k a∧_:=AQ hr;exact ⟨.int k c,by simp [execOp,ho,hx.1,Op.unary,Op.intArith,←h],⟨rfl,rfl⟩⟩
theorem iD {k k':IntKind} {a c:Int} (hu:∃ d,P.underlying T=some d) (hd:P.underlying U=some (.int k')) (h:k'.wrap a=c):aZ P (.convert T U x) ty [.one (.int k a)] (.one (.int k' c)):=by
 obtain ⟨d,hu⟩:=hu;intro M w ρ o ho _ hr;have hx:ρ x = .int k a∧_:=AQ hr;refine ⟨.int k' c,?_,⟨rfl,rfl⟩⟩
 have:(convert T U (.int k a)).run P w = .ok (.int k' c) w:=by
  simp [convert,run_underlying hu,run_underlying hd,Conv.intToInt,h]
 simp only [execOp,ho,hx.1,Sem.run_bind,this,Result.andThen_ok,Sem.run_pure]
theorem aQ {E sz n:Nat} {ts:List (List aI)} {b:Nat} {s2:Nat} (h:dB P T=some (E,s2,b)) (hn:ts.length=n):aZ P (.call ⟨.builtin .len,#[x],#[T]⟩) ty [.one (.slice sz ts)] (.one (.int .i64 n)):=by
 intro M w ρ o ho _ hr;have hx:(aI.slice sz ts).rep M w (ρ x):=AQ (x:=x) hr;obtain ⟨ad,cap,hv,_⟩:=hx;obtain ⟨ie,hu,_⟩:=cM h;exact ⟨.int .i64 n,by simp [execOp,ho,resolve,invoke,builtin,Builtin.len_,hv,run_underlying hu,goInt,hn],⟨rfl,rfl⟩⟩
theorem Zw {E sz b:Nat} {k:IntKind} {n:Int} {ts:List (List aI)} {t:List aI} (h:dB P T=some (E,sz,b)) (h0:0≤n) (ht:ts[n.toNat]? = some t) :
  aZ P (.indexAddr T x y) ty [.one (.slice sz ts), .one (.int k n)] (.one (.bC t)):=by
 intro M w ρ o ho _ hr;obtain ⟨hx,hy⟩:=vE (x:=x) (y:=y) hr;have hx:(aI.slice sz ts).rep M w (ρ x):=hx;have hy:ρ y = .int k n∧_:=hy;obtain ⟨ad,cap,hv,hc,hm,hel⟩:=hx;obtain ⟨ie,hu,hie,hies,_⟩:=cM h;have hlt:n.toNat<ts.length:=(List.getElem?_eq_some_iff.1 ht).1;rcases hel with rfl | ⟨bl,off,cs,T',fz,rfl,hb,hh,hel⟩
 ·simp at hlt
 ·have hin:0≤n∧n<(ts.length:Int):=⟨h0,by omega⟩
  refine ⟨.pointer (some ⟨bl,off+n.toNat*sz,none⟩),?_,?_⟩
  ·simp [execOp,ho,hv,hy.1,Instr.indexAt,asIntOf,run_underlying hu,sizeOf,typeInfo,hie,hies,hin,oK]
  ·have:=hel n.toNat t ht;refine ⟨bl,off+n.toNat*sz,cs,T',fz,rfl,hb,hh,?_⟩;rw [this.1];exact this.2
theorem bZ {ag:Bool} {n:Nat} {cells:List aI} (h:kD P T=some (ag,n)) (hpos:0<n) (hn:n≤cells.length) (h1:ag=true∨n=1) :
  aZ P (.load T x) ty [.one (.bC cells)] (Qa ag (cells.take n)):=by
 intro M w ρ o ho _ hr;have hx:(aI.bC cells).rep M w (ρ x):=AQ (x:=x) hr;obtain ⟨b,off,cs,T',fz,hv,hb,hh,hrep⟩:=hx;have hl:=hrep.length;simp only [List.length_take,List.length_drop,Array.length_toList] at hl;obtain ⟨v,hrun,hval⟩:=gB (P:=P) (w:=w) h hh (off:=off) (n:=n) (by omega) h1;refine ⟨v,by simp [execOp,ho,hv,Instr.loadAt,Instr.sureAddr,hrun],?_⟩;have h2:=hrep.take n;rw [List.take_take,Nat.min_eq_left hn] at h2;cases ag with
 | true=>
   simp only [if_true] at hval;exact ⟨_,hval,h2⟩
 | false=>
   simp only [Bool.false_eq_true,if_false] at hval;rw [hval] at h2;have hl2:=h2.length;simp only [Qa,Bool.false_eq_true,if_false]
   match hc:cells.take n,h2 with
   | [c],h2=>exact h2.1
   | [],h2=>simp [hc] at hl2
   | _::_::_,h2=>simp [hc] at hl2
theorem Ow {cells:List aI}:aZ P (.nilCheck x) ty [.one (.bC cells)] (.one (.bC cells)):=by
 intro M w ρ o ho _ hr;have hx:(aI.bC cells).rep M w (ρ x):=AQ (x:=x) hr;have hx':=hx;obtain ⟨b,off,cs,T',fz,hv,_⟩:=hx;exact ⟨ρ x,by simp [execOp,ho,hv],hx'⟩
theorem rD {f ft fo fs:Nat} {cells:List aI} (h:iB P T f=some (ft,fo,fs)) (hpos:0<fs):aZ P (.fieldAddr T x f) ty [.one (.bC cells)] (.one (.bC (cells.drop fo))):=by
 intro M w ρ o ho _ hr;have hx:(aI.bC cells).rep M w (ρ x):=AQ (x:=x) hr;obtain ⟨b,off,cs,T',fz,hv,hb,hh,hrep⟩:=hx;obtain ⟨fls,fl,i,hu,hfl,rfl,rfl,hi,rfl⟩:=tS h;have hne:¬ i.size=0:=by omega
 refine ⟨.pointer (some ⟨b,off+fl.offset,none⟩),?_,⟨b,off+fl.offset,cs,T',fz,rfl,hb,hh,?_⟩⟩
 ·simp [execOp,ho,hv,Instr.fieldAt,run_underlying hu,hfl,Instr.sureAddr,fieldPlace,sizeOf,typeInfo,hi,hne,oK]
 ·have:=hrep.drop fl.offset;rw [List.drop_take,List.drop_drop] at this;rw [List.length_drop];exact this
theorem vV {M:Nat→Prop} {w:World} {sz:Nat} {ts:List (List aI)} {ad:Option Addr} {cap l h m:Nat} (hs:(aI.slice sz ts).rep M w (.slice ad ts.length cap)) (hlh:l≤h) (hh:h≤ts.length) (hm:h≤m) (hmc:m≤cap) :
  (aI.slice sz ((ts.take h).drop l)).rep M w (.slice (if m=l then ad else ad.map (·.add (l*sz))) (h-l) (m-l)):=by
 obtain ⟨ad',cap',he,hc,hcm,hel⟩:=hs;simp only [Value.slice.injEq,true_and] at he;obtain ⟨rfl,rfl⟩:=he;have hlen:((ts.take h).drop l).length=h-l:=by simp;omega
 refine ⟨_,m-l,by rw [hlen],by rw [hlen];omega,by omega,?_⟩;by_cases hz:h=l
 ·left;exact List.eq_nil_of_length_eq_zero (by omega)
 ·rcases hel with rfl | ⟨b,off,cs,T,fz,rfl,hb,hh2,hel⟩
  ·simp at hh;omega
  ·refine .inr ⟨b,off+l*sz,cs,T,fz,?_,hb,hh2,fun i t ht=>?_⟩
   ·rw [if_neg (by omega)];simp [oK]
   ·rw [List.getElem?_drop,List.getElem?_take] at ht;split at ht
    ·have:=hel (l+i) t ht;rw [Nat.add_mul] at this;rw [Nat.add_assoc];exact this
    ·cases ht
theorem Gb {E sz b:Nat} {k:IntKind} {n:Int} {ts:List (List aI)} (h:dB P T=some (E,sz,b)) (h0:0≤n) (hn:n.toNat≤ts.length) :
  aZ P (.slice T x none (some y) none) ty [.one (.slice sz ts), .one (.int k n)] (.one (.slice sz (ts.take n.toNat))):=by
 intro M w ρ o ho _ hr;have hx:(aI.slice sz ts).rep M w (ρ x):=hr.1;have hy:ρ y = .int k n∧_:=hr.2.1;have hx':=hx;obtain ⟨ad,cap,hv,hc,hm,_⟩:=hx;rw [hv] at hx';obtain ⟨ie,hu,hie,hies,_⟩:=cM h;have:=vV (l:=0) (h:=n.toNat) (m:=cap) hx' (Nat.zero_le _) hn (by omega) (Nat.le_refl _);rw [List.drop_zero] at this;refine ⟨_,?_,this⟩;have hin:0≤n∧n≤(cap:Int):=⟨h0,by omega⟩
 simp [execOp,ho,hv,hy.1,Instr.sliceAt,Instr.slice,Instr.sliceBounds,Instr.sliceBound,asIntOf,run_underlying hu,sizeOf,typeInfo,hie,hies,hin]
theorem Gv {E sz b:Nat} {k:IntKind} {n:Int} {ts:List (List aI)} (h:dB P T=some (E,sz,b)) (h0:0≤n) (hn:n.toNat≤ts.length) :
  aZ P (.slice T x (some y) none none) ty [.one (.slice sz ts), .one (.int k n)] (.one (.slice sz (ts.drop n.toNat))):=by
 intro M w ρ o ho _ hr;have hx:(aI.slice sz ts).rep M w (ρ x):=hr.1;have hy:ρ y = .int k n∧_:=hr.2.1;have hx':=hx;obtain ⟨ad,cap,hv,hc,hm,_⟩:=hx;rw [hv] at hx';obtain ⟨ie,hu,hie,hies,_⟩:=cM h;have:=vV (l:=n.toNat) (h:=ts.length) (m:=cap) hx' hn (Nat.le_refl _) hc (Nat.le_refl _);rw [List.take_length] at this;refine ⟨_,?_,this⟩;have hin:0≤n∧n≤(ts.length:Int):=⟨h0,by omega⟩
 simp [execOp,ho,hv,hy.1,Instr.sliceAt,Instr.slice,Instr.sliceBounds,Instr.sliceBound,asIntOf,run_underlying hu,sizeOf,typeInfo,hie,hies,hin]
theorem Dc {E sz b:Nat} {k k':IntKind} {n:Int} {z:Operand} {ts:List (List aI)} (h:dB P T=some (E,sz,b)) (h0:0≤n) (hn:n.toNat≤ts.length) :
  aZ P (.slice T x none (some y) (some z)) ty [.one (.slice sz ts), .one (.int k n), .one (.int k' n)] (.one (.slice sz (ts.take n.toNat))):=by
 intro M w ρ o ho _ hr;have hx:(aI.slice sz ts).rep M w (ρ x):=hr.1;have hy:ρ y = .int k n∧_:=hr.2.1;have hz:ρ z = .int k' n∧_:=hr.2.2.1;have hx':=hx;obtain ⟨ad,cap,hv,hc,hm,_⟩:=hx;rw [hv] at hx';obtain ⟨ie,hu,hie,hies,_⟩:=cM h;have:=vV (l:=0) (h:=n.toNat) (m:=n.toNat) hx' (Nat.zero_le _) hn (Nat.le_refl _) (by omega);rw [List.drop_zero] at this;refine ⟨_,?_,this⟩;have hin:0≤n∧n≤(cap:Int):=⟨h0,by omega⟩
 have hin2:max n 0=n:=by omega
 simp [execOp,ho,hv,hy.1,hz.1,Instr.sliceAt,Instr.slice,Instr.sliceBounds,Instr.sliceBound,asIntOf,run_underlying hu,sizeOf,typeInfo,hie,hies,hin,hin2]
theorem Ql {s t:ByteArray} (h:((s.size+t.size:Nat):Int)≤9223372036854775807):aZ P (.binOp .add T x y U) ty [.one (.str s), .one (.str t)] (.one (.str (s++t))):=by
 intro M w ρ o ho _ hr;obtain ⟨hx,hy⟩:=vE hr;have hx:ρ x = .string s∧_:=hx;have hy:ρ y = .string t∧_:=hy;refine ⟨.string (s++t),?_,⟨rfl,rfl⟩⟩;have hmax:IntKind.i64.max=9223372036854775807:=by simp [IntKind.max,IntKind.signed,IntKind.bits]
 have hno:¬ (9223372036854775807<((s.size:Int)+(t.size:Int))):=by
  have:((s.size+t.size:Nat):Int)=(s.size:Int)+(t.size:Int):=by simp
  omega
 simp [execOp,ho,hx.1,hy.1,eqGuard,binOp,Op.stringOp,hmax,hno]
theorem OE {s t:ByteArray}:aZ P (.binOp .eql T x y U) ty [.one (.str s), .one (.str t)] (.one (.bool (s.toList==t.toList))):=by
 intro M w ρ o ho _ hr;obtain ⟨hx,hy⟩:=vE hr;have hx:ρ x = .string s∧_:=hx;have hy:ρ y = .string t∧_:=hy;exact ⟨.bool (s.toList==t.toList),by simp [execOp,ho,hx.1,hy.1,eqGuard,binOp,Op.stringOp],⟨rfl,rfl⟩⟩
end
section
variable {P:Program} {post:Out→Prop} {bk:List (List aG→Prop)} {τ:Env} {op:Op} {ty:Nat} {last:Bool} {k:Tr}
theorem vn {args:List SW} {sh:Option Nat} {t:aG} (hp:aZ P op ty (args.map (oV τ)) t) (hs:t.shape=some sh) (hk:vc P post k (τ ++ [t]) bk):vc P post (.need (.prim args sh) op ty last k) τ bk:=
 .inl ⟨[t],⟨t,rfl,hs,hp⟩,rfl,hk⟩
theorem aC {f:Nat} {args:List SW} {sh:List (Option Nat)} {ts:List aG} (hd:aK P f (args.map (oV τ)) (.ret ts)) (hs:ts.map aG.shape=sh.map some) (hk:vc P post k (τ++ts) bk):vc P post (.need (.call f args sh) op ty last k) τ bk:=
 .inl ⟨ts,⟨hs,hd⟩,by have:=congrArg List.length hs;simpa [cX.ids] using this,hk⟩
theorem tP {c:C0} {f:FuncId} {caps:List aI} {args:List SW} {sh:List (Option Nat)} {ts:List aG} (hc:c0 τ c = .fX f caps) (hd:aK P f (args.map (oV τ)++caps.map .one) (.ret ts)) (hs:ts.map aG.shape=sh.map some) (hk:vc P post k (τ++ts) bk):vc P post (.need (.callv c args sh) op ty last k) τ bk:=
 .inl ⟨ts,⟨f,caps,hc,hs,hd⟩,by have:=congrArg List.length hs;simpa [cX.ids] using this,hk⟩
theorem dC {sz:Nat} {tss:List (List C0)} {us:List (List aI)} (hu:tss.map (fun t=>t.map (c0 τ))=us) (hk:vc P post k (τ ++ [.rows us]) bk):vc P post (.need (.lit sz tss) op ty last k) τ bk:=
 .inl ⟨_,by rw [←hu];rfl,rfl,hk⟩
theorem tI {z:List Value} {b:Nat} {l c:C0} {n m:Nat} {kl kc:IntKind} {us:List (List aI)} (h1:c0 τ l = .int kl n) (h2:c0 τ c = .int kc m) (hu:List.replicate n (z.map .exact)=us) (hnm:n≤m) (hb:b*m≤140737488355328) (hm:m≤maxLen) (hk:vc P post k (τ ++ [.rows us]) bk):vc P post (.need (.make z b l c) op ty last k) τ bk:=
 .inl ⟨_,⟨n,m,kl,kc,h1,h2,hnm,hb,hm,by rw [hu]⟩,rfl,hk⟩
theorem vA {sz b:Nat} {cid:Option Nat} {src:Option C0} {row:Option Nat} {ts us vs:List (List aI)} (h1:Ty τ cid ts) (h2:Sv τ sz src row us) (hv:ts++us=vs) (hb:vs.length*b≤140737488355328) (hm:vs.length≤maxLen) (hk:vc P post k (τ ++ [.rows vs]) bk):vc P post (.need (.app sz b cid src row) op ty last k) τ bk:=
 .inl ⟨[.rows vs],⟨ts,us,h1,h2,by rw [←List.length_append,hv];exact hb,by rw [←List.length_append,hv];exact hm,by rw [hv]⟩,rfl,hk⟩
theorem nY {cid:Nat} {i:C0} {ts:List (List aI)} {ik:IntKind} {n:Int} (h1:τ[cid]? = some (.rows ts)) (h2:c0 τ i = .int ik n) (h0:0≤n) (hn:n<ts.length) (hk:vc P post k τ bk):vc P post (.need (.idx cid i) op ty last k) τ bk:=
 .inl ⟨[],⟨ts,ik,n,h1,h2,h0,hn,rfl⟩,rfl,by rw [List.append_nil];exact hk⟩
theorem vld {cid off sz:Nat} {ag:Bool} {i:C0} {ts:List (List aI)} {ik:IntKind} {n:Int} {cells:List aI} {t:aG} (h1:τ[cid]? = some (.rows ts)) (h2:c0 τ i = .int ik n) (h0:0≤n) (hn:ts[n.toNat]? = some cells) (hag:ag=true∨sz=1) (ht:Qa ag ((cells.drop off).take sz)=t) (hk:vc P post k (τ ++ [t]) bk):vc P post (.need (.ldrow cid i off sz ag) op ty last k) τ bk:=
 .inl ⟨_,⟨ts,ik,n,cells,h1,h2,h0,hn,hag,by rw [ht]⟩,rfl,hk⟩
theorem Fv {cid sz off:Nat} {i:C0} {xs:List C0} {ts us:List (List aI)} {ik:IntKind} {n:Int} {cells:List aI} (h1:τ[cid]? = some (.rows ts)) (h2:c0 τ i = .int ik n) (h0:0≤n) (hn:ts[n.toNat]? = some cells)
  (hu:ts.set n.toNat (cells.take off++xs.map (c0 τ)++cells.drop (off+xs.length))=us) (hk:vc P post k (τ ++ [.rows us]) bk):vc P post (.need (.strow cid sz i off xs) op ty last k) τ bk:=
 .inl ⟨_,⟨ts,ik,n,cells,h1,h2,h0,hn,by rw [hu]⟩,rfl,hk⟩
theorem Ll {cid n:Nat} {ts:List (List aI)} (h1:τ[cid]? = some (.rows ts)) (hn:ts.length=n) (hk:vc P post k (τ ++ [.one (.int .i64 n)]) bk):vc P post (.need (.lenrow cid) op ty last k) τ bk:=
 .inl ⟨_,⟨ts,h1,by rw [hn]⟩,rfl,hk⟩
theorem vs {c:C0} {kt kf:Tr} (p:Prop) [Decidable p] (hc:c0 τ c = .bool (decide p)) (ht:p→vc P post kt τ bk) (hf:¬ p→vc P post kf τ bk):vc P post (.split c kt kf) τ bk:=
 ⟨decide p,hc,fun h=>ht (of_decide_eq_true h),fun h=>hf (of_decide_eq_false h)⟩
theorem Bt {c:C0} {kt kf:Tr} (β:Bool) (hc:c0 τ c = .bool β) (ht:β=true→vc P post kt τ bk) (hf:β=false→vc P post kf τ bk):vc P post (.split c kt kf) τ bk:=
 ⟨β,hc,ht,hf⟩
theorem aL {vs:List SW} {rs:List aG} (h:vs.map (oV τ)=rs):vc P (fun o=>jP o (.ret rs)) (.ret vs) τ bk:=by
 show aO _ _;rw [h];exact aO.refl _
theorem eN {vs:List SW} {rs:List aG} (h:aO (vs.map (oV τ)) rs):vc P (fun o=>jP o (.ret rs)) (.ret vs) τ bk:=h
theorem BW {f:Nat} {args:List SW} {sh:List (Option Nat)} {as ts:List aG} (ha:aO (args.map (oV τ)) as) (hd:aK P f as (.ret ts)) (hs:ts.map aG.shape=sh.map some) (hk:vc P post k (τ++ts) bk):vc P post (.need (.call f args sh) op ty last k) τ bk:=
 .inl ⟨ts,⟨hs,hd.sub ha⟩,by have:=congrArg List.length hs;simpa [cX.ids] using this,hk⟩
theorem bF {d:Nat} {inits:List LV} (G:Type) (tys:G→List aG) (μ:G→Nat) (g0:G) (h0:aO (inits.map (FL τ)) (tys g0)) (hl:∀ g,(tys g).length=inits.length)
  (h:∀ g,vc P post k (τ++tys g) (bk.take d ++ [fun ts=>∃ g',aO ts (tys g')∧μ g'<μ g])):vc P post (.loop d inits k) τ bk:=⟨G,tys,μ,g0,h0,hl,h⟩
theorem aU {d:Nat} {cK:List LV} {f:List aG→Prop} (hb:bk[d]? = some f) (h:f (cK.map (FL τ))):vc P post (.back d cK) τ bk:=⟨f,hb,h⟩
end
open Go.RowKit (Below)
def uM (P:Program) (f:FuncId) (E sz:Nat) (pre post:List aG) (ts:List (List aI)) (rs:List aG) (ts':List (List aI)):Prop:=
 (∀ as w,(callFunc f as).run P w = .ok (.enter f as) w)∧ts'.length=ts.length∧(∀ t∈ts',t.length=sz) ∧
 ∀ (M:Nat→Prop) (w:World) (g off cap:Nat) (cur:Array Value) (vs1 vs2:List Value),dK M w→M g→w.heap[g]? = some (.cells cur E (0,0)) →
   off+ts.length*sz≤cur.size→ts.length≤cap→cap≤maxLen→aW M w ts.flatten ((cur.toList.drop off).take (ts.length*sz))→cG M w pre vs1→cG M w post vs2 →
   Calls P f (vs1 ++ .slice (some ⟨g,off,none⟩) ts.length cap::vs2).toArray w fun e w'=>∃ cur' us,w.grownBy w' (some g)∧w'.heap[g]? = some (.cells cur' E (0,0))∧cur'.size=cur.size ∧
    (∀ j,(j<off∨off+ts.length*sz≤j)→cur'[j]? = cur[j]?)∧e = .returned (pack us)∧cG M w' rs us∧aW M w' ts'.flatten ((cur'.toList.drop off).take (ts.length*sz))
section
variable {P:Program} {N:Nat} {M0:dL} {w0 w:World} {s:St} {τ:Env} {ρ:Nat→Gh} {a:Act}
theorem LR (args:List Arg) (bx:List (Nat×Bx)) (t:Nat):(⟨args.mapIdx fun i a=>(i,dG i a),bx,[]⟩:St).t t=((args[t]?).map (dG t)).getD .junk:=by
 have hlook:∀ (l:List Arg) (d:Nat),(look (l.mapIdx fun i a=>(d+i,dG (d+i) a)) t)=if d≤t then (l[t-d]?).map (dG t) else none:=by
  intro l
  induction l with
  | nil=>intro d;simp [look]
  | cons x l ih=>
    intro d;rw [List.mapIdx_cons];simp only [look,Nat.add_zero]
    have e:(l.mapIdx fun i a=>(d+(i+1),dG (d+(i+1)) a))=l.mapIdx fun i a=>(d+1+i,dG (d+1+i) a):=by
     congr 1;funext i a;rw [show d+(i+1)=d+1+i by omega]
    rw [e,ih (d+1)];by_cases h1:d=t
    ·subst h1;simp
    ·rw [if_neg h1];by_cases h2:d+1≤t
     ·rw [if_pos h2,if_pos (by omega),show t-d=(t-(d+1))+1 by omega,List.getElem?_cons_succ]
     ·rw [if_neg h2,if_neg (by omega)]
 have:=hlook args 0;simp only [Nat.zero_add,Nat.zero_le,if_true,Nat.sub_zero] at this;simp only [St.t,this]
theorem Cd {f:FuncId} {fn:Func} {hints:Nat→Option Hint} {a1 a2:List Arg} {i1 i2:List In} {E sz:Nat} {ts ts':List (List aI)} {rs:List aG} (hm:P.follows .mixedOrders=true) (hok:zP P f=true)
  (hf:P.funcs[f]? = some fn) (hin1:aX In.Is a1 i1) (hin2:aX In.Is a2 i2) (hlo:Lz 0 (a1 ++ .lent E sz::a2)=some (a1.length,E,sz)) (hl:ts'.length=ts.length) (hts:∀ t∈ts,t.length=sz) (hts':∀ t∈ts',t.length=sz)
  (h:vc P (fun o=>o = .retr rs ts') (Ic P fn hints (a1 ++ .lent E sz::a2)) (i1.map In.env ++ .rows ts::i2.map In.env) []):uM P f E sz (i1.map In.ty) (i2.map In.ty) ts rs ts':=by
 refine ⟨bP hok,hl,hts',fun M w g off cap cur vs1 vs2 hM hMg hg hfit hcap hmax hrep hv1 hv2=>?_⟩;unfold Ic at h;rw [hlo] at h;split at h
 ·rename_i c i E0 sz0 hb heq;simp only [Option.some.injEq,Prod.mk.injEq] at heq;obtain ⟨rfl,rfl,rfl⟩:=heq;split at h
  ·rename_i hlen;refine calls_of_wp hf hb ?_;have hl1:a1.length=i1.length:=hin1.length;have hl2:a2.length=i2.length:=hin2.length;have hv1l:vs1.length=i1.length:=by rw [←hv1.length];simp
   have hv2l:vs2.length=i2.length:=by rw [←hv2.length];simp
   generalize hgh:(⟨0, .slice (some ⟨g,off,none⟩) ts.length cap,cur⟩:Gh)=gh
   have hO:∀ k,(dL.mk (fun k=>M k∧k≠g) gh).O k↔k=g:=by
    intro k;subst hgh;simp [dL.O,Value.ownBlock,eq_comm]
   have hMs0:∀ k,Ms (dL.mk (fun k=>M k∧k≠g) gh) (fun _=>gh) ⟨(a1 ++ .lent E sz::a2).mapIdx fun i a=>(i,dG i a),[(0, .part E sz a1.length)],[]⟩ k↔M k:=by
    intro k
    constructor
    ·rintro (hk | ⟨b,x,h1,_,h3⟩)
     ·exact hk.1
     ·simp only [St.b,look] at h1;split at h1
      ·simp only [Option.some.injEq] at h1;subst h1 hgh;simp only [own,Value.ownBlock,Option.some.injEq] at h3;subst h3;exact hMg
      ·cases h1
    ·intro hk;by_cases hkg:k=g
     ·subst hkg;exact .inr ⟨0, .part E sz a1.length,by simp [St.b,look],by simp [St.s],by subst hgh;simp [own,Value.ownBlock]⟩
     ·exact .inl ⟨hk,hkg⟩
   have hMs:Ms (dL.mk (fun k=>M k∧k≠g) gh) (fun _=>gh) ⟨(a1 ++ .lent E sz::a2).mapIdx fun i a=>(i,dG i a),[(0, .part E sz a1.length)],[]⟩=M:=funext fun k=>propext (hMs0 k);have hglt:g<w.heap.size:=(Array.getElem?_eq_some_iff.1 hg).1;refine jR (M0:=dL.mk (fun k=>M k∧k≠g) gh) (w0:=w) hm c 0 0 1 (a1 ++ .lent E sz::a2).length _ [] _ _ [] h (by simp;omega) (by intro x hx;cases hx) (Nat.le_refl _) (fun _=>gh) _ w _ ?_ ?_ vB.noR ?_
   ·refine ⟨⟨rfl,rfl,rfl,Nat.le_refl _,fun _ _ _=>rfl,fun x hx=>⟨fun hm=>(hM.2 x hx).1 hm.1,fun ho=>(hM.2 x hx).1 (by rw [(hO _).1 ho];exact hMg),(hM.2 x hx).2⟩⟩,?_,rfl,fun t=>?_,?_,?_,?_,?_,?_⟩
    ·simp at hlen ⊢;omega
    ·rw [hMs,LR];cases hat:(a1 ++ .lent E sz::a2)[t]? with
     | none=>trivial
     | some x=>
       have htl:t<(a1 ++ .lent E sz::a2).length:=(List.getElem?_eq_some_iff.1 hat).1;simp only [List.length_append,List.length_cons] at htl
       have hval:((vs1 ++ .slice (some ⟨g,off,none⟩) ts.length cap::vs2).toArray++Array.replicate (fn.ntmps-(vs1 ++ .slice (some ⟨g,off,none⟩) ts.length cap::vs2).toArray.size) Go.undef).getD t Go.undef=(vs1 ++ .slice (some ⟨g,off,none⟩) ts.length cap::vs2).getD t Go.undef:=by
        rw [Array.getD_eq_getD_getElem?,Array.getElem?_append_left (by simp;omega),List.getD_eq_getElem?_getD];simp
       rw [hval,List.getD_eq_getElem?_getD];simp only [Option.map_some,Option.getD_some];by_cases h1:t<a1.length
       ·rw [List.getElem?_append_left h1] at hat;rw [List.getElem?_append_left (by omega)];obtain ⟨y,hy,hix⟩:=hin1.get t x hat;have hvt:vs1[t]? = some (vs1[t]'(by omega)):=List.getElem?_eq_getElem (by omega);obtain ⟨ty,hty,hrep1⟩:=hv1.get t _ hvt;rw [List.getElem?_map,hy] at hty;simp only [Option.map_some,Option.some.injEq] at hty;subst hty;rw [hvt];exact mK (by rw [List.getElem?_append_left (by simp;omega),List.getElem?_map,hy];rfl) hix hrep1
       ·rw [List.getElem?_append_right (by omega)] at hat ⊢;by_cases h2:t=a1.length
        ·subst h2;rw [Nat.sub_self] at hat;simp only [List.getElem?_cons_zero,Option.some.injEq] at hat;subst hat;rw [hv1l,←hl1,Nat.sub_self];simp only [List.getElem?_cons_zero,Option.getD_some];refine ⟨by simp [St.b,look],by subst hgh;rfl,rfl⟩
        ·have e1:t-a1.length=(t-a1.length-1)+1:=by omega
         have e2:t-vs1.length=(t-a1.length-1)+1:=by omega
         rw [e1,List.getElem?_cons_succ] at hat;rw [e2,List.getElem?_cons_succ];obtain ⟨y,hy,hix⟩:=hin2.get _ x hat;have hvt:vs2[t-a1.length-1]? = some (vs2[t-a1.length-1]'(by omega)):=List.getElem?_eq_getElem (by omega);obtain ⟨ty,hty,hrep1⟩:=hv2.get _ _ hvt;rw [List.getElem?_map,hy] at hty;simp only [Option.map_some,Option.some.injEq] at hty;subst hty;rw [hvt];exact mK (by rw [List.getElem?_append_right (by simp;omega),List.length_map,←hl1,e1,List.getElem?_cons_succ,List.getElem?_map,hy];rfl) hix hrep1
    ·intro b x hbx;rw [hMs];simp only [St.b,look] at hbx;split at hbx
     ·simp only [Option.some.injEq] at hbx;subst hbx;refine ⟨ts,_,?_,⟨?_, .inr ⟨g,off,cap,cur,?_,hg,hcap,hmax,hfit,rfl⟩⟩,hts,hrep,?_,?_⟩
      ·rw [List.getElem?_append_right (by simp;omega),List.length_map,hl1,Nat.sub_self];rfl
      ·rw [List.length_take,List.length_drop,Array.length_toList (xs:=cur)];exact Nat.min_eq_left (by omega)
      ·subst hgh;rfl
      ·subst hgh;rfl
      ·intro g2 off2 len2 cap2 hv cur2 hg2;subst hgh;simp only [Value.slice.injEq,Option.some.injEq,Addr.mk.injEq,and_true] at hv;obtain ⟨⟨rfl,rfl⟩,rfl,rfl⟩:=hv;rw [hg] at hg2;simp only [Option.some.injEq,Obj.cells.injEq,and_true] at hg2;subst hg2;exact ⟨rfl,fun _ _=>rfl⟩
     ·cases hbx
    ·intro b b' x x' k h1 h2 _ _;simp only [St.b,look] at h1 h2;split at h1
     ·split at h2
      ·rename_i e1 e2;rw [←e1,←e2]
      ·cases h2
     ·cases h1
    ·intro b x k h1 h2;simp only [St.b,look] at h1;split at h1
     ·simp only [Option.some.injEq] at h1;subst h1;have:k=g:=by subst hgh;simp only [own,Value.ownBlock,Option.some.injEq] at h2;exact h2.symm
      subst this;exact ⟨.inr ((hO k).2 rfl),hglt⟩
     ·cases h1
    ·rintro k ⟨hk,hne⟩ (ho | ho)
     ·exact Nat.not_lt.2 ho (hM.1 k hk)
     ·exact hne ((hO k).1 ho)
    ·intro b E' sz' cid hbx;rfl
   ·intro c v a w' hp;cases hp
   ·intro ex nb s dec m bk' ρ a w' _ _ hv _ hs
    have key:vc P (fun o=>o = .retr rs ts') (match (Ar P s fn.results.toList).run s with
      | some (vs,l)=>Kf s E sz vs l
      | none=>.fail 1008) (i1.map In.env ++ .rows ts::i2.map In.env++m) bk'→a.defers = []∧∃ v,(results fn a.tmps).run P w' = .ok v w'∧∃ cur' us,w.grownBy w' (some g)∧w'.heap[g]? = some (.cells cur' E (0,0))∧cur'.size=cur.size ∧
        (∀ j,(j<off∨off+ts.length*sz≤j)→cur'[j]? = cur[j]?)∧Ending.returned v = .returned (pack us)∧cG M w' rs us∧aW M w' ts'.flatten ((cur'.toList.drop off).take (ts.length*sz)):=by
     clear hv;intro hv;split at hv
     ·rename_i vs' l hq;unfold Kf at hv;split at hv
      ·rename_i E' sz' cid hb0;split at hv
       ·rename_i hc;obtain ⟨rfl,rfl,hs0,hl0⟩:=hc;obtain ⟨ts2,hcid,hpo⟩:=hv;have hpo:Out.retr _ ts2=Out.retr rs ts':=hpo;simp only [Out.retr.injEq] at hpo;obtain ⟨hrs,rfl⟩:=hpo;have hgh0:=hs.pt 0 E' sz' cid hb0;have hown0:own ρ 0 (.part E' sz' cid)=some g:=by simp only [own,hgh0];subst hgh;rfl
        have hS:bV (dL.mk (fun k=>M k∧k≠g) gh) ρ s l M:=by
         refine ⟨fun k hk=>?_,fun b x k h1 h2 h3 hk=>?_⟩
         ·by_cases hkg:k=g
          ·subst hkg;exact .inr ⟨0,_,hb0,hs0,hown0⟩
          ·exact .inl ⟨hk,hkg⟩
         ·by_cases hkg:k=g
          ·subst hkg;have:=hs.inj b 0 x _ k h1 hb0 h2 hown0;subst this;rcases h3 with h3 | h3
           ·rw [hs0] at h3;cases h3
           ·have:l.contains 0=true:=by simpa using h3
            rw [hl0] at this;cases this
          ·exact hs.old k ⟨hk,hkg⟩ (hs.lo b x k h1 h2).1
        obtain ⟨us,hr,hrepr⟩:=oU hs hq hS;obtain ⟨ts3,xs,hcid3,⟨hxl,hown⟩,hlen3,hrep3,_,hfr⟩:=hs.bx 0 _ hb0;rw [hcid] at hcid3;simp only [Option.some.injEq,aG.rows.injEq] at hcid3;subst hcid3;rw [hgh0] at hown hfr;have hval:gh.val = .slice (some ⟨g,off,none⟩) ts.length cap:=by subst hgh;rfl
        have hcur:gh.cur=cur:=by subst hgh;rfl
        rcases hown with ⟨_,c,hv⟩ | ⟨g2,off2,cap2,cur2,hv,hg2,hnc,hcm,hfit2,htake⟩
        ·rw [hval] at hv;simp at hv
        ·rw [hval] at hv;simp only [Value.slice.injEq,Option.some.injEq,Addr.mk.injEq,and_true] at hv;obtain ⟨⟨rfl,rfl⟩,hll,rfl⟩:=hv;obtain ⟨hf1,hf2⟩:=hfr g off ts.length cap hval cur2 hg2;rw [hcur] at hf1 hf2;refine ⟨hs.df,_,iK fn a.tmps us hr,cur2,us,?_,hg2,hf1,hf2,rfl,by rw [←hrs];exact hrepr,?_⟩
         ·have hb:=hs.below;exact ⟨hb.os,hb.tape,hb.output,hb.size,fun k hk hne=>hb.block k hk fun ho=>hne (by rw [(hO k).1 ho])⟩
         ·rw [hll,htake];exact hrep3.mono hS.iY
       ·exact hv.elim
      ·exact hv.elim
     ·exact hv.elim
    cases ex with
    | normal=>exact key hv
    | ret=>exact key hv
    | exit id=>exact hv.elim
  ·exact h.elim
 ·exact h.elim
end
section
variable {P:Program} {post:Out→Prop} {bk:List (List aG→Prop)} {τ:Env} {op:Op} {ty:Nat} {last:Bool} {k:Tr}
theorem tC {c:Call} {f:FuncId} {E sz:Nat} {pre po:List aG} {ts ts':List (List aI)} {rs:List aG} (hc:c.callee = .value (.func f)) (h:uM P f E sz pre po ts rs ts'):Nb P (.call c) ty E sz pre po ts rs ts':=by
 refine ⟨h.2.1,h.2.2.1,?_⟩;intro M w a o c' K Q g off cap cur vs1 vs2 ho ht hc' hargs hM hMg hg hfit hcap hmax hrep h1 h2 hk;cases hc';unfold Oper.wp;rw [yF (cvs:=[]) ho hc rfl h.1,Oper.upon_enter,List.append_nil,hargs];refine (h.2.2.2 M w g off cap cur vs1 vs2 hM hMg hg hfit hcap hmax hrep h1 h2).mono ?_;rintro e w' ⟨cur',us,hgr,hg',hs,hout,rfl,hr,hr'⟩;exact hk w' cur' us hgr hg' hs hout hr hr'
theorem Qx {x y:Operand} {T U E sz2 b2:Nat} {src ts:List (List aI)} (hT:dB P T=some (E,1,b2)) (hle:src.length≤ts.length) (hsrc:∀ t∈src,t.length=1) (hts:∀ t∈ts,t.length=1) :
  Nb P (.call ⟨.builtin .copy,#[x,y],#[T,U]⟩) ty E 1 [] [.one (.slice 1 src)] ts [.one (.int .i64 src.length)] (src++ts.drop src.length):=by
 obtain ⟨ie,hu,hie,hies,_⟩:=cM hT;have hsz:(P.info? E).map (·.size)=some 1:=by rw [hie];simp [hies]
 refine ⟨by simp;omega,fun t ht=>?_,?_⟩
 ·rcases List.mem_append.1 ht with ht | ht
  ·exact hsrc t ht
  ·exact hts t (List.mem_of_mem_drop ht)
 ·intro M w a o c' K Q g off cap cur vs1 vs2 ho ht hc' hargs hM hMg hg hfit hcap hmax hrep h1 h2 hk;cases hc';cases vs1 with
  | cons v vs=>exact h1.elim
  | nil=>
    have hx:a.eval x = .slice (some ⟨g,off,none⟩) ts.length cap:=by simpa using congrArg List.head? hargs
    have hy:vs2 = [a.eval y]:=by
     have:=congrArg List.tail hargs
     simpa using this.symm
    subst hy;have hS:=Ge h2.1;rw [Nat.mul_one] at hfit hrep hk;cases hS with
    | nil c hv hus=>
      subst hus;have hrun:=run_copy_none (P:=P) w T U o.type E (some ⟨g,off,none⟩) none ts.length cap 0 c hu hsz (by simp)
      have hwp:o.wp P a w K Q=K (a.put o.dst (goInt 0)) w:=by
       unfold Oper.wp;simp [execOp,ho,resolve,invoke,builtin,hx,hv,hrun,Result.andThen,Oper.upon]
      rw [hwp];exact hk w cur [.int .i64 0] ⟨rfl,rfl,rfl,Nat.le_refl _,fun _ _ _=>rfl⟩ hg rfl (fun _ _=>rfl) ⟨⟨rfl,rfl⟩,trivial⟩ (by simpa using hrep)
    | some ad c news hv hl hn hr hs=>
      rw [Nat.mul_one] at hl;have hrun:=run_copy_row (P:=P) w T U o.type E g off ts.length cap ad src.length c cur E news hu hsz hg (by rw [hl];exact (Nat.min_eq_left hle).symm) hn (by omega) hr.one
      have hwp:o.wp P a w K Q=K (a.put o.dst (goInt news.length)) (w.setRow g (cur.toList.take off++(news++cur.toList.drop (off+news.length))).toArray):=by
       unfold Oper.wp;simp [execOp,ho,resolve,invoke,builtin,hx,hv,hrun,Result.andThen,Oper.upon]
      rw [hwp];have hcl:cur.toList.length=cur.size:=Array.length_toList;have hus:(ts.take src.length).length=src.length:=by rw [List.length_take];omega
      have hsp:=Cx (w:=w) (M:=M) (sz:=1) (ts:=ts) (us:=ts.take src.length) (us':=src) (n:=0) hts (by rw [hus,List.drop_zero]) (by rw [hus];omega) (by rw [hus]) hs (by simpa using hrep) hr;rw [hus] at hsp;refine hk _ _ [.int .i64 news.length] ⟨rfl,rfl,rfl,by simp,fun k _ hk=>setRow_other w g k _ (by rintro rfl;exact hk rfl)⟩ (setRow_heap w _ _ _ _ _ hg) (by simp;omega) ?_ ⟨⟨by rw [hl],rfl⟩,trivial⟩ ?_
      ·intro j hj;rw [List.getElem?_toArray,←Array.getElem?_toList];simp only [List.getElem?_append,List.getElem?_take,List.getElem?_drop,List.length_take]
       grind
      ·have e1:(cur.toList.take off++(news++cur.toList.drop (off+news.length))).toArray.toList.drop off=news++cur.toList.drop (off+news.length):=by
        show List.drop off (cur.toList.take off++(news++cur.toList.drop (off+news.length)))=_;rw [List.drop_append_of_le_length (by rw [List.length_take];omega),List.drop_eq_nil_of_le (by rw [List.length_take];omega),List.nil_append]
       rw [e1]
       have e2:(news++cur.toList.drop (off+news.length)).take ts.length=List.take (0*1) ((cur.toList.drop off).take ts.length)++news++List.drop (0*1+src.length*1) ((cur.toList.drop off).take ts.length):=by
        apply List.ext_getElem?;intro j;simp only [List.getElem?_append,List.getElem?_take,List.getElem?_drop,List.length_append,List.length_take,List.length_drop,hl]
        grind
       rw [e2];simp only [List.take_zero,List.nil_append,Nat.zero_add,Nat.mul_one,Nat.zero_mul] at hsp ⊢;refine aW.mono ?_ hsp;intro k ob hnk hob _;exact ⟨hnk,by rw [setRow_other w g k _ (by rintro rfl;exact hnk hMg)];exact hob⟩
theorem Qj {cid E sz n:Nat} {view:Option (C0×C0)} {as bs:List SW} {sh:List (Option Nat)} {ts us us' vs:List (List aI)} {rs:List aG} (h1:τ[cid]? = some (.rows ts)) (h2:Tn τ view ts n us) (hne:us ≠ []) (hs:rs.map aG.shape=sh.map some)
  (hr:Nb P op ty E sz (as.map (oV τ)) (bs.map (oV τ)) us rs us') (hv:ts.take n++us'++ts.drop (n+us.length)=vs) (hk:vc P post k (τ++(rs ++ [.rows vs])) bk):vc P post (.need (.rop cid E sz view as bs sh) op ty last k) τ bk:=
 .inl ⟨rs ++ [.rows vs],⟨ts,us,us',rs,n,h1,h2,hne,hs,hr,by rw [hv]⟩,by have:=congrArg List.length hs;simpa [cX.ids] using this,hk⟩
theorem aR2 {cid n m:Nat} {lo hi mx:C0} {ts:List (List aI)} {k1 k2 k3:IntKind} (h1:τ[cid]? = some (.rows ts)) (h2:c0 τ lo = .int k1 n) (h3:c0 τ hi = .int k2 m) (h4:c0 τ mx = .int k3 m) (hnm:n<m) (hm:m≤ts.length) (hk:vc P post k τ bk):vc P post (.need (.view cid lo hi mx) op ty last k) τ bk:=
 .inl ⟨[],⟨ts,k1,k2,k3,n,m,h1,h2,h3,h4,hnm,hm,rfl⟩,rfl,by rw [List.append_nil];exact hk⟩
theorem JN {vs:List SW} {cid:Nat} {rs:List aG} {ts:List (List aI)} (h1:τ[cid]? = some (.rows ts)) (h:vs.map (oV τ)=rs):vc P (fun o=>o = .retr rs ts) (.retr vs cid) τ bk:=by
 refine ⟨ts,h1,?_⟩;show Out.retr _ _=_;rw [h]
end
open Go.RowKit (Below)
def Rj (P:Program) (fn:Func) (hints:Nat→Option Hint) (args:List Arg) (T n:Nat):Tr:=
 match fn.body with
 | some c=>
   if args.length+1≤fn.ntmps then
   exec P fn.ntmps hints c 0 0 1 (args.length+1) ⟨(args.mapIdx fun i a=>(i,dG i a)) ++ [(args.length, .w (.one (.rp 0 n (.k (.int .i64 0)) 0)))],[(0, .part T n args.length)],[]⟩ [] fun e nb ni s _=>match e with
    | .exit _=>.fail 1007
    | _=>match (Ar P s fn.results.toList).run s with
      | some (vs,l)=>Kf s T n vs l
      | none=>.fail 1008
   else .fail 1009
 | _=>.fail 1006
def xU (P:Program) (f:FuncId) (T:Nat) (pre:List aG) (cs:List aI) (rs:List aG) (cs':List aI):Prop:=
 ∀ (M:Nat→Prop) (w:World) (g:Nat) (cur:Array Value) (vs1:List Value),dK M w→M g→w.heap[g]? = some (.cells cur T (0,0))→aW M w cs cur.toList→cG M w pre vs1 →
   Calls P f (vs1 ++ [Value.pointer (some ⟨g,0,none⟩)]).toArray w fun e w'=>∃ cur' us,w.grownBy w' (some g)∧w'.heap[g]? = some (.cells cur' T (0,0))∧e = .returned (pack us)∧cG M w' rs us∧aW M w' cs' cur'.toList
theorem Kk {α:Type} (l m:List (Nat×α)) (t:Nat):look (l++m) t=(look l t).or (look m t):=by
 induction l with
 | nil=>rfl
 | cons x l ih=>
   obtain ⟨k,y⟩:=x;rw [List.cons_append];simp only [look];split
   ·rfl
   ·exact ih
section
variable {P:Program}
theorem Tw {f:FuncId} {fn:Func} {hints:Nat→Option Hint} {a1:List Arg} {i1:List In} {T n:Nat} {cs cs':List aI} {rs:List aG} (hm:P.follows .mixedOrders=true)
  (hf:P.funcs[f]? = some fn) (hin1:aX In.Is a1 i1) (hn:cs.length=n)
  (hn':cs'.length=n) (h:vc P (fun o=>o = .retr rs [cs']) (Rj P fn hints a1 T n) (i1.map In.env ++ [.rows [cs]]) []):xU P f T (i1.map In.ty) cs rs cs':=by
 intro M w g cur vs1 hM hMg hg hrep hv1;unfold Rj at h;split at h
 ·rename_i c hb;split at h
  ·rename_i hlen;refine calls_of_wp hf hb ?_;have hl1:a1.length=i1.length:=hin1.length;have hv1l:vs1.length=i1.length:=by rw [←hv1.length];simp
   have hcl:cur.size=n:=by have:=hrep.length;simp at this;omega
   generalize hgh:(⟨0, .slice (some ⟨g,0,none⟩) 1 1,cur⟩:Gh)=gh;generalize hs0:(⟨(a1.mapIdx fun i a=>(i,dG i a)) ++ [(a1.length, .w (.one (.rp 0 n (.k (.int .i64 0)) 0)))],[(0, .part T n a1.length)],[]⟩:St)=s0 at h ⊢
   have hbz:∀ b x,s0.b b=some x→b=0∧x = .part T n a1.length:=by
    intro b x hbx;subst hs0;simp only [St.b,look] at hbx;split at hbx
    ·rename_i e;simp only [Option.some.injEq] at hbx;exact ⟨e.symm,hbx.symm⟩
    ·cases hbx
   have hb00:s0.b 0=some (.part T n a1.length):=by subst hs0;simp [St.b,look]
   have hss:s0.s 0=false:=by subst hs0;simp [St.s]
   have hO:∀ k,(dL.mk (fun k=>M k∧k≠g) gh).O k↔k=g:=by
    intro k;subst hgh;simp [dL.O,Value.ownBlock,eq_comm]
   have hown:∀ E z c,own (fun _=>gh) 0 (.part E z c)=some g:=by intro E z c;subst hgh;rfl
   have hMs:Ms (dL.mk (fun k=>M k∧k≠g) gh) (fun _=>gh) s0=M:=by
    funext k
    apply propext
    constructor
    ·rintro (hk | ⟨b,x,h1,_,h3⟩)
     ·exact hk.1
     ·obtain ⟨rfl,rfl⟩:=hbz b x h1;rw [hown] at h3;simp only [Option.some.injEq] at h3;subst h3;exact hMg
    ·intro hk;by_cases hkg:k=g
     ·subst hkg;exact .inr ⟨0,_,hb00,hss,hown _ _ _⟩
     ·exact .inl ⟨hk,hkg⟩
   have hglt:g<w.heap.size:=(Array.getElem?_eq_some_iff.1 hg).1
   have hst:∀ t,s0.t t=if t<a1.length then ((a1[t]?).map (dG t)).getD .junk else if t=a1.length then .w (.one (.rp 0 n (.k (.int .i64 0)) 0)) else .junk:=by
    intro t;have h1:=LR a1 [] t;subst hs0;simp only [St.t] at h1 ⊢;rw [Kk];split
    ·rename_i hlt;rw [List.getElem?_eq_getElem hlt] at h1 ⊢;simp only [Option.map_some,Option.getD_some] at h1 ⊢;cases hk:look (a1.mapIdx fun i a=>(i,dG i a)) t with
     | none=>
       exfalso
       have:∀ (l:List Arg) (d:Nat),d≤t→t<d+l.length→look (l.mapIdx fun i a=>(d+i,dG (d+i) a)) t≠none:=by
        intro l
        induction l with
        | nil=>intro d h1 h2;simp at h2;omega
        | cons x l ih=>
          intro d h1 h2;rw [List.mapIdx_cons];simp only [look,Nat.add_zero];split
          ·simp
          ·rename_i hne
           have e:(l.mapIdx fun i a=>(d+(i+1),dG (d+(i+1)) a))=l.mapIdx fun i a=>(d+1+i,dG (d+1+i) a):=by
            congr 1;funext i a;rw [show d+(i+1)=d+1+i by omega]
           rw [e];exact ih (d+1) (by omega) (by simp only [List.length_cons] at h2;omega)
       have h3:=this a1 0 (Nat.zero_le _) (by omega);simp only [Nat.zero_add] at h3;exact h3 hk
     | some y=>rw [hk] at h1;simpa using h1
    ·rename_i hge
     have hnone:look (a1.mapIdx fun i a=>(i,dG i a)) t=none:=by
      have:∀ (l:List Arg) (d:Nat),d+l.length≤t→look (l.mapIdx fun i a=>(d+i,dG (d+i) a)) t=none:=by
       intro l
       induction l with
       | nil=>intro d h;rfl
       | cons x l ih=>
         intro d h2;rw [List.mapIdx_cons];simp only [List.length_cons] at h2;simp only [look,Nat.add_zero];rw [if_neg (by omega)]
         have e:(l.mapIdx fun i a=>(d+(i+1),dG (d+(i+1)) a))=l.mapIdx fun i a=>(d+1+i,dG (d+1+i) a):=by
          congr 1;funext i a;rw [show d+(i+1)=d+1+i by omega]
         rw [e];exact ih (d+1) (by omega)
      have h3:=this a1 0 (by omega)
      simpa only [Nat.zero_add] using h3
     rw [hnone];simp only [Option.none_or,look];by_cases e:a1.length=t
     ·rw [if_pos e,if_pos e.symm];rfl
     ·rw [if_neg e,if_neg (fun x=>e x.symm)];rfl
   refine jR (M0:=dL.mk (fun k=>M k∧k≠g) gh) (w0:=w) hm c 0 0 1 (a1.length+1) _ [] _ _ [] h (by simp [hl1]) (by intro x hx;cases hx) (Nat.le_refl _) (fun _=>gh) _ w _ ?_ ?_ vB.noR ?_
   ·refine ⟨⟨rfl,rfl,rfl,Nat.le_refl _,fun _ _ _=>rfl,fun x hx=>⟨fun hm=>(hM.2 x hx).1 hm.1,fun ho=>(hM.2 x hx).1 (by rw [(hO _).1 ho];exact hMg),(hM.2 x hx).2⟩⟩,?_,rfl,fun t=>?_,?_,?_,?_,?_,?_⟩
    ·simp at hlen ⊢;omega
    ·rw [hMs,hst]
     have hval:t<a1.length+1→((vs1 ++ [Value.pointer (some ⟨g,0,none⟩)]).toArray++Array.replicate (fn.ntmps-(vs1 ++ [Value.pointer (some ⟨g,0,none⟩)]).toArray.size) Go.undef).getD t Go.undef=(vs1 ++ [Value.pointer (some ⟨g,0,none⟩)]).getD t Go.undef:=by
      intro ht;rw [Array.getD_eq_getD_getElem?,Array.getElem?_append_left (by simp;omega),List.getD_eq_getElem?_getD];simp
     split
     ·rename_i h1;rw [hval (by omega),List.getD_eq_getElem?_getD,List.getElem?_append_left (by omega)];have hat:a1[t]? = some a1[t]:=List.getElem?_eq_getElem h1;rw [hat];simp only [Option.map_some,Option.getD_some];obtain ⟨y,hy,hix⟩:=hin1.get t _ hat;have hvt:vs1[t]? = some (vs1[t]'(by omega)):=List.getElem?_eq_getElem (by omega);obtain ⟨ty,hty,hrep1⟩:=hv1.get t _ hvt;rw [List.getElem?_map,hy] at hty;simp only [Option.map_some,Option.some.injEq] at hty;subst hty;rw [hvt];exact mK (by rw [List.getElem?_append_left (by simp;omega),List.getElem?_map,hy];rfl) hix hrep1
     ·split
      ·rename_i h1 h2;subst h2;rw [hval (by omega),List.getD_eq_getElem?_getD,List.getElem?_append_right (by omega),hv1l,←hl1,Nat.sub_self];simp only [List.getElem?_cons_zero,Option.getD_some];exact ⟨by show (s0.b 0).isSome=true;rw [hb00];rfl,g,0,1,1, .i64,0,by subst hgh;rfl,rfl,by simp⟩
      ·trivial
    ·intro b x hbx;obtain ⟨rfl,rfl⟩:=hbz b x hbx;rw [hMs];refine ⟨[cs],cur.toList,?_,⟨by simp [hcl], .inr ⟨g,0,1,cur,?_,hg,Nat.le_refl _,by simp [maxLen],by simp [hcl],?_⟩⟩,by intro t ht;rw [List.mem_singleton.1 ht];exact hn,by simpa using hrep,?_,?_⟩
     ·rw [List.getElem?_append_right (by simp;omega),List.length_map,hl1,Nat.sub_self];rfl
     ·subst hgh;rfl
     ·rw [show ([cs]:List (List aI)).length*n=cur.toList.length by simp [hcl],List.drop_zero]
      first | exact (List.take_of_length_le (by simp)).symm | exact List.take_of_length_le (by simp)
     ·subst hgh;rfl
     ·intro g2 off2 len2 cap2 hv cur2 hg2;subst hgh;simp only [Value.slice.injEq,Option.some.injEq,Addr.mk.injEq,and_true] at hv;obtain ⟨⟨rfl,rfl⟩,rfl,rfl⟩:=hv;rw [hg] at hg2;simp only [Option.some.injEq,Obj.cells.injEq,and_true] at hg2;subst hg2;exact ⟨rfl,fun _ _=>rfl⟩
    ·intro b b' x x' k h1 h2 _ _;rw [(hbz b x h1).1,(hbz b' x' h2).1]
    ·intro b x k h1 h2;obtain ⟨rfl,rfl⟩:=hbz b x h1;rw [hown] at h2;simp only [Option.some.injEq] at h2;subst h2;exact ⟨.inr ((hO g).2 rfl),hglt⟩
    ·rintro k ⟨hk,hne⟩ (ho | ho)
     ·exact Nat.not_lt.2 ho (hM.1 k hk)
     ·exact hne ((hO k).1 ho)
    ·intro b E' sz' cid hbx;rfl
   ·intro c v a w' hp;cases hp
   ·intro ex nb s dec m bk' ρ a w' _ _ hv _ hs
    have key:vc P (fun o=>o = .retr rs [cs']) (match (Ar P s fn.results.toList).run s with
      | some (vs,l)=>Kf s T n vs l
      | none=>.fail 1008) (i1.map In.env ++ [.rows [cs]]++m) bk'→a.defers = []∧∃ v,(results fn a.tmps).run P w' = .ok v w'∧∃ cur' us,w.grownBy w' (some g)∧w'.heap[g]? = some (.cells cur' T (0,0))∧Ending.returned v = .returned (pack us)∧cG M w' rs us∧aW M w' cs' cur'.toList:=by
     clear hv;intro hv;split at hv
     ·rename_i vs' l hq;unfold Kf at hv;split at hv
      ·rename_i E' sz' cid hb0;split at hv
       ·rename_i hc;obtain ⟨rfl,rfl,hs0,hl0⟩:=hc;obtain ⟨ts2,hcid,hpo⟩:=hv;have hpo:Out.retr _ ts2=Out.retr rs [cs']:=hpo;simp only [Out.retr.injEq] at hpo;obtain ⟨hrs,rfl⟩:=hpo;have hgh0:=hs.pt 0 E' sz' cid hb0;have hown0:own ρ 0 (.part E' sz' cid)=some g:=by simp only [own,hgh0];subst hgh;rfl
        have hS:bV (dL.mk (fun k=>M k∧k≠g) gh) ρ s l M:=by
         refine ⟨fun k hk=>?_,fun b x k h1 h2 h3 hk=>?_⟩
         ·by_cases hkg:k=g
          ·subst hkg;exact .inr ⟨0,_,hb0,hs0,hown0⟩
          ·exact .inl ⟨hk,hkg⟩
         ·by_cases hkg:k=g
          ·subst hkg;have:=hs.inj b 0 x _ k h1 hb0 h2 hown0;subst this;rcases h3 with h3 | h3
           ·rw [hs0] at h3;cases h3
           ·have:l.contains 0=true:=by simpa using h3
            rw [hl0] at this;cases this
          ·exact hs.old k ⟨hk,hkg⟩ (hs.lo b x k h1 h2).1
        obtain ⟨us,hr,hrepr⟩:=oU hs hq hS;obtain ⟨ts3,xs,hcid3,⟨hxl,hown⟩,hlen3,hrep3,_,hfr⟩:=hs.bx 0 _ hb0;rw [hcid] at hcid3;simp only [Option.some.injEq,aG.rows.injEq] at hcid3;subst hcid3;rw [hgh0] at hown hfr;have hval:gh.val = .slice (some ⟨g,0,none⟩) 1 1:=by subst hgh;rfl
        have hcur:gh.cur=cur:=by subst hgh;rfl
        rcases hown with ⟨_,c,hv⟩ | ⟨g2,off2,cap2,cur2,hv,hg2,hnc,hcm,hfit2,htake⟩
        ·rw [hval] at hv;simp at hv
        ·rw [hval] at hv;simp only [Value.slice.injEq,Option.some.injEq,Addr.mk.injEq,and_true] at hv;obtain ⟨⟨rfl,rfl⟩,hll,rfl⟩:=hv;obtain ⟨hf1,hf2⟩:=hfr g 0 1 1 hval cur2 hg2;rw [hcur] at hf1 hf2;refine ⟨hs.df,_,iK fn a.tmps us hr,cur2,us,?_,hg2,rfl,by rw [←hrs];exact hrepr,?_⟩
         ·have hb:=hs.below;exact ⟨hb.os,hb.tape,hb.output,hb.size,fun k hk hne=>hb.block k hk fun ho=>hne (by rw [(hO k).1 ho])⟩
         ·have h3:=hrep3.mono hS.iY;rw [←htake] at h3;have hc2:cur2.toList.length=sz':=by simp [hf1,hcl]
          simpa [List.take_of_length_le,hc2] using h3
       ·exact hv.elim
      ·exact hv.elim
     ·exact hv.elim
    cases ex with
    | normal=>exact key hv
    | ret=>exact key hv
    | exit id=>exact hv.elim
  ·exact h.elim
 ·exact h.elim
end
open Go
def C0.oX (ρ:Nat→Nat):C0→C0
 | .u i j=>.u (ρ i) j
 | .k v=>.k v
 | .sr sz cid=>.sr sz (ρ cid)
def CR.oX (ρ:Nat→Nat):CR→CR
 | .c x=>.c (x.oX ρ)
 | .ref off cells=>.ref off (cells.map (C0.oX ρ))
def SC.oX (ρ:Nat→Nat):SC→SC
 | .c x=>.c (x.oX ρ)
 | .ref off cells=>.ref off (cells.map (C0.oX ρ))
 | .fX f caps=>.fX f (caps.map (CR.oX ρ))
 | x=>x
def SW.oX (ρ:Nat→Nat):SW→SW
 | .one c=>.one (c.oX ρ)
 | .agg cs=>.agg (cs.map (SC.oX ρ))
def LV.oX (ρ:Nat→Nat):LV→LV
 | .w x=>.w (x.oX ρ)
 | .row cid=>.row (ρ cid)
 | .nilrow=>.nilrow
def cX.oX (ρ:Nat→Nat):cX→cX
 | .none=>.none
 | .prim args sh=>.prim (args.map (SW.oX ρ)) sh
 | .call f args sh=>.call f (args.map (SW.oX ρ)) sh
 | .callv c args sh=>.callv (c.oX ρ) (args.map (SW.oX ρ)) sh
 | .lit sz tss=>.lit sz (tss.map fun t=>t.map (C0.oX ρ))
 | .make z b l c=>.make z b (l.oX ρ) (c.oX ρ)
 | .app sz b cid src row=>.app sz b (cid.map ρ) (src.map (C0.oX ρ)) (row.map ρ)
 | .idx cid i=>.idx (ρ cid) (i.oX ρ)
 | .ldrow cid i off sz ag=>.ldrow (ρ cid) (i.oX ρ) off sz ag
 | .strow cid sz i off xs=>.strow (ρ cid) sz (i.oX ρ) off (xs.map (C0.oX ρ))
 | .lenrow cid=>.lenrow (ρ cid)
 | .rop cid E sz v as bs sh=>.rop (ρ cid) E sz (v.map fun x=>(x.1.oX ρ,x.2.oX ρ)) (as.map (SW.oX ρ)) (bs.map (SW.oX ρ)) sh
 | .view cid l h m=>.view (ρ cid) (l.oX ρ) (h.oX ρ) (m.oX ρ)
def Tr.oX (ρ:Nat→Nat):Tr→Tr
 | .fail w=>.fail w
 | .need nd op ty last k=>.need (nd.oX ρ) op ty last (k.oX ρ)
 | .split c kt kf=>.split (c.oX ρ) (kt.oX ρ) (kf.oX ρ)
 | .ret vs=>.ret (vs.map (SW.oX ρ))
 | .retr vs cid=>.retr (vs.map (SW.oX ρ)) (ρ cid)
 | .pan x=>.pan (x.oX ρ)
 | .loop d is k=>.loop d (is.map (LV.oX ρ)) (k.oX ρ)
 | .back d vs=>.back d (vs.map (LV.oX ρ))
def aF (l:List Nat) (N:Nat) (i:Nat):Nat:=l.getD i (N+(i-l.length))
structure Rn (ρ:Nat→Nat) (τ0 τ:Env):Prop where
 g:∀ i,τ[ρ i]? = τ0[i]?
 n:∀ j,ρ (τ0.length+j)=τ.length+j
theorem Rn.app {ρ:Nat→Nat} {τ0 τ a:Env} (h:Rn ρ τ0 τ):Rn ρ (τ0++a) (τ++a):=by
 refine ⟨fun i=>?_,fun j=>by rw [List.length_append,List.length_append,Nat.add_assoc,Nat.add_assoc];exact h.n _⟩;rcases Nat.lt_or_ge i τ0.length with hi | hi
 ·have hg:=h.g i;rw [List.getElem?_eq_getElem hi] at hg;rw [List.getElem?_append_left (List.getElem?_eq_some_iff.1 hg).1,hg,List.getElem?_append_left hi,List.getElem?_eq_getElem hi]
 ·obtain ⟨j,rfl⟩:∃ j,i=τ0.length+j:=⟨i-τ0.length,by omega⟩
  rw [h.n,List.getElem?_append_right (by omega),List.getElem?_append_right (by omega),Nat.add_sub_cancel_left,Nat.add_sub_cancel_left]
theorem Rn.of {l:List Nat} {N:Nat} {τ0 τ:Env} (hl:l.length=τ0.length) (hN:τ.length=N) (h:l.map (τ[·]?)=τ0.map some):Rn (aF l N) τ0 τ:=by
 subst hN;refine ⟨fun i=>?_,fun j=>by rw [aF,List.getD_eq_getElem?_getD,List.getElem?_eq_none (by omega),←hl,Nat.add_sub_cancel_left];rfl⟩;rw [aF,List.getD_eq_getElem?_getD];rcases Nat.lt_or_ge i l.length with hi | hi
 ·have:=congrArg (·[i]?) h;simp only [List.getElem?_map,List.getElem?_eq_getElem hi,List.getElem?_eq_getElem (show i<τ0.length by omega),Option.map_some,Option.some.injEq] at this;rw [List.getElem?_eq_getElem hi,Option.getD_some,this,List.getElem?_eq_getElem (show i<τ0.length by omega)]
 ·rw [List.getElem?_eq_none hi,Option.getD_none,List.getElem?_eq_none (by omega),List.getElem?_eq_none (by omega)]
section
variable {ρ:Nat→Nat} {τ0 τ:Env}
end
def Tr.part:Tr→List Bool→Tr
 | .need nd op ty last k,b::l=>k.part (b::l)
 | .loop d is k,b::l=>k.part (b::l)
 | .split _ kt kf,b::l=>if b then kt.part l else kf.part l
 | t,_=>t
section
variable {P:Program} {T U ty:TypeId} {x y:Operand} {a b:Int}
theorem dN {n:Int} (h1:-9223372036854775808≤n) (h2:n<9223372036854775808):IntKind.i64.wrap n=n:=by rw [IntKind.wrap_i64];omega
theorem DY {n:Int} (h1:0≤n) (h2:n<18446744073709551616):IntKind.u64.wrap n=n:=by rw [IntKind.wrap_u64];omega
theorem LW {n:Int} (h1:0≤n) (h2:n<4294967296):IntKind.u32.wrap n=n:=by rw [IntKind.wrap_u32];omega
theorem aM6 {n:Int} (h1:0≤n) (h2:n<256):IntKind.u8.wrap n=n:=by rw [IntKind.wrap_u8];omega
theorem aE (h1:-9223372036854775808≤a+b) (h2:a+b<9223372036854775808):aZ P (.binOp .add T x y U) ty [.one (.int .i64 a), .one (.int .i64 b)] (.one (.int .i64 (a+b))):=eA (dN h1 h2)
theorem aJ (h1:-9223372036854775808≤a-b) (h2:a-b<9223372036854775808):aZ P (.binOp .sub T x y U) ty [.one (.int .i64 a), .one (.int .i64 b)] (.one (.int .i64 (a-b))):=oZ (dN h1 h2)
theorem qW (h1:-9223372036854775808≤a*b) (h2:a*b<9223372036854775808):aZ P (.binOp .mul T x y U) ty [.one (.int .i64 a), .one (.int .i64 b)] (.one (.int .i64 (a*b))):=sO (dN h1 h2)
theorem iJ (h0:0≤a) (h1:0<b) (h2:a<9223372036854775808):aZ P (.binOp .quo T x y U) ty [.one (.int .i64 a), .one (.int .i64 b)] (.one (.int .i64 (a/b))):=qU (by omega) (by
 have h3:a/b≤a:=Int.ediv_le_self b h0;have h4:0≤a/b:=Int.ediv_nonneg h0 (by omega);rw [Int.tdiv_eq_ediv_of_nonneg h0,dN (by omega) (by omega)])
theorem xH {k:IntKind} (hu:∃ d,P.underlying T=some d) (hd:P.underlying U=some (.int .i64)) (h1:-9223372036854775808≤a) (h2:a<9223372036854775808):aZ P (.convert T U x) ty [.one (.int k a)] (.one (.int .i64 a)):=iD hu hd (dN h1 h2)
theorem FP (h1:-9223372036854775808 ≤ -a) (h2:-a<9223372036854775808):aZ P (.unOp .neg T x) ty [.one (.int .i64 a)] (.one (.int .i64 (-a))):=Zq (by rw [Int.zero_sub];exact dN h1 h2)
theorem OY (h1:0≤a+b) (h2:a+b<18446744073709551616):aZ P (.binOp .add T x y U) ty [.one (.int .u64 a), .one (.int .u64 b)] (.one (.int .u64 (a+b))):=eA (DY h1 h2)
theorem Qd (h1:0≤a-b) (h2:a-b<18446744073709551616):aZ P (.binOp .sub T x y U) ty [.one (.int .u64 a), .one (.int .u64 b)] (.one (.int .u64 (a-b))):=oZ (DY h1 h2)
theorem PL (h1:0≤a*b) (h2:a*b<18446744073709551616):aZ P (.binOp .mul T x y U) ty [.one (.int .u64 a), .one (.int .u64 b)] (.one (.int .u64 (a*b))):=sO (DY h1 h2)
theorem FN (h0:0≤a) (h1:0<b) (h2:a<18446744073709551616):aZ P (.binOp .quo T x y U) ty [.one (.int .u64 a), .one (.int .u64 b)] (.one (.int .u64 (a/b))):=qU (by omega) (by
 have h3:a/b≤a:=Int.ediv_le_self b h0;have h4:0≤a/b:=Int.ediv_nonneg h0 (by omega);rw [Int.tdiv_eq_ediv_of_nonneg h0,DY (by omega) (by omega)])
theorem sU {k:IntKind} (hu:∃ d,P.underlying T=some d) (hd:P.underlying U=some (.int .u64)) (h1:0≤a) (h2:a<18446744073709551616):aZ P (.convert T U x) ty [.one (.int k a)] (.one (.int .u64 a)):=iD hu hd (DY h1 h2)
theorem lE (h1:0≤a+b) (h2:a+b<4294967296):aZ P (.binOp .add T x y U) ty [.one (.int .u32 a), .one (.int .u32 b)] (.one (.int .u32 (a+b))):=eA (LW h1 h2)
theorem lI (h1:0≤a-b) (h2:a-b<4294967296):aZ P (.binOp .sub T x y U) ty [.one (.int .u32 a), .one (.int .u32 b)] (.one (.int .u32 (a-b))):=oZ (LW h1 h2)
theorem pZ {k:IntKind} (hu:∃ d,P.underlying T=some d) (hd:P.underlying U=some (.int .u32)) (h1:0≤a) (h2:a<4294967296):aZ P (.convert T U x) ty [.one (.int k a)] (.one (.int .u32 a)):=iD hu hd (LW h1 h2)
theorem Jn (h1:0≤a+b) (h2:a+b<256):aZ P (.binOp .add T x y U) ty [.one (.int .u8 a), .one (.int .u8 b)] (.one (.int .u8 (a+b))):=eA (aM6 h1 h2)
variable {k:IntKind}
theorem gK (h0:0≤a) (h1:0<b):aZ P (.binOp .rem T x y U) ty [.one (.int k a), .one (.int k b)] (.one (.int k (a%b))):=CT (by omega) (Int.tmod_eq_emod_of_nonneg h0)
theorem bW:aZ P (.binOp .eql T x y U) ty [.one (.int k a), .one (.int k b)] (.one (.bool (decide (a=b)))):=TV
theorem iP:aZ P (.binOp .neq T x y U) ty [.one (.int k a), .one (.int k b)] (.one (.bool (decide (a≠b)))):=by
 have:decide (a≠b) = !decide (a=b):=by by_cases h:a=b<;>simp [h]
 rw [this];exact Jr
theorem bE:aZ P (.binOp .lss T x y U) ty [.one (.int k a), .one (.int k b)] (.one (.bool (decide (a<b)))):=vF
theorem gW:aZ P (.binOp .leq T x y U) ty [.one (.int k a), .one (.int k b)] (.one (.bool (decide (a≤b)))):=aF3
theorem eF:aZ P (.binOp .gtr T x y U) ty [.one (.int k a), .one (.int k b)] (.one (.bool (decide (b<a)))):=IQ
theorem eS:aZ P (.binOp .geq T x y U) ty [.one (.int k a), .one (.int k b)] (.one (.bool (decide (b≤a)))):=El
theorem FA {p:Prop} [Decidable p]:aZ P (.unOp .not T x) ty [.one (.bool (decide p))] (.one (.bool (decide (¬ p)))):=by
 have:decide (¬ p) = !decide p:=by by_cases h:p<;>simp [h]
 rw [this];exact mL
theorem bc1 {s t:ByteArray}:(s.toList==t.toList)=decide (s.data=t.data):=by
 rw [ByteArray.toList_eq,ByteArray.toList_eq];by_cases h:s.data=t.data
 ·simp [h]
 ·have:¬ s.data.toList=t.data.toList:=fun e=>h (Array.toList_inj.1 e);simp [h]
theorem aw6 {s t:ByteArray}:aZ P (.binOp .eql T x y U) ty [.one (.str s), .one (.str t)] (.one (.bool (decide (s.data=t.data)))):=by
 rw [←bc1];exact OE
theorem am9 {p q:Bool} (hu:P.underlying T=some .bool):aZ P (.binOp .eql T x y U) ty [.one (.bool p), .one (.bool q)] (.one (.bool (decide (p=q)))):=by
 intro M w ρ o ho _ hr;obtain ⟨hx,hy⟩:=vE hr;have hx:ρ x = .bool p∧_:=hx;have hy:ρ y = .bool q∧_:=hy;exact ⟨.bool (decide (p=q)),by cases p<;>cases q<;>simp [execOp,ho,hx.1,hy.1,eqGuard,binOp,Op.equal,Op.maxDepth,run_equalIn_bool _ _ _ _ _ hu],⟨rfl,rfl⟩⟩
theorem aj7 {p q:Bool} (hu:P.underlying T=some .bool):aZ P (.binOp .neq T x y U) ty [.one (.bool p), .one (.bool q)] (.one (.bool (decide (p≠q)))):=by
 intro M w ρ o ho _ hr;obtain ⟨hx,hy⟩:=vE hr;have hx:ρ x = .bool p∧_:=hx;have hy:ρ y = .bool q∧_:=hy;exact ⟨.bool (decide (p≠q)),by cases p<;>cases q<;>simp [execOp,ho,hx.1,hy.1,eqGuard,binOp,Op.equal,Op.maxDepth,run_equalIn_bool _ _ _ _ _ hu],⟨rfl,rfl⟩⟩
theorem aY {E sz b m:Nat} {n:Int} {α:Type} {f:α→List aI} {xs:List α} {d:α} (h:dB P T=some (E,sz,b)) (h0:0≤n) (hm:n.toNat=m) (hd:xs[m]? = some d) :
  aZ P (.indexAddr T x y) ty [.one (.slice sz (xs.map f)), .one (.int k n)] (.one (.bC (f d))):=Zw h h0 (by rw [hm,List.getElem?_map,hd];rfl)
theorem TR {ts:Array TypeId}:aZ P (.call ⟨.builtin .min,#[x,y],ts⟩) ty [.one (.int k a), .one (.int k b)] (.one (.int k (min a b))):=by
 intro M w ρ o ho ht hr;obtain ⟨hx,hy⟩:=vE (x:=x) (y:=y) hr;have hx:ρ x = .int k a∧_:=hx;have hy:ρ y = .int k b∧_:=hy;have e:(if b<a then b else a)=min a b:=by omega
 exact ⟨.int k (min a b),by simp [execOp,ho,resolve,invoke,builtin,hx.1,hy.1,run_min_int2,e],⟨rfl,rfl⟩⟩
theorem UB {ts:Array TypeId}:aZ P (.call ⟨.builtin .max,#[x,y],ts⟩) ty [.one (.int k a), .one (.int k b)] (.one (.int k (max a b))):=by
 intro M w ρ o ho ht hr;obtain ⟨hx,hy⟩:=vE (x:=x) (y:=y) hr;have hx:ρ x = .int k a∧_:=hx;have hy:ρ y = .int k b∧_:=hy;have e:(if a<b then b else a)=max a b:=by omega
 exact ⟨.int k (max a b),by simp [execOp,ho,resolve,invoke,builtin,hx.1,hy.1,run_max_int2,e],⟨rfl,rfl⟩⟩
theorem bH {c:aI} (h:kD P T=some (false,1)):aZ P (.load T x) ty [.one (.bC [c])] (.one c):=bZ (n:=1) h (by decide) (by simp) (.inr rfl)
end
section
variable {P:Program} {post:Out→Prop} {bk:List (List aG→Prop)} {τ:Env} {op:Op} {ty:Nat} {last:Bool} {k:Tr} {α:Type} {f:α→List aI}
theorem cV {cid:Nat} {i:C0} {xs:List α} {ik:IntKind} {n:Int} (h1:τ[cid]? = some (.rows (xs.map f))) (h2:c0 τ i = .int ik n) (h0:0≤n) (hn:n<xs.length) (hk:vc P post k τ bk):vc P post (.need (.idx cid i) op ty last k) τ bk:=
 nY h1 h2 h0 (by rw [List.length_map];exact hn) hk
theorem Uw {cid off sz m:Nat} {ag:Bool} {i:C0} {xs:List α} {d:α} {ik:IntKind} {n:Int} {t:aG} (h1:τ[cid]? = some (.rows (xs.map f))) (h2:c0 τ i = .int ik n) (h0:0≤n) (hm:n.toNat=m) (hd:xs[m]? = some d) (hag:ag=true∨sz=1) (ht:Qa ag (((f d).drop off).take sz)=t) (hk:vc P post k (τ ++ [t]) bk):vc P post (.need (.ldrow cid i off sz ag) op ty last k) τ bk:=
 vld h1 h2 h0 (by rw [hm,List.getElem?_map,hd];rfl) hag ht hk
theorem qQ {cid off m:Nat} {i:C0} {xs:List α} {d:α} {c:aI} {ik:IntKind} {n:Int} (h1:τ[cid]? = some (.rows (xs.map f))) (h2:c0 τ i = .int ik n) (h0:0≤n) (hm:n.toNat=m) (hd:xs[m]? = some d) (hc:(f d)[off]? = some c) (hk:vc P post k (τ ++ [.one c]) bk):vc P post (.need (.ldrow cid i off 1 false) op ty last k) τ bk:=by
 refine Uw h1 h2 h0 hm hd (.inr rfl) ?_ hk;obtain ⟨hlt,he⟩:=List.getElem?_eq_some_iff.1 hc;rw [List.drop_eq_getElem_cons hlt,he];rfl
theorem lY {cid sz off m:Nat} {i:C0} {cs:List C0} {xs:List α} {d d':α} {ik:IntKind} {n:Int} (h1:τ[cid]? = some (.rows (xs.map f))) (h2:c0 τ i = .int ik n) (h0:0≤n) (hm:n.toNat=m) (hd:xs[m]? = some d)
  (hu:(f d).take off++cs.map (c0 τ)++(f d).drop (off+cs.length)=f d') (hk:vc P post k (τ ++ [.rows ((xs.set m d').map f)]) bk):vc P post (.need (.strow cid sz i off cs) op ty last k) τ bk:=
 Fv h1 h2 h0 (by rw [hm,List.getElem?_map,hd];rfl) (by rw [hm,hu,List.map_set]) hk
theorem BX {z:List Value} {b:Nat} {l c:C0} {n:Nat} {m:Int} {kl kc:IntKind} (a:α) (h1:c0 τ l = .int kl m) (h2:c0 τ c = .int kc m) (hmn:m=n) (hu:z.map .exact=f a) (hb:b*n≤140737488355328) (hm:n≤maxLen) (hk:vc P post k (τ ++ [.rows ((List.replicate n a).map f)]) bk):vc P post (.need (.make z b l c) op ty last k) τ bk:=
 tI (n:=n) (m:=n) (by rw [←hmn];exact h1) (by rw [←hmn];exact h2) (by rw [hu,List.map_replicate]) (Nat.le_refl _) hb hm hk
theorem qI {sz b:Nat} {cid:Option Nat} {src:Option C0} {row:Option Nat} {xs:List α} {x:α} (h1:Ty τ cid (xs.map f)) (h2:Sv τ sz src row [f x]) (hb:(xs.length+1)*b≤140737488355328) (hm:xs.length+1≤maxLen) (hk:vc P post k (τ ++ [.rows ((xs ++ [x]).map f)]) bk):vc P post (.need (.app sz b cid src row) op ty last k) τ bk:=
 vA (ts:=xs.map f) (us:=[f x]) h1 h2 (by rw [List.map_append];rfl) (by rw [List.length_map,List.length_append];exact hb) (by rw [List.length_map,List.length_append];exact hm) hk
theorem QW {cid E b2:Nat} {s:SW} {x y:Operand} {T U:Nat} {xs zs ws:List α} (hf:∀ a,(f a).length=1) (h1:τ[cid]? = some (.rows (zs.map f))) (h2:oV τ s = .one (.slice 1 (xs.map f))) (hT:dB P T=some (E,1,b2)) (hle:xs.length≤zs.length) (hne:zs ≠ []) (hw:xs++zs.drop xs.length=ws)
  (hk:vc P post k (τ ++ [.one (.int .i64 xs.length), .rows (ws.map f)]) bk):vc P post (.need (.rop cid E 1 none [] [s] [none]) (.call ⟨.builtin .copy,#[x,y],#[T,U]⟩) ty last k) τ bk:=by
 have hall:∀ l:List α,∀ t∈l.map f,t.length=1:=fun l t ht=>by
  obtain ⟨a,_,rfl⟩:=List.mem_map.1 ht;exact hf a
 refine Qj (n:=0) (us:=zs.map f) h1 ⟨rfl,rfl⟩ (by simpa using hne) rfl (by rw [List.map_singleton,h2];exact Qx (sz2:=0) hT (by simpa using hle) (hall xs) (hall zs)) rfl ?_
 have e1:List.take 0 (zs.map f)++(xs.map f++(zs.map f).drop (xs.map f).length)++(zs.map f).drop (0+(zs.map f).length)=ws.map f:=by
  rw [List.take_zero,List.nil_append,Nat.zero_add,List.drop_length,List.append_nil,List.length_map,←List.map_drop,←List.map_append,hw]
 rw [e1,List.length_map];exact hk
end
abbrev W (i j:Nat):SW:=.one (.c (.u i j))
abbrev U (i j:Nat):SC:=.c (.u i j)
abbrev WK (n:Int):SW:=.one (.c (.k (.int .i64 n)))
abbrev I3 (n:Int):Value:=.int .i64 n
abbrev G1 (i:Nat):SW:=.agg [U i 0]
abbrev G2 (i:Nat):SW:=.agg [U i 0,U i 1]
abbrev G3 (i:Nat):SW:=.agg [U i 0,U i 1,U i 2]
abbrev G4 (i:Nat):SW:=.agg [U i 0,U i 1,U i 2,U i 3]
abbrev G5 (i:Nat):SW:=.agg [U i 0,U i 1,U i 2,U i 3,U i 4]
abbrev G6 (i:Nat):SW:=.agg [U i 0,U i 1,U i 2,U i 3,U i 4,U i 5]
abbrev G8 (i:Nat):SW:=.agg [U i 0,U i 1,U i 2,U i 3,U i 4,U i 5,U i 6,U i 7]
abbrev tE (v:Value):SC:=.c (.k v)
abbrev tN:SC:=.c (.k (.slice none 0 0))
abbrev tF (b:Bool):SW:=.one (.c (.k (.bool b)))
abbrev lV (i j:Nat):LV:=.w (W i j)
abbrev lK (z:Int):LV:=.w (WK z)
abbrev lN:LV:=.w (.one tN)
abbrev tT (n:Nat):Operand:=.tmp n
def bB (o:BinOp) (T t:Nat) (z:Int) (i j ty:Nat) (k:Tr):Tr:=.need (.prim [W i j,WK z] none) (.binOp o T (.tmp t) (.const (I3 z)) T) ty false k
def bR (o:BinOp) (T t u i j m n ty:Nat) (k:Tr):Tr:=.need (.prim [W i j,W m n] none) (.binOp o T (.tmp t) (.tmp u) T) ty false k
def aP (f:Nat) (as:List SW) (sh:List (Option Nat)) (ts tys:List Nat) (ty:Nat) (l:Bool) (k:Tr):Tr:=.need (.call f as sh) (.call ⟨.value (.func f),(ts.map Operand.tmp).toArray,tys.toArray⟩) ty l k
def cY (i j t T:Nat) (k:Tr):Tr:=.need (.prim [W i j] none) (.call ⟨.builtin .len,#[(.tmp t)],#[T]⟩) 3 false k
def gE (i j m n T t u:Nat) (k:Tr):Tr:=.need (.prim [W i j,W m n] none) (.indexAddr T (.tmp t) (.tmp u)) 0 false k
def eY (i j:Nat) (sh:Option Nat) (T t:Nat) (k:Tr):Tr:=.need (.prim [W i j] sh) (.load T (.tmp t)) T false k
open Go.RowKit (Below)
def gO:List Nat→Code→Code
 | [],c=>c
 | 0::p, .seq a _=>gO p a
 | 1::p, .seq _ b=>gO p b
 | 0::p, .block _ a=>gO p a
 | 0::p, .loop a=>gO p a
 | 0::p, .cond _ a _=>gO p a
 | 1::p, .cond _ _ b=>gO p b
 | _,_=>.skip
def pH (fn:Func):Code:=fn.body.getD .skip
def stA (ins:List (Nat×Arg)):St:=⟨ins.mapIdx fun i p=>(p.1,dG i p.2),[],[]⟩
def CI:Nat→Code→Code
 | 0, .seq _ b=>b
 | n+1, .seq _ b=>CI n b
 | _,_=>.skip
def UT (P:Program) (N:Nat) (hints:Nat→Option Hint):Nat→Code→Nat→Nat→Nat→Nat→St→Eh→(Ex→Nat→Nat→St→Eh→Tr)→Tr
 | 0, .seq a _,l,d,nb,ni,s,dec,k=>exec P N hints a l d nb ni s dec k
 | n+1, .seq a b,l,d,nb,ni,s,dec,k=>exec P N hints a l d nb ni s dec fun e nb ni s dec=>match e with
   | .normal=>UT P N hints n b (l+lL a) d nb ni s dec k
   | e=>k e nb ni s dec
 | _,_,_,_,_,_,_,_,_=>.fail 1018
def Wo (tail:Bool):Ex→Bool
 | .normal=>true
 | .ret=>tail
 | .exit _=>false
def Vl (P:Program) (res:List ResultVar) (tail:Bool) (e:Ex) (s:St):Tr:=if Wo tail e then match (Ar P s res).run s with
    | some (vs,_)=>.ret vs
    | none=>.fail 1008 else .fail 1011
def Bc (P:Program) (N:Nat) (hints:Nat→Option Hint) (c:Code) (ins:List (Nat×Arg)) (res:List ResultVar) (cut:Option Nat) (tail:Bool):Tr:=
 match cut with
 | none=>exec P N hints c 0 0 0 ins.length (stA ins) [] fun e nb ni s _=>Vl P res tail e s
 | some n=>UT P N hints n c 0 0 0 ins.length (stA ins) [] fun e nb ni s _=>Vl P res tail e s
section
variable {P:Program} {N:Nat} {M0:dL} {w0:World} {post:Out→Prop} {hints:Nat→Option Hint}
theorem Ix (hm:P.follows .mixedOrders=true):∀ (n:Nat) (c:Code) (l d nb ni:Nat) (s:St) (dec:Eh) (k:Ex→Nat→Nat→St→Eh→Tr) (τ:Env) (bk:List (List aG→Prop)),
  vc P post (UT P N hints n c l d nb ni s dec k) τ bk→τ.length=ni→gU τ dec→d≤bk.length →
  ∀ ρ a w (Q:Exit→Act→World→Prop),Sat M0 w0 N s τ ρ a w→aJ8 post M0 w0 Q→vB P post M0 w0→SM P N M0 w0 post d τ bk k (Exit.then ((CI n c).wp P Q) Q)→c.wp P Q a w
 | 0, .seq x y,l,d,nb,ni,s,dec,k,τ,bk,h,hn,hd,hb,ρ,a,w,Q,hs,hp,ho,hk=>by
   refine wp_seq (jR hm x l d nb ni s dec k τ bk h hn hd hb ρ a w _ hs ?_ ho hk);intro c v a w h1 h2 h3 h4;exact hp c v a w h1 h2 h3 h4
 | n+1, .seq x y,l,d,nb,ni,s,dec,k,τ,bk,h,hn,hd,hb,ρ,a,w,Q,hs,hp,ho,hk=>by
   refine wp_seq (jR hm x l d nb ni s dec _ τ bk h hn hd hb ρ a w _ hs ?_ ho ?_)
   ·intro c v a w h1 h2 h3 h4;exact hp c v a w h1 h2 h3 h4
   ·intro ex nb' s' dec' m bk' ρ' a' w' hbk hb' hv hd' hs';cases ex with
    | normal=>
      refine Ix hm n y _ d nb' _ s' dec' k (τ++m) bk' hv rfl hd' hb' ρ' a' w' Q hs' hp ho ?_;intro ex2 nb2 s2 dec2 m2 bk2 ρ2 a2 w2 hbk2 hb2 hv2 hd2 hs2;rw [List.append_assoc] at hv2 hd2 hs2;exact hk ex2 nb2 s2 dec2 (m++m2) bk2 ρ2 a2 w2 (hbk2.trans hbk) hb2 hv2 hd2 hs2
    | exit id=>exact hk (.exit id) nb' s' dec' m bk' ρ' a' w' hbk hb' hv hd' hs'
    | ret=>exact hk .ret nb' s' dec' m bk' ρ' a' w' hbk hb' hv hd' hs'
 | n, .skip,l,d,nb,ni,s,dec,k,τ,bk,h,_,_,_,_,_,_,_,_,_,_,_=>by cases n<;>exact (h:False).elim
 | n, .region ..,l,d,nb,ni,s,dec,k,τ,bk,h,_,_,_,_,_,_,_,_,_,_,_=>by cases n<;>exact (h:False).elim
 | n, .cond ..,l,d,nb,ni,s,dec,k,τ,bk,h,_,_,_,_,_,_,_,_,_,_,_=>by cases n<;>exact (h:False).elim
 | n, .block ..,l,d,nb,ni,s,dec,k,τ,bk,h,_,_,_,_,_,_,_,_,_,_,_=>by cases n<;>exact (h:False).elim
 | n, .loop ..,l,d,nb,ni,s,dec,k,τ,bk,h,_,_,_,_,_,_,_,_,_,_,_=>by cases n<;>exact (h:False).elim
 | n, .exit ..,l,d,nb,ni,s,dec,k,τ,bk,h,_,_,_,_,_,_,_,_,_,_,_=>by cases n<;>exact (h:False).elim
 | n, .ret,l,d,nb,ni,s,dec,k,τ,bk,h,_,_,_,_,_,_,_,_,_,_,_=>by cases n<;>exact (h:False).elim
 | n, .scope ..,l,d,nb,ni,s,dec,k,τ,bk,h,_,_,_,_,_,_,_,_,_,_,_=>by cases n<;>exact (h:False).elim
 | n, .goto ..,l,d,nb,ni,s,dec,k,τ,bk,h,_,_,_,_,_,_,_,_,_,_,_=>by cases n<;>exact (h:False).elim
 | n, .rangeFunc ..,l,d,nb,ni,s,dec,k,τ,bk,h,_,_,_,_,_,_,_,_,_,_,_=>by cases n<;>exact (h:False).elim
end
section
variable {P:Program}
theorem CQ (f:Nat→Arg→SV) (t:Nat):∀ (l:List (Nat×Arg)) (d:Nat) (x:SV),look (l.mapIdx fun i p=>(p.1,f (d+i) p.2)) t=some x→∃ i p,l[i]? = some p∧p.1=t∧x=f (d+i) p.2
 | [],d,x,h=>by simp [look] at h
 | p::l,d,x,h=>by
   rw [List.mapIdx_cons] at h;simp only [look,Nat.add_zero] at h;split at h
   ·rename_i e;simp only [Option.some.injEq] at h;exact ⟨0,p,rfl,e,by simpa using h.symm⟩
   ·have e:(l.mapIdx fun i p=>(p.1,f (d+(i+1)) p.2))=l.mapIdx fun i p=>(p.1,f (d+1+i) p.2):=by
     congr 1;funext i p;rw [show d+(i+1)=d+1+i by omega]
    rw [e] at h;obtain ⟨i,q,h1,h2,h3⟩:=CQ f t l (d+1) x h;exact ⟨i+1,q,by simpa using h1,h2,by rw [h3,show d+1+i=d+(i+1) by omega]⟩
theorem Ou {N:Nat} {ins:List (Nat×Arg)} {xs:List In} (hin:aX In.Is (ins.map (·.2)) xs) {M:Nat→Prop} {w:World} {a:Act} (hM:dK M w) (hsz:a.tmps.size=N) (hdf:a.defers = [])
  (hv:cG M w (xs.map In.ty) (ins.map fun p=>a.tmps.getD p.1 Go.undef)):Sat ⟨M,⟨0,Go.undef,#[]⟩⟩ w N (stA ins) (xs.map In.env) (fun _=>⟨0,Go.undef,#[]⟩) a w:=by
 refine ⟨⟨rfl,rfl,rfl,Nat.le_refl _,fun _ _ _=>rfl,fun x hx=>⟨(hM.2 x hx).1,oW,(hM.2 x hx).2⟩⟩,hsz,hdf,fun t=>?_,(by intro b x hb;cases hb),(by intro b b' x x' k hb;cases hb),(by intro b x k hb;cases hb),fun k hk ho=>ho.elim (fun h=>Nat.not_lt.2 h (hM.1 k hk)) oW,(by intro b E sz cid hb;cases hb)⟩;show fM _ _ _ _ _ ((look (ins.mapIdx fun i p=>(p.1,dG i p.2)) t).getD .junk) _;cases hl:look (ins.mapIdx fun i p=>(p.1,dG i p.2)) t with
 | none=>exact trivial
 | some x=>
   obtain ⟨i,p,h1,rfl,rfl⟩:=CQ dG t ins 0 x (by simpa only [Nat.zero_add] using hl);rw [Nat.zero_add];obtain ⟨y,hy,hix⟩:=hin.get i p.2 (by rw [List.getElem?_map,h1];rfl);obtain ⟨ty,hty,hrep⟩:=hv.get i _ (by rw [List.getElem?_map,h1];rfl);rw [List.getElem?_map,hy] at hty;simp only [Option.map_some,Option.some.injEq] at hty;subst hty;refine mK (by rw [List.getElem?_map,hy];rfl) hix (aG.yC ?_ hrep);intro k o hk ho _;refine ⟨fun hm=>?_,ho⟩;rcases hm with hm | ⟨b,x,hb,_⟩
   ·exact hk hm
   ·cases hb
theorem Nd {N:Nat} {M:Nat→Prop} {w w':World} {s:St} {τ:Env} {ρ:Nat→Gh} {a:Act} {res:List ResultVar} {tail:Bool} {out:Out} {e:Ex} {bk:List (List aG→Prop)} {Q:Exit→Act→World→Prop}
  (h:vc P (fun o=>jP o out) (Vl P res tail e s) τ bk) (hs:Sat ⟨M,⟨0,Go.undef,#[]⟩⟩ w N s τ ρ a w')
  (hR:∀ rs us,out = .ret rs→Wo tail e=true→Below w.heap.size w w'→a.tmps.size=N→a.defers = []→(res.mapM (mB a.tmps)).run P w' = .ok us w'→cG M w' rs us→Q (zO e) a w'):Q (zO e) a w':=by
 unfold Vl at h;split at h
 ·rename_i hex;split at h
  ·rename_i vs' l hq;obtain ⟨us,hr,hrep⟩:=oU hs hq (Ci hs _);cases out with
   | ret rs=>exact hR rs us rfl hex hs.below.below hs.sz hs.df hr (cG.sub h hrep)
   | retr _ _=>exact h.elim
   | orc _ _ _=>exact h.elim
   | pan _=>exact h.elim
  ·exact h.elim
 ·exact h.elim
theorem Ya {c c':Code} {ins:List (Nat×Arg)} {xs:List In} {N:Nat} {hints:Nat→Option Hint} {res:List ResultVar} {tail:Bool} {out:Out} (hm:P.follows .mixedOrders=true) (hin:aX In.Is (ins.map (·.2)) xs)
  (h:vc P (fun o=>jP o out) (Bc P N hints c' ins res none tail) (xs.map In.env) []) (hc:c'=c) {M:Nat→Prop} {w:World} {a:Act} {Q:Exit→Act→World→Prop} (hM:dK M w) (hsz:a.tmps.size=N) (hdf:a.defers = [])
  (hv:cG M w (xs.map In.ty) (ins.map fun p=>a.tmps.getD p.1 Go.undef))
  (hR:∀ e a' w' rs us,out = .ret rs→Wo tail e=true→Below w.heap.size w w'→a'.tmps.size=N→a'.defers = []→(res.mapM (mB a'.tmps)).run P w' = .ok us w'→cG M w' rs us→Q (zO e) a' w')
  (hP:∀ c v a' w',out = .pan c→a'.defers = []→Below w.heap.size w w'→c.rep M w' v→Q (.panic [{ v,recovered:=false }]) a' w'):c.wp P Q a w:=by
 subst hc;have hil:xs.length=ins.length:=by have:=hin.length;simpa using this.symm
 refine jR (M0:=⟨M,⟨0,Go.undef,#[]⟩⟩) (w0:=w) hm c' 0 0 0 ins.length _ [] _ (xs.map In.env) [] h (by simpa using hil) (by intro x hx;cases hx) (Nat.le_refl _) (fun _=>⟨0,Go.undef,#[]⟩) a w _ (Ou hin hM hsz hdf hv) ?_ vB.no ?_
 ·intro c v a w' hp hr hb hd;cases out with
  | pan d=>have hp:c=d:=hp;subst hp;exact hP c v a w' rfl hd hb.below hr
  | ret _=>exact hp.elim
  | retr _ _=>exact hp.elim
  | orc _ _ _=>exact hp.elim
 ·intro ex nb s dec m bk' ρ a' w' _ _ hv2 _ hs;exact Nd hv2 hs fun rs us h1 h2 h3 h4 h5 h6 h7=>hR ex a' w' rs us h1 h2 h3 h4 h5 h6 h7
theorem UP {c c':Code} {n:Nat} {ins:List (Nat×Arg)} {xs:List In} {N:Nat} {hints:Nat→Option Hint} {res:List ResultVar} {tail:Bool} {out:Out} (hm:P.follows .mixedOrders=true) (hin:aX In.Is (ins.map (·.2)) xs)
  (h:vc P (fun o=>jP o out) (Bc P N hints c' ins res (some n) tail) (xs.map In.env) []) (hc:c'=c) {M:Nat→Prop} {w:World} {a:Act} {Q:Exit→Act→World→Prop} (hM:dK M w) (hsz:a.tmps.size=N) (hdf:a.defers = [])
  (hv:cG M w (xs.map In.ty) (ins.map fun p=>a.tmps.getD p.1 Go.undef))
  (hR:∀ e a' w' rs us,out = .ret rs→Wo tail e=true→Below w.heap.size w w'→a'.tmps.size=N→a'.defers = []→(res.mapM (mB a'.tmps)).run P w' = .ok us w'→cG M w' rs us→Exit.then ((CI n c).wp P Q) Q (zO e) a' w')
  (hP:∀ c v a' w',out = .pan c→a'.defers = []→Below w.heap.size w w'→c.rep M w' v→Q (.panic [{ v,recovered:=false }]) a' w'):c.wp P Q a w:=by
 subst hc;have hil:xs.length=ins.length:=by have:=hin.length;simpa using this.symm
 refine Ix (M0:=⟨M,⟨0,Go.undef,#[]⟩⟩) (w0:=w) hm n c' 0 0 0 ins.length _ [] _ (xs.map In.env) [] h (by simpa using hil) (by intro x hx;cases hx) (Nat.le_refl _) (fun _=>⟨0,Go.undef,#[]⟩) a w _ (Ou hin hM hsz hdf hv) ?_ vB.no ?_
 ·intro c v a w' hp hr hb hd;cases out with
  | pan d=>have hp:c=d:=hp;subst hp;exact hP c v a w' rfl hd hb.below hr
  | ret _=>exact hp.elim
  | retr _ _=>exact hp.elim
  | orc _ _ _=>exact hp.elim
 ·intro ex nb s dec m bk' ρ a' w' _ _ hv2 _ hs;exact Nd hv2 hs fun rs us h1 h2 h3 h4 h5 h6 h7=>hR ex a' w' rs us h1 h2 h3 h4 h5 h6 h7
theorem uP {w:World} {tmps:Array Value}:∀ {outs:List Nat} {us:List Value},((outs.map ResultVar.tmp).mapM (mB tmps)).run P w = .ok us w→us=outs.map fun t=>tmps.getD t Go.undef
 | [],us,h=>by
   simp only [List.map_nil,List.mapM_nil,Sem.run_pure,Result.ok.injEq] at h;exact h.1.symm
 | t::ts,us,h=>by
   have key:∀ ts:List Nat,((ts.map ResultVar.tmp).mapM (mB tmps)).run P w = .ok (ts.map fun t=>tmps.getD t Go.undef) w:=by
    intro ts
    induction ts with
    | nil=>simp only [List.map_nil,List.mapM_nil,Sem.run_pure]
    | cons t ts ih=>simp only [List.map_cons,List.mapM_cons,mB,Sem.run_bind,Sem.run_pure,Result.andThen_ok,ih]
   rw [key] at h;simp only [Result.ok.injEq,and_true] at h;exact h.symm
def av0 (s:St) (T:Nat) (rs:List ResultVar):Tr:=
 match rs with
 | [.tmp t]=>match s.t t with
   | .w (.one (.p b 0))=>match s.b b with
     | some (.var T' cells)=>if T'=T∧s.s b=false then match (pX cells).run s with
       | some (xs,l)=>if l.contains b=false then .ret [.agg (xs.map .c)] else .fail 1012
       | none=>.fail 1013 else .fail 1014
     | _=>.fail 1015
   | _=>.fail 1016
 | _=>.fail 1017
def Ta (P:Program) (fn:Func) (hints:Nat→Option Hint) (args:List Arg) (T:Nat):Tr:=
 match fn.body with
 | none=>.fail 1006
 | some c=>
   if args.length≤fn.ntmps then
   exec P fn.ntmps hints c 0 0 0 args.length ⟨args.mapIdx fun i a=>(i,dG i a),[],[]⟩ [] fun e nb ni s _=>match e with
    | .exit _=>.fail 1007
    | _=>av0 s T fn.results.toList
   else .fail 1009
def MT (P:Program) (f:FuncId) (T:Nat) (args:List aG) (cs:List aI):Prop:=
 ∀ (M:Nat→Prop) (w:World) (vs:List Value),dK M w→cG M w args vs →
   Calls P f vs.toArray w fun e w'=>Below w.heap.size w w'∧∃ b us,e = .returned (.pointer (some ⟨b,0,none⟩))∧w.heap.size≤b∧w'.heap[b]? = some (.cells (List.toArray us) T (0,0))∧aW (fun k=>M k∨k=b) w' cs us
theorem Ux {f:FuncId} {fn:Func} {hints:Nat→Option Hint} {args:List Arg} {ins:List In} {T:Nat} {cs:List aI} (hm:P.follows .mixedOrders=true)
  (hf:P.funcs[f]? = some fn) (hin:aX In.Is args ins) (h:vc P (fun o=>jP o (.ret [.agg cs])) (Ta P fn hints args T) (ins.map In.env) []):MT P f T (ins.map In.ty) cs:=by
 intro M w vs hM hvs;unfold Ta at h;split at h
 ·exact h.elim
 ·rename_i c hb;split at h
  ·rename_i hlen;refine calls_of_wp hf hb ?_;have hil:ins.length=args.length:=hin.length.symm;have hvl:vs.length=args.length:=by rw [←hvs.length];simpa using hil
   refine jR (M0:=⟨M,⟨0,Go.undef,#[]⟩⟩) (w0:=w) hm c 0 0 0 args.length _ [] _ (ins.map In.env) [] h (by simpa using hil) (by intro x hx;cases hx) (Nat.le_refl _) (fun _=>⟨0,Go.undef,#[]⟩) _ w _ ?_ ?_ vB.no ?_
   ·refine ⟨⟨rfl,rfl,rfl,Nat.le_refl _,fun _ _ _=>rfl,fun x hx=>⟨(hM.2 x hx).1,oW,(hM.2 x hx).2⟩⟩,?_,rfl,fun t=>?_,(by intro b x hb;cases hb),(by intro b b' x x' k hb;cases hb),(by intro b x k hb;cases hb),fun k hk ho=>ho.elim (fun h=>Nat.not_lt.2 h (hM.1 k hk)) oW,(by intro b E sz cid hb;cases hb)⟩
    ·simp;omega
    ·rw [LR];cases hat:args[t]? with
     | none=>trivial
     | some g=>
       have htl:t<args.length:=(List.getElem?_eq_some_iff.1 hat).1;obtain ⟨x,hx,hix⟩:=hin.get t g hat;have hvt:vs[t]? = some (vs[t]'(by omega)):=List.getElem?_eq_getElem (by omega);obtain ⟨ty,hty,hrep⟩:=hvs.get t _ hvt;rw [List.getElem?_map,hx] at hty;simp only [Option.map_some,Option.some.injEq] at hty;subst hty
       have hval:(vs.toArray++Array.replicate (fn.ntmps-vs.toArray.size) Go.undef).getD t Go.undef=vs[t]'(by omega):=by
        rw [Array.getD_eq_getD_getElem?,Array.getElem?_append_left (by simp;omega)];simp [hvt]
       rw [hval];refine mK (by rw [List.getElem?_map,hx];rfl) hix (aG.yC ?_ hrep);intro k o hk ho _;refine ⟨fun hm=>?_,ho⟩;rcases hm with hm | ⟨b,x,hb,_⟩
       ·exact hk hm
       ·cases hb
   ·intro c v a w' hp;exact hp.elim
   ·intro ex nb s dec m bk' ρ a w' _ _ hv _ hs
    have key:vc P (fun o=>jP o (.ret [.agg cs])) (av0 s T fn.results.toList) (ins.map In.env++m) bk'→a.defers = []∧∃ v,(results fn a.tmps).run P w' = .ok v w'∧(Below w.heap.size w w'∧∃ b us,Ending.returned v = .returned (.pointer (some ⟨b,0,none⟩))∧w.heap.size≤b∧w'.heap[b]? = some (.cells (List.toArray us) T (0,0))∧aW (fun k=>M k∨k=b) w' cs us):=by
     clear hv;intro hv;unfold av0 at hv;split at hv
     ·rename_i t hres;split at hv
      ·rename_i b0 hbt;split at hv
       ·rename_i T' cells hbx;split at hv
        ·rename_i hc;obtain ⟨rfl,hsb⟩:=hc;split at hv
         ·rename_i xs l hq;split at hv
          ·rename_i hl;obtain ⟨us,hh,hall⟩:=hs.bx b0 _ hbx;have htv:=hs.tm t;rw [hbt] at htv;have hptr:a.tmps.getD t Go.undef = .pointer (some ⟨(ρ b0).blk,0,none⟩):=htv.2;have hown:own ρ b0 (.var T' cells)=some (ρ b0).blk:=rfl;have hlo:=hs.lo b0 _ _ hbx hown
           have hS:bV ⟨M,⟨0,Go.undef,#[]⟩⟩ ρ s l (fun k=>M k∨k=(ρ b0).blk):=by
            refine ⟨fun k hk=>?_,fun b x k h1 h2 h3 hk=>?_⟩
            ·rcases hk with hk | rfl
             ·exact .inl hk
             ·exact .inr ⟨b0,_,hbx,hsb,hown⟩
            ·rcases hk with hk | rfl
             ·exact hs.old k hk (hs.lo b x k h1 h2).1
             ·have:=hs.inj b b0 x _ _ h1 hbx h2 hown;subst this;rcases h3 with h3 | h3
              ·rw [hsb] at h3;cases h3
              ·have:l.contains b=true:=by simpa using h3
               rw [hl] at this;cases this
           have hrep:=lD hs hq hS hall;refine ⟨hs.df,_,iK fn a.tmps [.pointer (some ⟨(ρ b0).blk,0,none⟩)] ?_,hs.below.below,(ρ b0).blk,us,rfl,?_,hh,?_⟩
           ·rw [hres];simp only [List.mapM_cons,List.mapM_nil,mB,Sem.run_bind,Sem.run_pure,Result.andThen_ok,hptr]
           ·rcases hlo.1 with h1 | h1
            ·exact h1
            ·exact (oW h1).elim
           ·have hsub:aO [.agg ((xs.map SC.c).map (NM (ins.map In.env++m)))] [.agg cs]:=hv;have h2:=hsub.1;rw [List.map_map] at h2;exact aW.sub h2 hrep
          ·exact hv.elim
         ·exact hv.elim
        ·exact hv.elim
       ·exact hv.elim
      ·exact hv.elim
     ·exact hv.elim
    cases ex with
    | normal=>exact key hv
    | ret=>exact key hv
    | exit id=>exact hv.elim
  ·exact h.elim
end
open Go.RowKit (Below)
def Qf (ins:List (Nat×Arg)) (t0:Nat) (sv:SV) (bx:Bx):St:=⟨(ins.mapIdx fun i p=>(p.1,dG i p.2)) ++ [(t0,sv)],[(0,bx)],[]⟩
section
variable {P:Program}
theorem TK {N:Nat} {ins:List (Nat×Arg)} {xs:List In} {t0:Nat} {sv:SV} {bx:Bx} {gh:Gh} {y:aG} (hin:aX In.Is (ins.map (·.2)) xs) {M:Nat→Prop} {w:World} {a:Act}
  (hM:dK (fun k=>M k∨gh.val.ownBlock=some k) w) (hMd:∀ k,M k→gh.val.ownBlock≠some k) (hsz:a.tmps.size=N) (hdf:a.defers = [])
  (hv:cG (fun k=>M k∨gh.val.ownBlock=some k) w (xs.map In.ty) (ins.map fun p=>a.tmps.getD p.1 Go.undef))
  (hown:own (fun _=>gh) 0 bx=gh.val.ownBlock)
  (hsv:fM (fun b=>((Qf ins t0 sv bx).b b).isSome) (xs.map In.env ++ [y]) (fun _=>gh) (fun k=>M k∨gh.val.ownBlock=some k) w sv (a.tmps.getD t0 Go.undef))
  (hbx:mH 0 (fun b=>((Qf ins t0 sv bx).b b).isSome) (xs.map In.env ++ [y]) (fun _=>gh) (fun k=>M k∨gh.val.ownBlock=some k) w 0 bx)
  (holt:∀ k,gh.val.ownBlock=some k→k<w.heap.size):Sat ⟨M,gh⟩ w N (Qf ins t0 sv bx) (xs.map In.env ++ [y]) (fun _=>gh) a w:=by
 have hil:xs.length=ins.length:=by have:=hin.length;simpa using this.symm
 have hb0:∀ b x,(Qf ins t0 sv bx).b b=some x→b=0∧x=bx:=by
  intro b x h;simp only [Qf,St.b,look] at h;split at h
  ·rename_i e;simp only [Option.some.injEq] at h;exact ⟨e.symm,h.symm⟩
  ·cases h
 have hb00:(Qf ins t0 sv bx).b 0=some bx:=by simp [Qf,St.b,look]
 have hMs:Ms ⟨M,gh⟩ (fun _=>gh) (Qf ins t0 sv bx)=fun k=>M k∨gh.val.ownBlock=some k:=by
  funext k
  apply propext
  constructor
  ·rintro (hk | ⟨b,x,h1,_,h3⟩)
   ·exact .inl hk
   ·obtain ⟨rfl,rfl⟩:=hb0 b x h1;rw [hown] at h3;exact .inr h3
  ·rintro (hk | hk)
   ·exact .inl hk
   ·exact .inr ⟨0,bx,hb00,by simp [Qf,St.s],by rw [hown];exact hk⟩
 refine ⟨⟨rfl,rfl,rfl,Nat.le_refl _,fun _ _ _=>rfl,fun x hx=>⟨fun h=>(hM.2 x hx).1 (.inl h),fun h=>(hM.2 x hx).1 (.inr h),(hM.2 x hx).2⟩⟩,hsz,hdf,fun t=>?_,fun b x h=>?_,fun b b' x x' k h1 h2 _ _=>?_,fun b x k h1 h2=>?_,fun k hk ho=>?_,fun b E sz cid h=>?_⟩
 ·rw [hMs];show fM _ _ _ _ _ ((look ((ins.mapIdx fun i p=>(p.1,dG i p.2)) ++ [(t0,sv)]) t).getD .junk) _;rw [Kk];cases hl:look (ins.mapIdx fun i p=>(p.1,dG i p.2)) t with
  | none=>
    simp only [Option.none_or,look];split
    ·rename_i e;subst e;exact hsv
    ·exact trivial
  | some x=>
    simp only [Option.some_or,Option.getD_some];obtain ⟨i,p,h1,rfl,rfl⟩:=CQ dG t ins 0 x (by simpa only [Nat.zero_add] using hl);rw [Nat.zero_add];obtain ⟨z,hy,hix⟩:=hin.get i p.2 (by rw [List.getElem?_map,h1];rfl);obtain ⟨ty,hty,hrep⟩:=hv.get i _ (by rw [List.getElem?_map,h1];rfl);rw [List.getElem?_map,hy] at hty;simp only [Option.map_some,Option.some.injEq] at hty;subst hty;have hi:i<xs.length:=(List.getElem?_eq_some_iff.1 hy).1;exact mK (by rw [List.getElem?_append_left (by simpa using hi),List.getElem?_map,hy];rfl) hix hrep
 ·rw [hMs];obtain ⟨rfl,rfl⟩:=hb0 b x h;exact hbx
 ·rw [(hb0 b x h1).1,(hb0 b' x' h2).1]
 ·obtain ⟨rfl,rfl⟩:=hb0 b x h1;rw [hown] at h2;exact ⟨.inr h2,holt k h2⟩
 ·rcases ho with ho | ho
  ·exact Nat.not_lt.2 ho (hM.1 k (.inl hk))
  ·exact hMd k hk ho
 ·rfl
def LZ (P:Program) (tr E sz:Nat) (res:List ResultVar) (e:Ex) (s:St):Tr:=match e with
 | .normal=>match s.t tr with
   | .w (.one (.r b))=>match s.b b with
     | some (.row E' sz' cid)=>match (Ar P s res).run s with
       | some (vs,l)=>if E'=E∧sz'=sz∧s.s b=false∧l.contains b=false then .retr vs cid else .fail 1020
       | none=>.fail 1008
     | _=>.fail 1021
   | _=>.fail 1022
 | _=>.fail 1023
def Rp (P:Program) (N:Nat) (hints:Nat→Option Hint) (c:Code) (ins:List (Nat×Arg)) (t0 E sz tr:Nat) (res:List ResultVar):Tr:=
 exec P N hints c 0 0 1 (ins.length+1) (Qf ins t0 (.w (.one (.r 0))) (.row E sz ins.length)) [] fun e nb ni s _=>LZ P tr E sz res e s
theorem ar1 {c c':Code} {ins:List (Nat×Arg)} {xs:List In} {N t0 E sz tr:Nat} {hints:Nat→Option Hint} {res:List ResultVar} {ts ts':List (List aI)} {rs:List aG} (hm:P.follows .mixedOrders=true) (hin:aX In.Is (ins.map (·.2)) xs)
  {of:Nat} {oa on:List aG} (h:vc P (fun o=>o = .retr rs ts'∨o = .orc of oa on) (Rp P N hints c' ins t0 E sz tr res) (xs.map In.env ++ [.rows ts]) []) (hc:c'=c) {M:Nat→Prop} {w:World} {a:Act} {Q:Exit→Act→World→Prop} {v:Value} {vs:List Value} {base:Nat}
  (hor:(∀ as w,(callFunc of as).run P w = .ok (.enter of as) w)∧∀ (M:Nat→Prop) (w':World) (vs:List Value),w.heap.size≤w'.heap.size→dK M w'→cG M w' oa vs→Calls P of vs.toArray w' fun e w2=>Below w'.heap.size w' w2∧sK M w2 (.ret on) e) (hM:dK (fun k=>M k∨v.ownBlock=some k) w) (hMd:∀ k,M k→v.ownBlock≠some k) (hsz:a.tmps.size=N) (hdf:a.defers = [])
  (hv:cG (fun k=>M k∨v.ownBlock=some k) w (xs.map In.ty) (ins.map fun p=>a.tmps.getD p.1 Go.undef)) (ht0:a.tmps.getD t0 Go.undef=v) (hrow:w.ownsRow base E sz v ts.length vs) (hts:∀ t∈ts,t.length=sz) (hrep:aW (fun k=>M k∨v.ownBlock=some k) w ts.flatten vs)
  (hR:∀ a' w' us v' vs',w.grownBy w' v.ownBlock→a'.tmps.size=N→a'.defers = []→(res.mapM (mB a'.tmps)).run P w' = .ok us w'→a'.tmps.getD tr Go.undef=v'→w'.ownsRow 0 E sz v' ts'.length vs'→(∀ k,v'.ownBlock=some k→w.heap.size≤k∨v.ownBlock=some k) →
   cG (fun k=>M k∨v'.ownBlock=some k) w' rs us→aW (fun k=>M k∨v'.ownBlock=some k) w' ts'.flatten vs'→Q .normal a' w'):c.wp P Q a w:=by
 subst hc;have hil:xs.length=ins.length:=by have:=hin.length;simpa using this.symm
 have hv1:v.oneCell'=true:=by
  rcases hrow.2 with ⟨hv,_⟩ | ⟨g,cap,cur,hv,_⟩<;>rw [hv]<;>rfl
 have holt:∀ k,v.ownBlock=some k→k<w.heap.size:=fun k hk=>(hrow.lt k hk).2
 have hrow0:w.ownsRow 0 E sz v ts.length vs:=by
  refine ⟨hrow.1,?_⟩;rcases hrow.2 with hn | ⟨g,cap,cur,hv,hbg,rest⟩
  ·exact .inl hn
  ·exact .inr ⟨g,cap,cur,hv,Nat.zero_le _,rest⟩
 refine jR (M0:=⟨M,⟨0,v,#[]⟩⟩) (w0:=w) hm c' 0 0 1 (ins.length+1) _ [] _ (xs.map In.env ++ [.rows ts]) [] h (by simp [hil]) (by intro x hx;cases hx) (Nat.le_refl _) (fun _=>⟨0,v,#[]⟩) a w _
  (TK (gh:=⟨0,v,#[]⟩) (t0:=t0) (sv:=.w (.one (.r 0))) (bx:=.row E sz ins.length) (y:=.rows ts) hin hM hMd hsz hdf hv rfl ⟨by simp [Qf,St.b,look],ht0,by rw [ht0];exact hv1⟩ ⟨ts,vs,by rw [List.getElem?_append_right (by simp [hil]),List.length_map,hil,Nat.sub_self];rfl,hrow0,hts,hrep⟩ holt) ?_ ?_ ?_
 ·intro c v a w' hp;rcases hp with hp | hp<;>cases hp
 ·intro f args news hp;rcases hp with hp | hp
  ·cases hp
  ·cases hp;exact ⟨hor.1,fun M w' vs hk hM hr=>hor.2 M w' vs hk.size hM hr⟩
 ·intro ex nb s dec m bk' ρ a' w' _ _ hv2 _ hs;replace hv2:vc P (fun o=>o = .retr rs ts'∨o = .orc of oa on) (LZ P tr E sz res ex s) (xs.map In.env ++ [.rows ts]++m) bk':=hv2;cases ex with
  | exit id=>exact hv2.elim
  | ret=>exact hv2.elim
  | normal=>
    unfold LZ at hv2;simp only at hv2;split at hv2
    ·rename_i b0 hbt;split at hv2
     ·rename_i E' sz' cid hbx;split at hv2
      ·rename_i vs2 l hq;split at hv2
       ·rename_i hc;obtain ⟨rfl,rfl,hsb,hl⟩:=hc;obtain ⟨ts2,hcid,hpo⟩:=hv2;replace hpo:Out.retr (vs2.map (oV _)) ts2=Out.retr rs ts':=hpo.resolve_right (fun e=>by cases e);simp only [Out.retr.injEq] at hpo;obtain ⟨hrs,rfl⟩:=hpo;obtain ⟨ts3,xs3,hcid3,hown3,hlen3,hrep3⟩:=hs.bx b0 _ hbx;rw [hcid] at hcid3;simp only [Option.some.injEq,aG.rows.injEq] at hcid3;subst hcid3;have htv:=hs.tm tr;rw [hbt] at htv;have hval:a'.tmps.getD tr Go.undef=(ρ b0).val:=htv.2.1;have hown:own ρ b0 (.row E' sz' cid)=(ρ b0).val.ownBlock:=rfl
        have hS:bV ⟨M,⟨0,v,#[]⟩⟩ ρ s l (fun k=>M k∨(ρ b0).val.ownBlock=some k):=by
         refine ⟨fun k hk=>?_,fun b x k h1 h2 h3 hk=>?_⟩
         ·rcases hk with hk | hk
          ·exact .inl hk
          ·exact .inr ⟨b0,_,hbx,hsb,hk⟩
         ·rcases hk with hk | hk
          ·exact hs.old k hk (hs.lo b x k h1 h2).1
          ·have:=hs.inj b b0 x _ _ h1 hbx h2 hk;subst this;rcases h3 with h3 | h3
           ·rw [hsb] at h3;cases h3
           ·have:l.contains b=true:=by simpa using h3
            rw [hl] at this;cases this
        obtain ⟨us,hr,hrepr⟩:=oU hs hq hS;have hbel:=hs.below;refine hR a' w' us (ρ b0).val xs3 ⟨hbel.os,hbel.tape,hbel.output,hbel.size,fun k hk hne=>hbel.block k hk fun ho=>hne ?_⟩ hs.sz hs.df hr hval hown3 (fun k hk=>?_) (by rw [←hrs];exact hrepr) (hrep3.mono hS.iY)
        ·exact (show v.ownBlock=some k from ho).symm
        ·exact (hs.lo b0 _ k hbx hk).1
       ·exact hv2.elim
      ·exact hv2.elim
     ·exact hv2.elim
    ·exact hv2.elim
def Lb (P:Program) (T n:Nat) (res:List ResultVar) (e:Ex) (s:St):Tr:=match e with
 | .normal=>match (Ar P s res).run s with
   | some (vs,l)=>Kf s T n vs l
   | none=>.fail 1008
 | _=>.fail 1023
def TT (P:Program) (N:Nat) (hints:Nat→Option Hint) (c:Code) (ins:List (Nat×Arg)) (t0 T n:Nat) (res:List ResultVar):Tr:=
 exec P N hints c 0 0 1 (ins.length+1) (Qf ins t0 (.w (.one (.rp 0 n (.k (.int .i64 0)) 0))) (.part T n ins.length)) [] fun e nb ni s _=>Lb P T n res e s
theorem VQ {c c':Code} {ins:List (Nat×Arg)} {xs:List In} {N t0 T n:Nat} {hints:Nat→Option Hint} {res:List ResultVar} {cs cs':List aI} {rs:List aG} (hm:P.follows .mixedOrders=true) (hin:aX In.Is (ins.map (·.2)) xs)
  (h:vc P (fun o=>o = .retr rs [cs']) (TT P N hints c' ins t0 T n res) (xs.map In.env ++ [.rows [cs]]) []) (hc:c'=c) {M:Nat→Prop} {w:World} {a:Act} {Q:Exit→Act→World→Prop} {g:Nat} {cur:Array Value}
  (hM:dK M w) (hMg:M g) (hsz:a.tmps.size=N) (hdf:a.defers = []) (hcn:cs.length=n)
  (hv:cG M w (xs.map In.ty) (ins.map fun p=>a.tmps.getD p.1 Go.undef)) (ht0:a.tmps.getD t0 Go.undef = .pointer (some ⟨g,0,none⟩)) (hg:w.heap[g]? = some (.cells cur T (0,0))) (hrep:aW M w cs cur.toList)
  (hR:∀ a' w' us cur',w.grownBy w' (some g)→a'.tmps.size=N→a'.defers = []→(res.mapM (mB a'.tmps)).run P w' = .ok us w'→w'.heap[g]? = some (.cells cur' T (0,0))→cG M w' rs us→aW M w' cs' cur'.toList→Q .normal a' w'):c.wp P Q a w:=by
 subst hc;have hil:xs.length=ins.length:=by have:=hin.length;simpa using this.symm
 have hcl:cur.size=n:=by have:=hrep.length;simp at this;omega
 obtain ⟨M1,hM1⟩:∃ M1:Nat→Prop,M1=fun k=>M k∧k≠g:=⟨_,rfl⟩
 obtain ⟨gh,hgh⟩:∃ gh:Gh,gh=⟨0, .slice (some ⟨g,0,none⟩) 1 1,cur⟩:=⟨_,rfl⟩
 have hob:∀ k,gh.val.ownBlock=some k↔k=g:=fun k=>by subst hgh;simp [Value.ownBlock,eq_comm]
 have hMM:(fun k=>M1 k∨gh.val.ownBlock=some k)=M:=by
  funext k
  apply propext;rw [hob,hM1]
  constructor
  ·rintro (h | rfl)
   ·exact h.1
   ·exact hMg
  ·intro h;by_cases e:k=g
   ·exact .inr e
   ·exact .inl ⟨h,e⟩
 have hglt:g<w.heap.size:=(Array.getElem?_eq_some_iff.1 hg).1;have hval:gh.val = .slice (some ⟨g,0,none⟩) 1 1:=by rw [hgh]
 have hcur:gh.cur=cur:=by rw [hgh]
 refine jR (M0:=⟨M1,gh⟩) (w0:=w) hm c' 0 0 1 (ins.length+1) _ [] _ (xs.map In.env ++ [.rows [cs]]) [] h (by simp [hil]) (by intro x hx;cases hx) (Nat.le_refl _) (fun _=>gh) a w _
  (TK (gh:=gh) (t0:=t0) (sv:=.w (.one (.rp 0 n (.k (.int .i64 0)) 0))) (bx:=.part T n ins.length) (y:=.rows [cs]) hin (by rw [hMM];exact hM) (fun k hk e=>by rw [hM1] at hk;exact hk.2 ((hob k).1 e)) hsz hdf (by rw [hMM];exact hv) rfl ?_ ?_ (fun k hk=>by rw [(hob k).1 hk];exact hglt)) ?_ vB.noR ?_
 ·exact ⟨by simp [Qf,St.b,look],g,0,1,1, .i64,0,hval,rfl,by omega,by rw [ht0];simp⟩
 ·rw [hMM];refine ⟨[cs],cur.toList,?_,⟨by simp [hcl], .inr ⟨g,0,1,cur,hval,hg,Nat.le_refl _,by simp [maxLen],by simp [hcl],?_⟩⟩,by intro t ht;rw [List.mem_singleton.1 ht];exact hcn,by simpa using hrep,by rw [hval];rfl,?_⟩
  ·rw [List.getElem?_append_right (by simp [hil]),List.length_map,hil,Nat.sub_self];rfl
  ·rw [show ([cs]:List (List aI)).length*n=cur.toList.length by simp [hcl],List.drop_zero]
   first | exact (List.take_of_length_le (by simp)).symm | exact List.take_of_length_le (by simp)
  ·intro g2 off2 len2 cap2 hv cur2 hg2;rw [hval] at hv;simp only [Value.slice.injEq,Option.some.injEq,Addr.mk.injEq,and_true] at hv;obtain ⟨⟨rfl,rfl⟩,rfl,rfl⟩:=hv;rw [hg] at hg2;simp only [Option.some.injEq,Obj.cells.injEq,and_true] at hg2;subst hg2;rw [hcur];exact ⟨rfl,fun _ _=>rfl⟩
 ·intro c v a w' hp;cases hp
 ·intro ex nb s dec m bk' ρ a' w' _ _ hv2 _ hs;replace hv2:vc P (fun o=>o = .retr rs [cs']) (Lb P T n res ex s) (xs.map In.env ++ [.rows [cs]]++m) bk':=hv2;cases ex with
  | exit id=>exact hv2.elim
  | ret=>exact hv2.elim
  | normal=>
    unfold Lb at hv2;simp only at hv2;split at hv2
    ·rename_i vs' l hq;unfold Kf at hv2;split at hv2
     ·rename_i E' sz' cid hb0;split at hv2
      ·rename_i hc;obtain ⟨rfl,rfl,hs0,hl0⟩:=hc;obtain ⟨ts2,hcid,hpo⟩:=hv2;have hpo:Out.retr _ ts2=Out.retr rs [cs']:=hpo;simp only [Out.retr.injEq] at hpo;obtain ⟨hrs,rfl⟩:=hpo;have hgh0:=hs.pt 0 E' sz' cid hb0;have hgh0:ρ 0=gh:=hgh0;have hown0:own ρ 0 (.part E' sz' cid)=some g:=by simp only [own,hgh0];exact (hob g).2 rfl
       have hS:bV ⟨M1,gh⟩ ρ s l M:=by
        refine ⟨fun k hk=>?_,fun b x k h1 h2 h3 hk=>?_⟩
        ·by_cases hkg:k=g
         ·subst hkg;exact .inr ⟨0,_,hb0,hs0,hown0⟩
         ·exact .inl (by rw [hM1];exact ⟨hk,hkg⟩)
        ·by_cases hkg:k=g
         ·subst hkg;have:=hs.inj b 0 x _ k h1 hb0 h2 hown0;subst this;rcases h3 with h3 | h3
          ·rw [hs0] at h3;cases h3
          ·have:l.contains 0=true:=by simpa using h3
           rw [hl0] at this;cases this
         ·exact hs.old k (by rw [hM1];exact ⟨hk,hkg⟩) (hs.lo b x k h1 h2).1
       obtain ⟨us,hr,hrepr⟩:=oU hs hq hS;obtain ⟨ts3,xs3,hcid3,⟨hxl,hown⟩,hlen3,hrep3,_,hfr⟩:=hs.bx 0 _ hb0;rw [hcid] at hcid3;simp only [Option.some.injEq,aG.rows.injEq] at hcid3;subst hcid3;rw [hgh0] at hown hfr;rcases hown with ⟨_,c,hv⟩ | ⟨g2,off2,cap2,cur2,hv,hg2,hnc,hcm,hfit2,htake⟩
       ·rw [hval] at hv;simp at hv
       ·rw [hval] at hv;simp only [Value.slice.injEq,Option.some.injEq,Addr.mk.injEq,and_true] at hv;obtain ⟨⟨rfl,rfl⟩,hll,rfl⟩:=hv;obtain ⟨hf1,hf2⟩:=hfr g 0 1 1 hval cur2 hg2;rw [hcur] at hf1 hf2;have hbel:=hs.below;refine hR a' w' us cur2 ⟨hbel.os,hbel.tape,hbel.output,hbel.size,fun k hk hne=>hbel.block k hk fun ho=>hne (by rw [(hob k).1 ho])⟩ hs.sz hs.df hr hg2 (by rw [←hrs];exact hrepr) ?_;have h3:=hrep3.mono hS.iY;rw [←htake] at h3;have hc2:cur2.toList.length=sz':=by simp [hf1,hcl]
        simpa [List.take_of_length_le,hc2] using h3
      ·exact hv2.elim
     ·exact hv2.elim
    ·exact hv2.elim
end
end Go.Sy
