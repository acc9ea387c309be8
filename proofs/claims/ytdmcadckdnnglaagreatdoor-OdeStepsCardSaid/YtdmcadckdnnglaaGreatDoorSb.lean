/- New boxes, and stores into boxes. Each operation: sound (2).
-/
import Derived.Test.YtdmcadckdnnglaaGreatDoorSa
import Derived.Laws.MakeOwn
set_option linter.unusedVariables false
set_option linter.unusedSimpArgs false
namespace Go.Sy
open Go.RowKit (Below)
section
variable {P:Program} {M0:dK} {w0 w w':World} {N:Nat} {s:St} {τ:Env} {ρ ρ':Nat→Gh} {a:Act}
def uQ (s:St) (ρ:Nat→Gh) (kill:List (Nat×Bx)) (k:Nat):Prop:=∃ b xb,kill = [(b, .dead)]∧s.b b=some xb∧s.s b=false∧own ρ b xb=some k
theorem Sat.KG (h:Sat M0 w0 N s τ ρ a w) {o:Oper} {sv:SV} {v:Value} {nb:Nat} {x:Bx} {kill:List (Nat×Bx)} {sl:List Nat} (hd:cH N o=true)
  (hnb:s.b nb=none) (hxp:∀ E sz cid,x ≠ .part E sz cid) (hkill:kill = []∨∃ b xb,kill = [(b, .dead)]∧s.b b=some xb∧s.s b=false)
  (hρ:∀ b,b≠nb→ρ' b=ρ b)
  (hbel:Kept M0 w0 w') (hsz:w.heap.size≤w'.heap.size)
  (hheap:∀ k,k<w.heap.size→¬ uQ s ρ kill k→w'.heap[k]? = w.heap[k]?)
  (hg:∀ g,own ρ' nb x=some g→M0.ours w0 g∧g<w'.heap.size∧(w.heap.size≤g∨uQ s ρ kill g))
  (hv:bZ (Ms M0 ρ s) w (Ms M0 ρ' (s.app ⟨put o sv,(nb,x)::kill,sl⟩)) w'→fQ (kV (s.app ⟨put o sv,(nb,x)::kill,sl⟩)) τ ρ' (Ms M0 ρ' (s.app ⟨put o sv,(nb,x)::kill,sl⟩)) w' sv v)
  (hrep:bZ (Ms M0 ρ s) w (Ms M0 ρ' (s.app ⟨put o sv,(nb,x)::kill,sl⟩)) w'→lY 0 (kV (s.app ⟨put o sv,(nb,x)::kill,sl⟩)) τ ρ' (Ms M0 ρ' (s.app ⟨put o sv,(nb,x)::kill,sl⟩)) w' nb x) :
  Sat M0 w0 N (s.app ⟨put o sv,(nb,x)::kill,sl⟩) τ ρ' (a.put o.dst v) w':=by
 have hlk:∀ b y,look ((nb,x)::kill) b=some y→(b=nb∧y=x)∨(b≠nb∧y = .dead∧kill = [(b, .dead)]):=by
  intro b y hl;simp only [look] at hl;by_cases e:nb=b
  ·simp only [e,if_true,Option.some.injEq] at hl;exact .inl ⟨e.symm,hl.symm⟩
  ·simp only [e,if_false] at hl;rcases hkill with rfl | ⟨b1,xb,rfl,h1,h2⟩
   ·cases hl
   ·simp only [look] at hl;by_cases e1:b1=b
    ·subst e1;simp at hl;exact .inr ⟨fun h=>e h.symm,hl.symm,rfl⟩
    ·simp [e1] at hl
 have hln:look ((nb,x)::kill) nb=some x:=by simp [look]
 have hex:∀ b,(s.b b).isSome→ρ' b=ρ b:=fun b hb=>hρ b (by rintro rfl;rw [hnb] at hb;cases hb)
 have hMs:∀ k,Ms M0 ρ' (s.app ⟨put o sv,(nb,x)::kill,sl⟩) k→Ms M0 ρ s k∨own ρ' nb x=some k:=by
  rintro k (hk | ⟨b,y,h1,h2,h3⟩)
  ·exact .inl (.inl hk)
  ·rw [St.fH] at h1;rw [St.qZ] at h2;simp only [Bool.or_eq_false_iff] at h2;cases hl:look ((nb,x)::kill) b with
   | some z=>
     simp only [hl,Option.some.injEq] at h1;subst h1;rcases hlk b z hl with ⟨rfl,rfl⟩ | ⟨_,rfl,_⟩
     ·exact .inr h3
     ·cases h3
   | none=>
     simp only [hl] at h1;rw [lG (hex b (by simp [h1]))] at h3;exact .inl (.inr ⟨b,y,h1,h2.2,h3⟩)
 have hkM:∀ k,uQ s ρ kill k→Ms M0 ρ s k:=fun k ⟨b,xb,_,h1,h2,h3⟩=>.inr ⟨b,xb,h1,h2,h3⟩
 have hkeep:bZ (Ms M0 ρ s) w (Ms M0 ρ' (s.app ⟨put o sv,(nb,x)::kill,sl⟩)) w':=by
  intro k ob hk hob _;have hlt:k<w.heap.size:=(Array.getElem?_eq_some_iff.1 hob).1;refine ⟨fun hm=>?_,by rw [hheap k hlt fun hkl=>hk (hkM k hkl)];exact hob⟩;rcases hMs k hm with hm | hm
  ·exact hk hm
  ·rcases (hg k hm).2.2 with h1 | h1
   ·omega
   ·exact hk (hkM k h1)
 refine h.go hd hbel hex hkeep (hv hkeep) ?_ ?_ ?_ ?_ (fun b E sz cid hl=>by
  rcases hlk b _ hl with ⟨_,e⟩ | ⟨_,e,_⟩
  ·exact absurd e.symm (hxp E sz cid)
  ·cases e) hsz
 ·intro b y hl hb k hk;refine hheap k (h.lo b y k hb hk).2 ?_;rintro ⟨b1,xb,rfl,h1,h2,h3⟩;have:=h.inj b b1 y xb k hb h1 hk h3;subst this;have hne:nb≠b:=by rintro rfl;rw [hnb] at hb;cases hb
  simp [look,hne] at hl
 ·intro b y hl;rcases hlk b y hl with ⟨rfl,rfl⟩ | ⟨_,rfl,_⟩
  ·exact hrep hkeep
  ·trivial
 ·intro b y k hl hk;rcases hlk b y hl with ⟨rfl,rfl⟩ | ⟨_,rfl,_⟩
  ·exact ⟨(hg k hk).1,(hg k hk).2.1⟩
  ·cases hk
 ·intro b y k hl hk b' x' hb' hk';rcases hlk b y hl with ⟨rfl,rfl⟩ | ⟨_,rfl,_⟩
  ·rw [St.fH] at hb';cases hl':look ((b,y)::kill) b' with
   | some z=>
     simp only [hl',Option.some.injEq] at hb';subst hb';rcases hlk b' z hl' with ⟨rfl,rfl⟩ | ⟨_,rfl,_⟩
     ·rfl
     ·cases hk'
   | none=>
     simp only [hl'] at hb';rw [lG (hex b' (by simp [hb']))] at hk';have hlt:=(h.lo b' x' k hb' hk').2;rcases (hg k hk).2.2 with h1 | ⟨b1,xb,rfl,h1,h2,h3⟩
     ·omega
     ·have:=h.inj b' b1 x' xb k hb' h1 hk' h3;subst this;have hne:b≠b':=by rintro rfl;rw [hnb] at hb';cases hb'
      simp [look,hne] at hl'
  ·cases hk
theorem Af (h:Sat M0 w0 N s τ ρ a w) (ob:Obj):Kept M0 w0 (w.alloc ob):=h.below.alloc ob
theorem mK {nb:Nat} {u:Unit} (h:(rP nb).run s=some u):s.b nb=none∧s.s nb=false:=by
 obtain ⟨x,h1,h2⟩:=Q.bind_some h;simp only [gD,Option.some.injEq] at h1;obtain ⟨_,h3,h4⟩:=Q.bind_some h2;obtain ⟨y,h5,h6⟩:=Q.bind_some h4;simp only [rN,Option.some.injEq] at h5;have:=cX h3;rw [←h1] at this;exact ⟨by simpa using this,by rw [h5];exact cX h6⟩
theorem Sat.OZ (h:Sat M0 w0 N s τ ρ a w) {o:Oper} {nb T:Nat} {cells:List SC} {vs:List Value} (hd:cH N o=true) (hnb:s.b nb=none) (hs:s.s nb=false)
  (hc:aY (cT (kV s) τ ρ (Ms M0 ρ s) w) cells vs) :
  ∃ ρ',Sat M0 w0 N (s.app ⟨put o (.w (.one (.p nb 0))),[(nb, .var T cells)],[]⟩) τ ρ' (a.put o.dst (.pointer (some ⟨w.heap.size,0,none⟩))) (w.alloc (.cells vs.toArray T)):=by
 refine ⟨fun b=>if b=nb then ⟨w.heap.size,Go.undef,#[]⟩ else ρ b,?_⟩;have hne:∀ b,b≠nb→(fun b=>if b=nb then (⟨w.heap.size,Go.undef,#[]⟩:Gh) else ρ b) b=ρ b:=fun b hb=>by simp [hb]
 refine h.KG (kill:=[]) hd hnb (fun _ _ _ h=>by cases h) (.inl rfl) hne (Af h _) (by simp) (fun k hk _=>heap_alloc_old w _ k hk) ?_ ?_ ?_
 ·intro g hg;simp only [own,if_true,Option.some.injEq] at hg;subst hg;exact ⟨.inl h.below.size,by simp, .inl (Nat.le_refl _)⟩
 ·intro _;refine ⟨?_,by simp⟩;rw [kV,St.fH];simp [look]
 ·intro hkeep;refine ⟨vs,?_,hc.imp fun c v=>cT.mono (fun b hb=>⟨?_,hne b (by rintro rfl;simp [kV,hnb] at hb)⟩) hkeep⟩
  ·show (w.alloc _).heap[(if nb=nb then (⟨w.heap.size,Go.undef,#[]⟩:Gh) else ρ nb).blk]? = _;rw [if_pos rfl];exact heap_alloc_new w _
  ·rw [kV,St.fH];cases look [(nb,Bx.var T cells)] b with
   | some _=>rfl
   | none=>simpa [kV] using hb
theorem Sat.store (h:Sat M0 w0 N s τ ρ a w) {o:Oper} {b T:Nat} {xc cells:List SC} {vs:List Value} (hd:cH N o=true) (hb:s.b b=some (.var T xc)) (hs:s.s b=false)
  (hc:aY (cT (kV s) τ ρ (Ms M0 ρ s) w) cells vs) :
  Sat M0 w0 N (s.app ⟨put o .undef,[(b, .var T cells)],[]⟩) τ ρ (a.put o.dst Go.undef) (w.setRow (ρ b).blk vs.toArray):=by
 obtain ⟨old,hh,_⟩:=h.bx b _ hb;have hlo:=h.lo b _ _ hb rfl;have hbM:Ms M0 ρ s (ρ b).blk:=.inr ⟨b,_,hb,hs,rfl⟩
 have hMs:∀ k,Ms M0 ρ (s.app ⟨put o .undef,[(b, .var T cells)],[]⟩) k→Ms M0 ρ s k:=by
  rintro k (hk | ⟨b',y,h1,h2,h3⟩)
  ·exact .inl hk
  ·rw [St.fH] at h1;rw [St.qZ] at h2;simp only [look] at h1;by_cases e:b=b'
   ·subst e;simp only [if_true,Option.some.injEq] at h1;subst h1;cases h3;exact hbM
   ·simp only [e,if_false] at h1;exact .inr ⟨b',y,h1,by simpa using h2,h3⟩
 have hkeep:bZ (Ms M0 ρ s) w (Ms M0 ρ (s.app ⟨put o .undef,[(b, .var T cells)],[]⟩)) (w.setRow (ρ b).blk vs.toArray):=by
  intro k ob hk hob _;refine ⟨fun hm=>hk (hMs k hm),?_⟩;rw [setRow_other w _ k _ (by rintro rfl;exact hk hbM)];exact hob
 have hex:∀ b',kV s b'→kV (s.app ⟨put o .undef,[(b, .var T cells)],[]⟩) b':=fun b' hb'=>by
  rw [kV,St.fH];cases look [(b,Bx.var T cells)] b'<;>simp
  simpa [kV] using hb'
 refine h.go hd (h.below.setRow hlo.1 _) (fun _ _=>rfl) hkeep rfl ?_ ?_ ?_ ?_ (fun b' E sz cid hl=>by
  simp only [look] at hl;by_cases e:b=b'
  ·subst e;simp at hl
  ·simp [e] at hl) (by simp)
 ·intro b' y hl hb' k hk;refine setRow_other w _ k _ ?_;rintro rfl;have:=h.inj b' b y _ _ hb' hb hk rfl;subst this;simp [look] at hl
 ·intro b' y hl;simp only [look] at hl;by_cases e:b=b'
  ·subst e;simp only [if_true,Option.some.injEq] at hl;subst hl;exact ⟨vs,setRow_heap w _ _ _ _ _ hh,hc.imp fun c v=>cT.mono (fun b' hb'=>⟨hex b' hb',rfl⟩) hkeep⟩
  ·simp [e] at hl
 ·intro b' y k hl hk;simp only [look] at hl;by_cases e:b=b'
  ·subst e;simp only [if_true,Option.some.injEq] at hl;subst hl;cases hk;exact ⟨hlo.1,by simpa using hlo.2⟩
  ·simp [e] at hl
 ·intro b' y k hl hk b'' x' hb'' hk';simp only [look] at hl;by_cases e:b=b'
  ·subst e;simp only [if_true,Option.some.injEq] at hl;subst hl;cases hk;rw [St.fH] at hb'';simp only [look] at hb'';by_cases e2:b=b''
   ·exact e2
   ·simp only [e2,if_false] at hb'';exact h.inj b b'' _ _ _ hb hb'' rfl hk'
  ·simp [e] at hl
theorem Sat.EW (h:Sat M0 w0 N s τ ρ a w) {o:Oper} {b E sz cid ni:Nat} {pt:Bool} {sl:List Nat} {sv:SV} {v:Value} {ts:List (List aH)} {g o0 len cap:Nat} {cur cur':Array Value} (hd:cH N o=true) (hb:s.b b=some (jC pt E sz cid)) (hs:s.s b=false) (hsl:b ∉ sl)
  (hval:(ρ b).val = .slice (some ⟨g,o0,none⟩) len cap) (hg0:w.heap[g]? = some (.cells cur E (0,0))) (hout:∀ j,(j<o0∨o0+len*sz≤j)→cur'[j]? = cur[j]?) (hg:w'.heap[g]? = some (.cells cur' E (0,0))) (hgr:w.grownBy w' (some g)) (hsize:cur'.size=cur.size)
  (hfit:if pt then o0+len*sz≤cur.size else o0=0∧cur.size=cap*sz) (hcap:cap≤maxLen) (hlen:len≤cap) (hτ:τ[ni]? = some (.rows ts)) (htl:ts.length=len) (hts:∀ t∈ts,t.length=sz)
  (hv:bX M0 ρ s sl (Ms M0 ρ (s.app ⟨put o sv,[(b,jC pt E sz ni)],sl⟩))→fQ (kV (s.app ⟨put o sv,[(b,jC pt E sz ni)],sl⟩)) τ ρ (Ms M0 ρ (s.app ⟨put o sv,[(b,jC pt E sz ni)],sl⟩)) w' sv v)
  (hrep:bX M0 ρ s sl (Ms M0 ρ (s.app ⟨put o sv,[(b,jC pt E sz ni)],sl⟩))→Ms M0 ρ (s.app ⟨put o sv,[(b,jC pt E sz ni)],sl⟩) g→aZ (Ms M0 ρ (s.app ⟨put o sv,[(b,jC pt E sz ni)],sl⟩)) w' ts.flatten ((cur'.toList.drop o0).take (len*sz))) :
  Sat M0 w0 N (s.app ⟨put o sv,[(b,jC pt E sz ni)],sl⟩) τ ρ (a.put o.dst v) w':=by
 have hown:∀ pt x y z,own ρ b (jC pt x y z)=some g:=fun pt x y z=>by rw [IM,hval];rfl
 have hlo:=h.lo b _ _ hb (hown ..);have hbM:Ms M0 ρ s g:=.inr ⟨b,_,hb,hs,hown ..⟩
 have hMs:∀ k,Ms M0 ρ (s.app ⟨put o sv,[(b,jC pt E sz ni)],sl⟩) k→Ms M0 ρ s k:=by
  rintro k (hk | ⟨b',y,h1,h2,h3⟩)
  ·exact .inl hk
  ·rw [St.fH] at h1;rw [St.qZ] at h2;simp only [Bool.or_eq_false_iff] at h2;simp only [look] at h1;by_cases e:b=b'
   ·subst e;simp only [if_true,Option.some.injEq] at h1;subst h1;rw [hown] at h3;cases h3;exact hbM
   ·simp only [e,if_false] at h1;exact .inr ⟨b',y,h1,h2.2,h3⟩
 have hS:bX M0 ρ s sl (Ms M0 ρ (s.app ⟨put o sv,[(b,jC pt E sz ni)],sl⟩)):=by
  refine ⟨hMs,fun b' x k h1 h2 h3 hk=>?_⟩;rcases hk with hk | ⟨b'',y,h4,h5,h6⟩
  ·exact h.old k hk (h.lo b' x k h1 h2).1
  ·rw [St.fH] at h4;rw [St.qZ] at h5;simp only [Bool.or_eq_false_iff] at h5;simp only [look] at h4;by_cases e:b=b''
   ·subst e;simp only [if_true,Option.some.injEq] at h4;subst h4;rw [hown] at h6;have:=h.inj b' b x _ k h1 hb h2 (by rw [hown];exact h6);subst this;rcases h3 with h3 | h3
    ·rw [hs] at h3;cases h3
    ·exact hsl h3
   ·simp only [e,if_false] at h4;have:=h.inj b' b'' x y k h1 h4 h2 h6;subst this;rcases h3 with h3 | h3
    ·rw [h3] at h5;simp at h5
    ·have:sl.contains b'=true:=by simpa using h3
     rw [this] at h5;simp at h5
 have hgM:Ms M0 ρ (s.app ⟨put o sv,[(b,jC pt E sz ni)],sl⟩) g:=by
  refine .inr ⟨b,jC pt E sz ni,?_,?_,hown ..⟩
  ·rw [St.fH];simp [look]
  ·rw [St.qZ];simp [hs,hsl]
 have hkeep:bZ (Ms M0 ρ s) w (Ms M0 ρ (s.app ⟨put o sv,[(b,jC pt E sz ni)],sl⟩)) w':=by
  intro k ob hk hob _;refine ⟨fun hm=>hk (hMs k hm),?_⟩;rw [hgr.block k (Array.getElem?_eq_some_iff.1 hob).1 (by rintro ⟨rfl⟩;exact hk hbM)];exact hob
 refine h.go hd (h.below.grown hgr fun k hk=>by cases hk;exact hlo.1) (fun _ _=>rfl) hkeep (hv hS) ?_ ?_ ?_ ?_ (fun b' E' sz' cid' hl=>by
  simp only [look] at hl;by_cases e:b=b'
  ·subst e;simp only [if_true,Option.some.injEq] at hl;cases pt with
   | true=>exact h.pt b E sz cid hb
   | false=>cases hl
  ·simp [e] at hl) hgr.size
 ·intro b' y hl hb' k hk;refine hgr.block k (h.lo b' y k hb' hk).2 ?_;rintro ⟨rfl⟩;have:=h.inj b' b y _ _ hb' hb hk (hown ..);subst this;simp [look] at hl
 ·intro b' y hl;simp only [look] at hl;by_cases e:b=b'
  ·subst e;simp only [if_true,Option.some.injEq] at hl;subst hl;have hr:=hrep hS hgM;cases pt with
   | false=>
     simp only [Bool.false_eq_true,if_false] at hfit;obtain ⟨rfl,hcur⟩:=hfit;rw [List.drop_zero] at hr;refine ⟨ts,cur'.toList.take (ts.length*sz),hτ,⟨?_, .inr ⟨g,cap,cur',?_,Nat.zero_le _,hg,?_,hcap,?_,rfl⟩⟩,hts,?_⟩
     ·have e1:cur'.toList.length=cap*sz:=by rw [Array.length_toList,hsize,hcur]
      rw [List.length_take,e1,htl];exact Nat.min_eq_left (Nat.mul_le_mul_right _ hlen)
     ·rw [hval,htl]
     ·rw [htl];exact hlen
     ·rw [hsize];exact hcur
     ·rw [htl];exact hr
   | true=>
     simp only [if_true] at hfit;refine ⟨ts,(cur'.toList.drop o0).take (ts.length*sz),hτ,⟨?_, .inr ⟨g,o0,cap,cur',?_,hg,?_,hcap,?_,rfl⟩⟩,hts,?_,by rw [hval];rfl,?_⟩
     rotate_left 5
     ·intro g2 off2 len2 cap2 hv2 cur2 hg2;rw [hval] at hv2;simp only [Value.slice.injEq,Option.some.injEq,Addr.mk.injEq,and_true] at hv2;obtain ⟨⟨rfl,rfl⟩,rfl,rfl⟩:=hv2;rw [hg] at hg2;simp only [Option.some.injEq,Obj.cells.injEq,and_true] at hg2;subst hg2;obtain ⟨_,_,_,_,_,_,_,hfr⟩:=h.bx b _ hb;have:=hfr _ _ _ _ hval cur hg0;exact ⟨hsize.trans this.1,fun j hj=>(hout j hj).trans (this.2 j hj)⟩
     ·rw [List.length_take,List.length_drop,Array.length_toList (xs:=cur'),hsize,htl];exact Nat.min_eq_left (by omega)
     ·rw [hval,htl]
     ·rw [htl];exact hlen
     ·rw [htl,hsize];exact hfit
     ·rw [htl];exact hr
  ·simp [e] at hl
 ·intro b' y k hl hk;simp only [look] at hl;by_cases e:b=b'
  ·subst e;simp only [if_true,Option.some.injEq] at hl;subst hl;rw [hown] at hk;cases hk;exact ⟨hlo.1,Nat.lt_of_lt_of_le hlo.2 hgr.size⟩
  ·simp [e] at hl
 ·intro b' y k hl hk b'' x' hb'' hk';simp only [look] at hl;by_cases e:b=b'
  ·subst e;simp only [if_true,Option.some.injEq] at hl;subst hl;rw [hown] at hk;cases hk;rw [St.fH] at hb'';simp only [look] at hb'';by_cases e2:b=b''
   ·exact e2
   ·simp only [e2,if_false] at hb'';exact h.inj b b'' _ _ _ hb hb'' (hown ..) hk'
  ·simp [e] at hl
theorem Ha {pt:Bool} {b E sz cid:Nat} {base:Nat} {ex:Nat→Prop} {M:Nat→Prop} (h:lY base ex τ ρ M w b (jC pt E sz cid)) {g o0 len cap:Nat} (hval:(ρ b).val = .slice (some ⟨g,o0,none⟩) len cap) :
  ∃ ts cur,τ[cid]? = some (.rows ts)∧ts.length=len∧w.heap[g]? = some (.cells cur E (0,0))∧(if pt then o0+len*sz≤cur.size else o0=0∧cur.size=cap*sz)∧o0+len*sz≤cur.size∧cap≤maxLen∧len≤cap∧(∀ t∈ts,t.length=sz)∧aZ M w ts.flatten ((cur.toList.drop o0).take (len*sz)):=by
 cases pt with
 | false=>
   obtain ⟨ts,xs,h1,⟨hx,hown⟩,h3,h4⟩:=h;rcases hown with ⟨hv,_⟩ | ⟨g',cap',cur,hv,_,hg,hnc,hcm,hcs,htake⟩
   ·rw [hval] at hv;simp at hv
   ·rw [hval] at hv;simp only [Value.slice.injEq,Option.some.injEq,Addr.mk.injEq,and_true] at hv;obtain ⟨⟨rfl,rfl⟩,rfl,rfl⟩:=hv;refine ⟨ts,cur,h1,rfl,hg,⟨rfl,hcs⟩,by rw [Nat.zero_add,hcs];exact Nat.mul_le_mul_right _ hnc,hcm,hnc,h3,?_⟩;rw [List.drop_zero,htake];exact h4
 | true=>
   obtain ⟨ts,xs,h1,⟨hx,hown⟩,h3,h4,_⟩:=h;rcases hown with ⟨_,c,hv⟩ | ⟨g',off,cap',cur,hv,hg,hnc,hcm,hfit,htake⟩
   ·rw [hval] at hv;simp at hv
   ·rw [hval] at hv;simp only [Value.slice.injEq,Option.some.injEq,Addr.mk.injEq,and_true] at hv;obtain ⟨⟨rfl,rfl⟩,rfl,rfl⟩:=hv;refine ⟨ts,cur,h1,rfl,hg,hfit,hfit,hcm,hnc,h3,?_⟩;rw [htake];exact h4
end
open Go.RowKit (Below)
section
variable {P:Program} {M0:dK} {w0 w w':World} {N:Nat} {s:St} {τ:Env} {ρ ρ':Nat→Gh} {a:Act} {o:Oper} {e:fM} {nd:cY} {nb ni:Nat} {Qp:Exit→Act→World→Prop}
abbrev jA (M0:dK) (w0:World) (N:Nat) (s:St) (e:fM) (τ:Env):Act→World→Prop:=fun a' w'=>∃ ρ',Sat M0 w0 N (s.app e) τ ρ' a' w'
theorem eB (h:Sat M0 w0 N s τ ρ a w) (hd:cH N o=true) {sv:SV} {v:Value} (hr:(execOp a.eval o).run P w = .ok (.value v) w) (hv:fQ (kV s) τ ρ (Ms M0 ρ s) w sv v) :
  o.wp P a w (jA M0 w0 N s (jR o sv).1 τ) Qp:=fC hr ⟨ρ,h.pure hd hv⟩
theorem Md (h:Sat M0 w0 N s τ ρ a w) (hd:cH N o=true) {x:Operand} (ho:o.op = .move x∨o.op = .assign x)
  (hq:(do let v ←Ed x;return jR o v:Q (fM×cY)).run s=some (e,nd)):o.wp P a w (jA M0 w0 N s e τ) Qp:=by
 obtain ⟨v,h1,h2⟩:=Q.bind_some hq;simp only [Q.run_pure,Option.some.injEq] at h2;obtain ⟨rfl,rfl⟩:=Prod.mk.inj h2;refine eB h hd (v:=a.eval x) ?_ (yK h h1);rcases ho with ho | ho<;>simp [execOp,ho]
theorem gC {T:Nat} {z:List Value} (h:rH P T=some z):∃ i zv,P.info? T=some i∧i.zero=some zv∧zv.cells=z.toArray∧z.all (·.oneCell')=true∧zv.cells.size=i.size:=by
 unfold rH at h;split at h
 ·rename_i i hi;split at h
  ·rename_i zv hz;split at h
   ·rename_i hc;simp only [Bool.and_eq_true,beq_iff_eq] at hc;simp only [Option.some.injEq] at h;subst h;exact ⟨i,zv,hi,hz,by simp,hc.1,hc.2⟩
   ·cases h
  ·cases h
 ·cases h
theorem Pp (h:Sat M0 w0 N s τ ρ a w) (hd:cH N o=true) {T:Nat} (ho:o.op = .alloc T)
  (hq:(do let z ←Q.of (rH P T);rP nb;return (⟨put o (.w (.one (.p nb 0))),[(nb, .var T (z.map fun v=>.c (.k v)))],[]⟩, .none):Q (fM×cY)).run s=some (e,nd)):o.wp P a w (jA M0 w0 N s e τ) Qp:=by
 obtain ⟨z,h1,h2⟩:=Q.bind_some hq;rw [dD] at h1;obtain ⟨_,h3,h4⟩:=Q.bind_some h2;simp only [Q.run_pure,Option.some.injEq] at h4;obtain ⟨rfl,rfl⟩:=Prod.mk.inj h4;obtain ⟨hb,hs⟩:=mK h3;obtain ⟨i,zv,hi,hz,hc,h1',_⟩:=gC h1
 have hr:(execOp a.eval o).run P w = .ok (.value (.pointer (some ⟨w.heap.size,0,none⟩))) (w.alloc (.cells z.toArray T)):=by
  simp [execOp,ho,Instr.alloc,zeroValue,typeInfo,hi,hz,newVar,newRow,hc]
 exact fC hr (h.OZ hd hb hs (aY.wC h1'))
theorem aw1 (h:Sat M0 w0 N s τ ρ a w) (hd:cH N o=true) {T:Nat} {x:Operand} (ho:o.op = .box T x)
  (hq:(do let v ←GV x;rP nb;return (⟨put o (.w (.one (.p nb 0))),[(nb, .var T v.cells)],[]⟩, .none):Q (fM×cY)).run s=some (e,nd)):o.wp P a w (jA M0 w0 N s e τ) Qp:=by
 obtain ⟨v,h1,h2⟩:=Q.bind_some hq;obtain ⟨_,h3,h4⟩:=Q.bind_some h2;simp only [Q.run_pure,Option.some.injEq] at h4;obtain ⟨rfl,rfl⟩:=Prod.mk.inj h4;obtain ⟨hb,hs⟩:=mK h3
 have hr:(execOp a.eval o).run P w = .ok (.value (.pointer (some ⟨w.heap.size,0,none⟩))) (w.alloc (.cells (a.eval x).cells.toList.toArray T)):=by
  simp [execOp,ho,Instr.box,newVar,newRow]
 exact fC hr (h.OZ hd hb hs (qV h h1).Dh)
theorem tM {l cs:List SC} {off n:Nat} (h:Oh l off n=some cs):off+n≤l.length∧cs=(l.drop off).take n:=by
 unfold Oh at h;split at h
 ·simp only [Option.some.injEq] at h;exact ⟨by assumption,h.symm⟩
 ·cases h
theorem wX {ex:Nat→Prop} {M:Nat→Prop} {ag:Bool} {cs:List SC} {sv:SV} {vs:List Value} {v:Value} (h:Cx ag cs=some sv) (hc:aY (cT ex τ ρ M w) cs vs) (hv:if ag then v = .agg vs.toArray else vs = [v]):fQ ex τ ρ M w sv v:=by
 unfold Cx at h;cases ag with
 | true=>
   simp only [if_true,Option.some.injEq] at h hv;subst h;exact ⟨vs,hv,hc⟩
 | false=>
   simp only [Bool.false_eq_true,if_false] at h hv;subst hv;split at h
   ·simp only [Option.some.injEq] at h;subst h;exact hc.1
   ·cases h
theorem zP {ag:Bool} {cs:List SC} {sv:SV} (h:Cx ag cs=some sv):ag=true∨cs.length=1:=by
 unfold Cx at h;cases ag with
 | true=>exact .inl rfl
 | false=>
   simp only [Bool.false_eq_true,if_false] at h;split at h
   ·exact .inr rfl
   ·cases h
theorem tH {T:Nat} {x:Operand} {ad:Addr} (ho:o.op = .load T x) (hx:a.eval x = .pointer (some ad)) {v:Value} {w':World} (hr:(loadVar T ad).run P w = .ok v w'):(execOp a.eval o).run P w = .ok (.value v) w':=by
 simp [execOp,ho,hx,Instr.loadAt,Instr.sureAddr,hr]
theorem XM (h:Sat M0 w0 N s τ ρ a w) (hd:cH N o=true) {T:Nat} {x:Operand} (ho:o.op = .load T x)
  (hq:(Jj P o ni T x).run s=some (e,nd)) (hn:gR P τ o.op o.type nd ni):o.wp P a w (jA M0 w0 N s e τ) Qp:=by
 obtain ⟨c,h1,h2⟩:=Q.bind_some hq;obtain ⟨⟨ag,n⟩,h3,h4⟩:=Q.bind_some h2;rw [dD] at h3;have hx:=dG h h1;cases c with
 | p b off=>
   obtain ⟨bx,h5,h6⟩:=Q.bind_some h4;simp only [gD,Option.some.injEq] at h5
   match bx,h5,h6 with
   | some (.var T' cells),h5,h6=>
     obtain ⟨cs,h7,h8⟩:=Q.bind_some h6;rw [dD] at h7;obtain ⟨sv,h9,h10⟩:=Q.bind_some h8;rw [dD] at h9;simp only [Q.run_pure,Option.some.injEq] at h10;obtain ⟨rfl,rfl⟩:=Prod.mk.inj h10;obtain ⟨hlen,rfl⟩:=tM h7;obtain ⟨vs,hh,hall⟩:=h.bx b _ h5;have hone:=zP h9;have hl:=hall.length;obtain ⟨v,hr,hv⟩:=fY (w:=w) h3 hh (off:=off) (by simp;omega) (hone.imp id fun h=>by simp at h;omega);exact eB h hd (tH ho hx.2 hr) (wX h9 ((hall.drop off).take n) (by simpa using hv))
   | none,_,h6=>simp at h6
   | some (.row ..),_,h6=>simp at h6
   | some .dead,_,h6=>simp at h6
 | ref off cells=>
   obtain ⟨_,h5,h6⟩:=Q.bind_some h4;have hn0:=cX h5;obtain ⟨cs,h7,h8⟩:=Q.bind_some h6;rw [dD] at h7;obtain ⟨sv,h9,h10⟩:=Q.bind_some h8;rw [dD] at h9;simp only [Q.run_pure,Option.some.injEq] at h10;obtain ⟨rfl,rfl⟩:=Prod.mk.inj h10;obtain ⟨hlen,rfl⟩:=tM h7;obtain ⟨b,o',cur,T',fz,he,hm,hh,hrep⟩:=hx;have hone:=zP h9;have hl:=hrep.length;simp only [List.length_map] at hlen;simp only [List.length_drop,List.length_map,List.length_take,Array.length_toList] at hl;have hcl:(((cells.map SC.c).drop off).take n).length=n:=by simp;omega
   obtain ⟨v,hr,hv⟩:=fY (w:=w) h3 hh (off:=o') (n:=n) (by omega) (hone.imp id fun h=>by rw [hcl] at h;exact h);refine eB h hd (tH ho he hr) (wX h9 (vs:=(cur.toList.drop o').take n) ?_ hv);have h2:=hrep.take n;rw [List.take_take,Nat.min_eq_left (by simp;omega),←List.map_drop,←List.map_take] at h2;rw [←List.map_drop,←List.map_take];refine aY.yG (by simp;omega) fun j y z hy hz=>?_;rw [List.getElem?_map] at hy;cases hyj:((cells.drop off).take n)[j]? with
   | none=>rw [hyj] at hy;cases hy
   | some y0=>
     rw [hyj] at hy;simp only [Option.map_some,Option.some.injEq] at hy;subst hy;obtain ⟨z',hz',hr'⟩:=h2.get j (c0 τ y0) (by rw [List.getElem?_map,hyj];rfl);rw [hz] at hz';cases hz';exact hr'
 | rp b sz i off=>
   obtain ⟨⟨pt,E,sz',cid⟩,h5,h6⟩:=Q.bind_some h4;have h5:=lJ h5;obtain ⟨_,h7,h8⟩:=Q.bind_some h6;obtain ⟨rfl,hoff⟩:=cX h7;simp only [Q.run_pure,Option.some.injEq] at h8;obtain ⟨rfl,rfl⟩:=Prod.mk.inj h8;obtain ⟨news,⟨ts,k,m,cells,hcid,hi,h0,hcell,hag,rfl⟩,_,hτ⟩:=hn;have hτ0:τ[ni]? = some (Mi ag ((cells.drop off).take n)):=by simpa using hτ 0 _ rfl
   obtain ⟨_,g,o0,len,cap,k',m',hval,hi',h0',hxv⟩:=hx
   have hm:m'=m:=by
    rw [hi] at hi';have:(aH.int k m).rep (fun _=>False) default (.int k' m'):=by rw [show aH.int k m=aH.exact (.int k m) from rfl] at *;rw [hi'];exact ⟨rfl,rfl⟩
    have:=this.1;simp at this;exact this.2
   subst hm;obtain ⟨ts',cur,hcid',hlen',hg,_,hsz,hcm,hnc,hlen,hrep⟩:=Ha (h.bx b _ h5) hval;rw [hcid] at hcid';simp only [Option.some.injEq,aF.rows.injEq] at hcid';subst hcid';subst hlen';have hlt:m'.toNat<ts.length:=(List.getElem?_eq_some_iff.1 hcell).1;have hel:=lO (off:=o0) hlen hrep m'.toNat cells hcell;have hfit:(m'.toNat+1)*sz'≤ts.length*sz':=Nat.mul_le_mul_right _ (by omega);rw [Nat.add_mul,Nat.one_mul] at hfit;obtain ⟨v,hr,hvv⟩:=fY (w:=w) h3 hg (off:=o0+m'.toNat*sz'+off) (n:=n) (by omega) hag
   have hr2:aZ (Ms M0 ρ s) w ((cells.drop off).take n) ((cur.toList.drop (o0+m'.toNat*sz'+off)).take n):=by
    have:=(hel.2.drop off).take n;rw [List.drop_take,List.drop_drop,List.take_take,Nat.min_eq_left (by omega)] at this;exact this
   have hlen2:=hr2.length
   have hvt:(Mi ag ((cells.drop off).take n)).rep (Ms M0 ρ s) w v:=by
    cases ag with
    | true=>simp only [if_true] at hvv;exact ⟨_,hvv,hr2⟩
    | false=>
      simp only [Bool.false_eq_true,if_false] at hvv;rw [hvv] at hr2
      match hz:(cells.drop off).take n,hr2 with
      | [c],hr2=>exact hr2.1
   refine fC (tH ho hxv hr) ⟨ρ,h.pure hd (sv:=.w (rG ni (if ag then some n else none))) (sG hτ0 ?_ hvt)⟩;cases ag with
   | true=>
     simp only [Mi,if_true,aF.shape,Option.some.injEq];rw [List.length_take,List.length_drop,hel.1];omega
   | false=>rfl
 | c _=>exact cC h hd h4 hn
 | rs _ _ _ _=>exact cC h hd h4 hn
 | gT _ _=>exact cC h hd h4 hn
 | r _=>exact cC h hd h4 hn
theorem vV {T:Nat} {x y:Operand} {ad:Addr} (ho:o.op = .store T x y) (hx:a.eval x = .pointer (some ad)) {w':World} (hr:(storeVar T ad (a.eval y)).run P w = .ok () w'):(execOp a.eval o).run P w = .ok .skip w':=by
 simp [execOp,ho,hx,Instr.storeAt,Instr.sureAddr,hr]
theorem aY.one {ex:Nat→Prop} {M:Nat→Prop} {cs:List SC} {vs:List Value} (h:aY (cT ex τ ρ M w) cs vs):∀ v∈vs,v.oneCell'=true:=fun v hv=>by
 obtain ⟨c,_,hc⟩:=h.mem v hv;exact cT.one hc
theorem uW:∀ {cs:List SC} {xs:List C0} {l:List Nat},(oY cs).run s=some (xs,l)→xs.length=cs.length
 | [],xs,l,hq=>by simp only [oY,Q.eO,Option.some.injEq,Prod.mk.injEq] at hq;rw [←hq.1];rfl
 | c::cs,xs,l,hq=>by
   obtain ⟨⟨x,l1⟩,q1,q2⟩:=Q.bind_some hq;obtain ⟨⟨xs',l2⟩,q3,q4⟩:=Q.bind_some q2;simp only [Q.run_pure,Option.some.injEq,Prod.mk.injEq] at q4;rw [←q4.1,List.length_cons,List.length_cons,uW q3]
theorem HB {M':Nat→Prop} {w:World} {sz:Nat}:∀ (ts:List (List aH)) (l:List Value) (j:Nat) (c:List aH) (us:List Value),(∀ t∈ts,t.length=sz)→aZ M' w ts.flatten l→l.length=ts.length*sz→j<ts.length→c.length=sz→aZ M' w c us →
  aZ M' w (ts.set j c).flatten (l.take (j*sz)++us++l.drop (j*sz+sz))
 | [],l,j,c,us,_,_,_,hj,_,_=>by simp at hj
 | t::ts,l,j,c,us,hl,hr,hll,hj,hc,hus=>by
   have ht:t.length=sz:=hl t List.mem_cons_self;rw [List.length_cons,Nat.add_mul,Nat.one_mul] at hll
   have h2:aZ M' w ts.flatten (l.drop sz):=by
    have:=hr.drop sz;rw [List.flatten_cons,List.drop_append_of_le_length (by omega),List.drop_eq_nil_of_le (by omega:t.length≤sz),List.nil_append] at this;exact this
   cases j with
   | zero=>
     simp only [List.set_cons_zero,List.flatten_cons,Nat.zero_mul,List.take_zero,List.nil_append,Nat.zero_add];exact hus.append h2
   | succ j=>
     simp only [List.set_cons_succ,List.flatten_cons]
     have h1:aZ M' w t (l.take sz):=by
      have:=hr.take sz;rw [List.flatten_cons,List.take_append_of_le_length (by omega),List.take_of_length_le (by omega:t.length≤sz)] at this;exact this
     have h3:=HB ts (l.drop sz) j c us (fun t ht=>hl t (List.mem_cons_of_mem _ ht)) h2 (by rw [List.length_drop];omega) (by simpa using hj) hc hus;have h4:=h1.append h3
     have e1:l.take sz++((l.drop sz).take (j*sz)++us++(l.drop sz).drop (j*sz+sz))=l.take ((j+1)*sz)++us++l.drop ((j+1)*sz+sz):=by
      have e0:(j+1)*sz=sz+j*sz:=by rw [Nat.add_mul,Nat.one_mul,Nat.add_comm]
      rw [e0,List.take_add,List.drop_drop,←Nat.add_assoc];simp [List.append_assoc]
     rw [e1] at h4;exact h4
theorem ai1 {α:Type} {l us:List α} {L p sz off n:Nat} (hu:us.length=n) (h1:off+n≤sz) (h2:p+sz≤L) (h3:L≤l.length) :
  (l.take L).take p++(((l.drop p).take sz).take off++us++((l.drop p).take sz).drop (off+n))++(l.take L).drop (p+sz)=(l.take (p+off)++us++l.drop (p+off+n)).take L:=by
 apply List.ext_getElem?;intro i;subst hu;simp only [List.getElem?_append,List.getElem?_take,List.getElem?_drop,List.length_append,List.length_take,List.length_drop]
 grind
theorem Qs (h:Sat M0 w0 N s τ ρ a w) (hd:cH N o=true) {T:Nat} {x y:Operand} (ho:o.op = .store T x y)
  (hq:(EK P o ni T x y).run s=some (e,nd)) (hn:gR P τ o.op o.type nd ni):o.wp P a w (jA M0 w0 N s e τ) Qp:=by
 obtain ⟨c,h1,h2⟩:=Q.bind_some hq;obtain ⟨v,hv1,hv2⟩:=Q.bind_some h2;obtain ⟨⟨ag,n⟩,h3,h4⟩:=Q.bind_some hv2;rw [dD] at h3;have hx:=dG h h1;have hy:=(qV h hv1).Dh;have hyl:=hy.length;cases c with
 | p b off=>
   obtain ⟨bx,h5,h6⟩:=Q.bind_some h4;simp only [gD,Option.some.injEq] at h5
   match bx,h5,h6 with
   | some (.var T' cells),h5,h6=>
     obtain ⟨sb,h7,h8⟩:=Q.bind_some h6;simp only [rN,Option.some.injEq] at h7;obtain ⟨_,h9,h10⟩:=Q.bind_some h8;have hsb:=cX h9;rw [←h7] at hsb;obtain ⟨_,h11,h12⟩:=Q.bind_some h10;obtain ⟨hn1,hn2⟩:=cX h11;simp only [Q.run_pure,Option.some.injEq] at h12;obtain ⟨rfl,rfl⟩:=Prod.mk.inj h12;obtain ⟨vs,hh,hall⟩:=h.bx b _ h5;have hl:=hall.length;simp only [Array.length_toList] at hyl;have hr:=rJ (w:=w) h3 hh (off:=off) (v:=a.eval y) (by omega) hy.one (by simp;omega);refine Bh (vV ho hx.2 hr) ⟨ρ,?_⟩;have:=h.store hd h5 hsb (cells:=cells.take off++v.cells++cells.drop (off+n)) (vs:=vs.take off++(a.eval y).cells.toList++vs.drop (off+n)) (((hall.take off).append hy).append (hall.drop (off+n)));exact this
   | none,_,h6=>simp at h6
   | some (.row ..),_,h6=>simp at h6
   | some .dead,_,h6=>simp at h6
 | rp b sz i off=>
   obtain ⟨⟨pt,E,sz',cid⟩,h5,h6⟩:=Q.bind_some h4;have h5:=lJ h5;obtain ⟨sb,h7,h8⟩:=Q.bind_some h6;simp only [rN,Option.some.injEq] at h7;obtain ⟨_,h9,h10⟩:=Q.bind_some h8;have hsb:=cX h9;rw [←h7] at hsb;obtain ⟨⟨xs,sl⟩,h11,h12⟩:=Q.bind_some h10;obtain ⟨_,h13,h14⟩:=Q.bind_some h12;obtain ⟨rfl,hn1,hn2,hn3⟩:=cX h13;simp only [Q.run_pure,Option.some.injEq] at h14;obtain ⟨rfl,rfl⟩:=Prod.mk.inj h14;obtain ⟨news,⟨ts,k,m,cells,hcid,hi,h0,hcell,rfl⟩,_,hτ⟩:=hn;have hτ0:τ[ni]? = some (.rows (ts.set m.toNat (cells.take off++xs.map (c0 τ)++cells.drop (off+xs.length)))):=by simpa using hτ 0 _ rfl
   obtain ⟨_,g,o0,len,cap,k',m',hval,hi',h0',hxv⟩:=hx
   have hm:m'=m:=by
    rw [hi] at hi';have:(aH.int k m).rep (fun _=>False) default (.int k' m'):=by rw [show aH.int k m=aH.exact (.int k m) from rfl] at *;rw [hi'];exact ⟨rfl,rfl⟩
    have:=this.1;simp at this;exact this.2
   subst hm;obtain ⟨ts',cur,hcid',hlen',hg,hfitp,hsz,hcm,hnc,hlen,hrep⟩:=Ha (h.bx b _ h5) hval;rw [hcid] at hcid';simp only [Option.some.injEq,aF.rows.injEq] at hcid';subst hcid';subst hlen';have hlt:m'.toNat<ts.length:=(List.getElem?_eq_some_iff.1 hcell).1;have hj1:(m'.toNat+1)*sz'≤ts.length*sz':=Nat.mul_le_mul_right _ (by omega);rw [Nat.add_mul,Nat.one_mul] at hj1;simp only [Array.length_toList] at hyl;have hr:=rJ (w:=w) h3 hg (off:=o0+m'.toNat*sz'+off) (v:=a.eval y) (by omega) hy.one (by omega);refine Bh (vV ho hxv hr) ⟨ρ,?_⟩;have hcl:cells.length=sz':=hlen cells (List.mem_of_getElem? hcell);have hxsl:xs.length=n:=by rw [uW h11];exact hn1
   have hyl':(a.eval y).cells.size=n:=by omega
   refine h.EW (w':=w.setRow g _) hd h5 hsb (by simpa using hn3) hval hg ?_ (setRow_heap w _ _ _ _ _ hg) ⟨rfl,rfl,rfl,by simp,fun k _ hk=>setRow_other w g k _ (by rintro rfl;exact hk rfl)⟩ ?_ hfitp hcm hnc hτ0 (by simp) ?_ (fun _=>rfl) ?_
   ·intro j hj;rw [List.getElem?_toArray,←Array.getElem?_toList];simp only [List.getElem?_append,List.getElem?_take,List.getElem?_drop,List.length_append,List.length_take,Array.length_toList,hyl']
    grind
   ·simp;omega
   ·intro t ht;rcases List.mem_or_eq_of_mem_set ht with ht | rfl
    ·exact hlen t ht
    ·simp [hcl,hxsl];omega
   ·intro hS hgM;generalize Ms M0 ρ (s.app ⟨put o .undef,[(b,jC pt E sz' ni)],sl⟩)=M' at hS hgM ⊢;have hxr:=lL h h11 hS hy;have hrep':=hrep.mono (hS.jD (w:=w));have hel:=lO (off:=o0) hlen hrep'
    have htl:((cur.toList.drop o0).take (ts.length*sz')).length=ts.length*sz':=by
     rw [List.length_take,List.length_drop,Array.length_toList (xs:=cur)];exact Nat.min_eq_left (by omega)
    have hcrep:aZ M' w (cells.take off++xs.map (c0 τ)++cells.drop (off+xs.length)) ((((cur.toList.drop o0).drop (m'.toNat*sz')).take sz').take off++(a.eval y).cells.toList++(((cur.toList.drop o0).drop (m'.toNat*sz')).take sz').drop (off+n)):=by
     have:=(hel m'.toNat cells hcell).2;rw [hxsl,List.drop_drop];exact ((this.take off).append hxr).append (this.drop (off+n))
    have:=HB ts _ m'.toNat _ _ hlen hrep' htl hlt (by simp [hcl,hxsl];omega) hcrep;rw [ai1 (by simpa using hyl') hn2 hj1 (by rw [List.length_drop,Array.length_toList (xs:=cur)];omega)] at this
    have e1:((cur.toList.take (o0+m'.toNat*sz'+off)++(a.eval y).cells.toList++cur.toList.drop (o0+m'.toNat*sz'+off+n)).toArray.toList.drop o0)=((cur.toList.drop o0).take (m'.toNat*sz'+off)++(a.eval y).cells.toList++(cur.toList.drop o0).drop (m'.toNat*sz'+off+n)):=by
     show List.drop o0 (cur.toList.take (o0+m'.toNat*sz'+off)++(a.eval y).cells.toList++cur.toList.drop (o0+m'.toNat*sz'+off+n))=_;have e2:o0+m'.toNat*sz'+off-o0=m'.toNat*sz'+off:=by omega
     have e3:o0+m'.toNat*sz'+off+n=o0+(m'.toNat*sz'+off+n):=by omega
     rw [List.append_assoc,List.drop_append_of_le_length (by rw [List.length_take,Array.length_toList (xs:=cur)];omega),List.drop_take,e2,e3,←List.drop_drop,←List.append_assoc]
    rw [e1];refine this.mono ?_;intro k' ob hk hob _;exact ⟨hk,by rw [setRow_other w g k' _ (by rintro rfl;exact hk hgM)];exact hob⟩
 | c _=>simp at h4
 | rs _ _ _ _=>simp at h4
 | gT _ _=>simp at h4
 | r _=>simp at h4
 | ref _ _=>simp at h4
end
end Go.Sy
