/- OdeChecks.
-/
import Derived.Test.YtdmcadckdnnglaaGreatDoorOc
import Derived.Test.YtdmcadckdnnglaaGreatDoorQg
set_option linter.unusedVariables false
set_option linter.unusedSimpArgs false
namespace Go.Sy
open Go Go.Proofs Tryz Ord
theorem Fc (x:Rat) (xs:List Rat):trim (x::xs)=if dH zr xs=0∧zr x=true then [] else x::trim xs:=by
 unfold trim;simp only [dH];split<;>simp
theorem yV:∀ ps:List Rat,dH zr (trim ps)=dH zr ps
 | []=>rfl
 | x::xs=>by
   have ih:=yV xs;rw [Fc];split
   ·rename_i h;simp only [dH];rw [if_pos h]
   ·rename_i h;simp only [dH];rw [ih]
theorem Oe (ps:List Rat):trim (trim ps)=trim ps:=by
 have:=gF ps;show (trim ps).take (dH zr (trim ps))=trim ps;rw [yV];exact List.take_of_length_le (by omega)
theorem OU {ps:List Rat} (h:dH zr ps=0) (c:Rat):eN ps c=0:=by
 induction ps with
 | nil=>rfl
 | cons x xs ih=>
   simp only [dH] at h;split at h
   ·rename_i h';have hx:x=0:=by simpa [zr] using h'.2
    show eN xs c*c+x=0;rw [ih h'.1,hx];grind
   ·omega
theorem CO (c:Rat):∀ ps:List Rat,eN (trim ps) c=eN ps c
 | []=>rfl
 | x::xs=>by
   have ih:=CO c xs;rw [Fc];split
   ·rename_i h;rw [OU (ps:=x::xs) (by simp only [dH];rw [if_pos h])];rfl
   ·show eN (trim xs) c*c+x=eN xs c*c+x;rw [ih]
def DC (e e':List (List Rat)):Prop:=e.length=e'.length∧∀ (i:Nat) p p',e[i]? = some p→e'[i]? = some p'→dH zr p=dH zr p'∧∀ c,eN p c=eN p' c
theorem DC.symm {e e':List (List Rat)} (h:DC e e'):DC e' e:=⟨h.1.symm,fun i p p' h1 h2=>⟨(h.2 i p' p h2 h1).1.symm,fun c=>((h.2 i p' p h2 h1).2 c).symm⟩⟩
theorem DC.aD9 {e e':List (List Rat)} (h:DC e e') (hk:nI e=true):nI e'=true:=by
 unfold nI at hk ⊢;rw [decide_eq_true_iff] at hk ⊢;obtain ⟨h1,h2,h3,h4⟩:=hk;have hl:=h.1;refine ⟨by omega,by omega,fun p hp=>?_,fun p hp=>?_⟩
 ·obtain ⟨i,hi⟩:=List.getElem?_of_mem hp;have hi2:=(List.getElem?_eq_some_iff.1 hi).1;obtain ⟨p',hp'⟩:∃ p',e[i]? = some p':=⟨_,List.getElem?_eq_getElem (by omega)⟩
  rw [←(h.2 i p' p hp' hi).1];exact h3 p' (List.mem_of_getElem? hp')
 ·rw [←hl] at hp;obtain ⟨p',hp'⟩:∃ p',e[e.length-1]? = some p':=⟨_,List.getElem?_eq_getElem (by omega)⟩
  rw [←(h.2 _ p' p hp' hp).1];exact h4 p' hp'
theorem DC.nI {e e':List (List Rat)} (h:DC e e'):nI e'=nI e:=by
 cases he:Go.Sy.nI e with
 | true=>exact h.aD9 he
 | false=>
   cases he':Go.Sy.nI e' with
   | false=>rfl
   | true=>rw [h.symm.aD9 he'] at he;cases he
theorem DC.YQ {e e':List (List Rat)} (h:DC e e') (c:Rat) (hk:jO e c=true):jO e' c=true:=by
 unfold jO at hk ⊢;rw [decide_eq_true_iff] at hk ⊢;have hl:=h.1;intro p hp;rw [←hl] at hp;have hlt:=(List.getElem?_eq_some_iff.1 hp).1;obtain ⟨p',hp'⟩:∃ p',e[e.length-1]? = some p':=⟨_,List.getElem?_eq_getElem (by omega)⟩
 rw [←(h.2 _ p' p hp' hp).2];exact hk p' hp'
theorem DC.jO {e e':List (List Rat)} (h:DC e e') (c:Rat):jO e' c=jO e c:=by
 cases he:Go.Sy.jO e c with
 | true=>exact h.YQ c he
 | false=>
   cases he':Go.Sy.jO e' c with
   | false=>rfl
   | true=>rw [h.symm.YQ c he'] at he;cases he
theorem DC.okF {e e':List (List Rat)} (h:DC e e') (c:Rat) (y:List Rat):okF e' c y=okF e c y:=by
 unfold Go.Sy.okF;rw [h.nI,h.jO,h.1]
theorem Se (l:List bQ):(rF l).map RQ.q=cJ l:=by
 rw [rF,cJ,List.map_map];rfl
theorem UI (n:Nat):(IE n).map RQ.q=kQ n:=by
 rw [IE,kQ,List.map_set,List.map_replicate];rfl
theorem Pr (p:List (List bQ)) (long:Int):fG (Pc p long)=p.map (fun l=>trim (cJ l))++if 0<long then [kQ (long%50+1).toNat] else []:=by
 unfold fG Pc;rw [List.map_append,List.map_map]
 congr 1
 ·refine List.map_congr_left fun l _=>?_;show (dV (rF l)).map RQ.q=_;rw [pP,Se]
 ·split
  ·rw [List.map_cons,List.map_nil,UI]
  ·rfl
theorem VI {α:Type} (f g:α→List Rat) (hfg:∀ a,dH zr (f a)=dH zr (g a)∧∀ c,eN (f a) c=eN (g a) c) (l:List α) (r:List (List Rat)):DC (l.map f++r) (l.map g++r):=by
 refine ⟨by simp,fun i p p' h1 h2=>?_⟩;rcases Nat.lt_or_ge i l.length with h | h
 ·rw [List.getElem?_append_left (by simpa using h),List.getElem?_map,List.getElem?_eq_getElem h] at h1 h2;simp only [Option.map_some,Option.some.injEq] at h1 h2;subst h1 h2;exact hfg _
 ·rw [List.getElem?_append_right (by simpa using h)] at h1 h2;rw [List.length_map] at h1 h2;rw [h1] at h2;cases h2;exact ⟨rfl,fun _=>rfl⟩
theorem aK2 (p:List (List bQ)) (long:Int):DC (Bw p long) (fG (Pc p long)):=by
 rw [Pr];exact VI _ _ (fun l=>⟨(yV _).symm,fun c=>(CO c _).symm⟩) _ _
theorem QC (n:Nat) (hn:n≤50):(kQ n).length≤64∧∀ q∈kQ n,Fit 513 q:=by
 refine ⟨by simp [kQ];omega,fun q hq=>?_⟩;rcases List.mem_or_eq_of_mem_set hq with h | rfl
 ·rw [(List.mem_replicate.1 h).2];exact Fit.zero (by omega)
 ·exact (eA (n:=1) (by omega) (by omega)).mono (by omega)
theorem Mq {l:List bQ} (hl:l.length≤4) (h:∀ x∈l,x.In):(cJ l).length≤64∧∀ q∈cJ l,Fit 513 q:=by
 refine ⟨by rw [tJ];omega,fun q hq=>?_⟩;obtain ⟨x,hx,rfl⟩:=List.mem_map.1 hq;exact (h x hx).Pe
theorem aO9 {p:List (List bQ)} {long:Int} (hp:ZC p) (hs:gH p=true):TD (Bw p long)∧TD (fG (Pc p long)):=by
 unfold gH at hs;rw [decide_eq_true_iff] at hs;obtain ⟨h1,h2⟩:=hs;have hn:(long%50+1).toNat≤50:=by omega
 rw [Pr]
 have hr:∀ q∈(if 0<long then [kQ (long%50+1).toNat] else []),q.length≤64∧∀ x∈q,Fit 513 x:=by
  intro q hq;split at hq
  ·rw [List.mem_singleton] at hq;subst hq;exact QC _ hn
  ·cases hq
 have hrl:(if 0<long then [kQ (long%50+1).toNat] else []).length≤1:=by split<;>simp
 constructor
 ·refine ⟨by rw [Bw,List.length_append,List.length_map];omega,fun q hq=>?_⟩;rcases List.mem_append.1 hq with h | h
  ·obtain ⟨l,hl,rfl⟩:=List.mem_map.1 h;exact Mq (h2 l hl).1 (hp.p l hl).2
  ·exact hr q h
 ·refine ⟨by rw [List.length_append,List.length_map];omega,fun q hq=>?_⟩;rcases List.mem_append.1 hq with h | h
  ·obtain ⟨l,hl,rfl⟩:=List.mem_map.1 h;obtain ⟨k1,k2⟩:=Mq (h2 l hl).1 (hp.p l hl).2;exact ⟨by rw [gF];have:=gL (z:=zr) (cJ l);omega,fun x hx=>k2 x (List.mem_of_mem_take hx)⟩
  ·exact hr q h
theorem Yn {l:List Int} (h:qE l) (hl:l.length<8):(ints l).length<1099511627776∧∀ q∈ints l,Fit 64 q:=by
 refine ⟨by rw [ints,gF];have:=gL (z:=zr) (l.map fun n:Int=>(n:Rat));rw [List.length_map] at this;omega,fun q hq=>?_⟩;obtain ⟨n,hn,rfl⟩:=List.mem_map.1 (List.mem_of_mem_take hq);exact eA (h n hn).1 (h n hn).2
theorem aT7 {k:Nat} {n:Int} (h1:1≤k) (h2:k≤8) (h3:0≤n) (h4:n≤40):(kE k n).map trim=kE k n∧(kE k n).length≤3∧∀ p∈kE k n,p.length<1099511627776∧∀ q∈p,Fit 64 q:=by
 have hnn:n*(n+1)≤40*41:=Int.mul_le_mul (a:=n) (b:=n+1) (c:=40) (d:=41) (by omega) (by omega) (by omega) (by omega);have hn0:0≤n*(n+1):=Int.mul_nonneg (by omega) (by omega);generalize hm:n*(n+1)=m at hnn hn0;have ht:∀ l,trim (ints l)=ints l:=fun l=>Oe _;have ht0:trim [] = []:=rfl;have hz:([]:List Rat).length<1099511627776∧∀ q∈([]:List Rat),Fit 64 q:=⟨by simp,by simp⟩
 rcases (by omega:k=1∨k=2∨k=3∨k=4∨k=5∨k=6∨k=7∨k=8) with rfl | rfl | rfl | rfl | rfl | rfl | rfl | rfl <;>
  refine ⟨by simp only [kE,List.map_cons,List.map_nil,ht,ht0],by simp [kE],fun p hp=>?_⟩ <;>
  simp only [kE,List.mem_cons,List.not_mem_nil,or_false] at hp <;>
  (try rw [hm] at hp) <;>
  (rcases hp with rfl | rfl | rfl<;>first | exact hz | exact Yn (by intro x hx;simp only [List.mem_cons,List.not_mem_nil,or_false] at hx;omega) (by simp))
end Go.Sy
