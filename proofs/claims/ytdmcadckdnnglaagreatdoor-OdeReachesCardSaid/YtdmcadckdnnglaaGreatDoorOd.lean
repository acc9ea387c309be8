/- OdeChecks.
-/
import Derived.Test.YtdmcadckdnnglaaGreatDoorOc
import Derived.Test.YtdmcadckdnnglaaGreatDoorQg
set_option linter.unusedVariables false
set_option linter.unusedSimpArgs false
namespace Go.Sy
open Go Go.Proofs Tryz Ord
theorem ES (x:Rat) (xs:List Rat):trim (x :: xs) = if cV zr xs = 0 ∧ zr x = true then [] else x :: trim xs:=by
 unfold trim
 simp only [cV]
 split <;> simp
theorem xD:∀ ps:List Rat,cV zr (trim ps) = cV zr ps
 | []=>rfl
 | x :: xs=>by
   have ih:=xD xs
   rw [ES]
   split
   ·rename_i h; simp only [cV]; rw [if_pos h]
   ·rename_i h; simp only [cV]; rw [ih]
theorem Ma (ps:List Rat):trim (trim ps) = trim ps:=by
 have:=eP ps
 show (trim ps).take (cV zr (trim ps)) = trim ps
 rw [xD]
 exact List.take_of_length_le (by omega)
theorem Nn {ps:List Rat} (h:cV zr ps = 0) (c:Rat):eN ps c = 0:=by
 induction ps with
 | nil=>rfl
 | cons x xs ih=>
   simp only [cV] at h
   split at h
   ·rename_i h'
    have hx:x = 0:=by simpa [zr] using h'.2
    show eN xs c * c + x = 0
    rw [ih h'.1,hx]; grind
   ·omega
theorem CN (c:Rat):∀ ps:List Rat,eN (trim ps) c = eN ps c
 | []=>rfl
 | x :: xs=>by
   have ih:=CN c xs
   rw [ES]
   split
   ·rename_i h
    rw [Nn (ps:=x :: xs) (by simp only [cV]; rw [if_pos h])]; rfl
   ·show eN (trim xs) c * c + x = eN xs c * c + x
    rw [ih]
def DA (e e':List (List Rat)):Prop:=e.length = e'.length ∧ ∀ (i:Nat) p p',e[i]? = some p → e'[i]? = some p' → cV zr p = cV zr p' ∧ ∀ c,eN p c = eN p' c
theorem DA.symm {e e':List (List Rat)} (h:DA e e'):DA e' e:=⟨h.1.symm,fun i p p' h1 h2=>⟨(h.2 i p' p h2 h1).1.symm,fun c=>((h.2 i p' p h2 h1).2 c).symm⟩⟩
theorem DA.aF3 {e e':List (List Rat)} (h:DA e e') (hk:lG e = true):lG e' = true:=by
 unfold lG at hk ⊢
 rw [decide_eq_true_iff] at hk ⊢
 obtain ⟨h1,h2,h3,h4⟩:=hk
 have hl:=h.1
 refine ⟨by omega,by omega,fun p hp=>?_,fun p hp=>?_⟩
 ·obtain ⟨i,hi⟩:=List.getElem?_of_mem hp
  have hi2:=(List.getElem?_eq_some_iff.1 hi).1
  obtain ⟨p',hp'⟩:∃ p',e[i]? = some p':=⟨_,List.getElem?_eq_getElem (by omega)⟩
  rw [← (h.2 i p' p hp' hi).1]
  exact h3 p' (List.mem_of_getElem? hp')
 ·rw [← hl] at hp
  obtain ⟨p',hp'⟩:∃ p',e[e.length - 1]? = some p':=⟨_,List.getElem?_eq_getElem (by omega)⟩
  rw [← (h.2 _ p' p hp' hp).1]
  exact h4 p' hp'
theorem DA.lG {e e':List (List Rat)} (h:DA e e'):lG e' = lG e:=by
 cases he:Go.Sy.lG e with
 | true=>exact h.aF3 he
 | false=>
   cases he':Go.Sy.lG e' with
   | false=>rfl
   | true=>rw [h.symm.aF3 he'] at he; cases he
theorem DA.XL {e e':List (List Rat)} (h:DA e e') (c:Rat) (hk:iU e c = true):iU e' c = true:=by
 unfold iU at hk ⊢
 rw [decide_eq_true_iff] at hk ⊢
 have hl:=h.1
 intro p hp
 rw [← hl] at hp
 have hlt:=(List.getElem?_eq_some_iff.1 hp).1
 obtain ⟨p',hp'⟩:∃ p',e[e.length - 1]? = some p':=⟨_,List.getElem?_eq_getElem (by omega)⟩
 rw [← (h.2 _ p' p hp' hp).2]
 exact hk p' hp'
theorem DA.iU {e e':List (List Rat)} (h:DA e e') (c:Rat):iU e' c = iU e c:=by
 cases he:Go.Sy.iU e c with
 | true=>exact h.XL c he
 | false=>
   cases he':Go.Sy.iU e' c with
   | false=>rfl
   | true=>rw [h.symm.XL c he'] at he; cases he
theorem DA.okF {e e':List (List Rat)} (h:DA e e') (c:Rat) (y:List Rat):okF e' c y = okF e c y:=by
 unfold Go.Sy.okF
 rw [h.lG,h.iU,h.1]
theorem Rx (l:List bP):(pK l).map RQ.q = cJ l:=by
 rw [pK,cJ,List.map_map]; rfl
theorem Vi (n:Nat):(Gq n).map RQ.q = kU n:=by
 rw [Gq,kU,List.map_set,List.map_replicate]; rfl
theorem OJ (p:List (List bP)) (long:Int):eC (SF p long) = p.map (fun l=>trim (cJ l)) ++ if 0 < long then [kU (long % 50 + 1).toNat] else []:=by
 unfold eC SF
 rw [List.map_append,List.map_map]
 congr 1
 ·refine List.map_congr_left fun l _=>?_
  show (eA (pK l)).map RQ.q = _
  rw [pD,Rx]
 ·split
  ·rw [List.map_cons,List.map_nil,Vi]
  ·rfl
theorem Tj {α:Type} (f g:α → List Rat) (hfg:∀ a,cV zr (f a) = cV zr (g a) ∧ ∀ c,eN (f a) c = eN (g a) c) (l:List α) (r:List (List Rat)):DA (l.map f ++ r) (l.map g ++ r):=by
 refine ⟨by simp,fun i p p' h1 h2=>?_⟩
 rcases Nat.lt_or_ge i l.length with h | h
 ·rw [List.getElem?_append_left (by simpa using h),List.getElem?_map,List.getElem?_eq_getElem h] at h1 h2
  simp only [Option.map_some,Option.some.injEq] at h1 h2
  subst h1 h2
  exact hfg _
 ·rw [List.getElem?_append_right (by simpa using h)] at h1 h2
  rw [List.length_map] at h1 h2
  rw [h1] at h2; cases h2
  exact ⟨rfl,fun _=>rfl⟩
theorem aC6 (p:List (List bP)) (long:Int):DA (DQ p long) (eC (SF p long)):=by
 rw [OJ]
 exact Tj _ _ (fun l=>⟨(xD _).symm,fun c=>(CN c _).symm⟩) _ _
theorem OK (n:Nat) (hn:n ≤ 50):(kU n).length ≤ 64 ∧ ∀ q ∈ kU n,Fit 513 q:=by
 refine ⟨by simp [kU]; omega,fun q hq=>?_⟩
 rcases List.mem_or_eq_of_mem_set hq with h | rfl
 ·rw [(List.mem_replicate.1 h).2]; exact Fit.zero (by omega)
 ·exact (dH (n:=1) (by omega) (by omega)).mono (by omega)
theorem Km {l:List bP} (hl:l.length ≤ 4) (h:∀ x ∈ l,x.In):(cJ l).length ≤ 64 ∧ ∀ q ∈ cJ l,Fit 513 q:=by
 refine ⟨by rw [rI]; omega,fun q hq=>?_⟩
 obtain ⟨x,hx,rfl⟩:=List.mem_map.1 hq
 exact (h x hx).QT
theorem av6 {p:List (List bP)} {long:Int} (hp:InP p) (hs:iX p = true):Nv (DQ p long) ∧ Nv (eC (SF p long)):=by
 unfold iX at hs
 rw [decide_eq_true_iff] at hs
 obtain ⟨h1,h2⟩:=hs
 have hn:(long % 50 + 1).toNat ≤ 50:=by omega
 rw [OJ]
 have hr:∀ q ∈ (if 0 < long then [kU (long % 50 + 1).toNat] else []),q.length ≤ 64 ∧ ∀ x ∈ q,Fit 513 x:=by
  intro q hq
  split at hq
  ·rw [List.mem_singleton] at hq; subst hq; exact OK _ hn
  ·cases hq
 have hrl:(if 0 < long then [kU (long % 50 + 1).toNat] else []).length ≤ 1:=by split <;> simp
 constructor
 ·refine ⟨by rw [DQ,List.length_append,List.length_map]; omega,fun q hq=>?_⟩
  rcases List.mem_append.1 hq with h | h
  ·obtain ⟨l,hl,rfl⟩:=List.mem_map.1 h
   exact Km (h2 l hl).1 (hp.p l hl).2
  ·exact hr q h
 ·refine ⟨by rw [List.length_append,List.length_map]; omega,fun q hq=>?_⟩
  rcases List.mem_append.1 hq with h | h
  ·obtain ⟨l,hl,rfl⟩:=List.mem_map.1 h
   obtain ⟨k1,k2⟩:=Km (h2 l hl).1 (hp.p l hl).2
   exact ⟨by rw [eP]; have:=gK (z:=zr) (cJ l); omega,fun x hx=>k2 x (List.mem_of_mem_take hx)⟩
  ·exact hr q h
theorem TO {l:List Int} (h:fO l) (hl:l.length < 8):(ints l).length < 1099511627776 ∧ ∀ q ∈ ints l,Fit 64 q:=by
 refine ⟨by rw [ints,eP]; have:=gK (z:=zr) (l.map fun n:Int=>(n:Rat)); rw [List.length_map] at this; omega,fun q hq=>?_⟩
 obtain ⟨n,hn,rfl⟩:=List.mem_map.1 (List.mem_of_mem_take hq)
 exact dH (h n hn).1 (h n hn).2
theorem ay2 {k:Nat} {n:Int} (h1:1 ≤ k) (h2:k ≤ 8) (h3:0 ≤ n) (h4:n ≤ 40):(kE k n).map trim = kE k n ∧ (kE k n).length ≤ 3 ∧ ∀ p ∈ kE k n,p.length < 1099511627776 ∧ ∀ q ∈ p,Fit 64 q:=by
 have hnn:n * (n + 1) ≤ 40 * 41:=Int.mul_le_mul (a:=n) (b:=n + 1) (c:=40) (d:=41) (by omega) (by omega) (by omega) (by omega)
 have hn0:0 ≤ n * (n + 1):=Int.mul_nonneg (by omega) (by omega)
 generalize hm:n * (n + 1) = m at hnn hn0
 have ht:∀ l,trim (ints l) = ints l:=fun l=>Ma _
 have ht0:trim [] = []:=rfl
 have hz:([]:List Rat).length < 1099511627776 ∧ ∀ q ∈ ([]:List Rat),Fit 64 q:=⟨by simp,by simp⟩
 rcases (by omega:k = 1 ∨ k = 2 ∨ k = 3 ∨ k = 4 ∨ k = 5 ∨ k = 6 ∨ k = 7 ∨ k = 8) with rfl | rfl | rfl | rfl | rfl | rfl | rfl | rfl <;>
  refine ⟨by simp only [kE,List.map_cons,List.map_nil,ht,ht0],by simp [kE],fun p hp=>?_⟩ <;>
  simp only [kE,List.mem_cons,List.not_mem_nil,or_false] at hp <;>
  (try rw [hm] at hp) <;>
  (rcases hp with rfl | rfl | rfl <;> first | exact hz | exact TO (by intro x hx; simp only [List.mem_cons,List.not_mem_nil,or_false] at hx; omega) (by simp))
end Go.Sy
