/- The reference's matrix. The reference's matrix. Matrix of a small equation. The least of a list; products of spans.
-/
import Derived.Test.YtdmcadckdnnglaaGreatDoorHc
import Derived.Test.YtdmcadckdnnglaaGreatDoorGb
import Derived.Test.YtdmcadckdnnglaaGreatDoorYa
import Derived.Test.YtdmcadckdnnglaaGreatDoorPb
set_option linter.unusedVariables false
set_option linter.unusedSimpArgs false
namespace Go.Sy
open Go Go.Proofs Tryz Ord
section
variable {E:List (List Rat)} {ER:List (List RQ)} {X:Rat} {XR:RQ}
end
open Go Go.Proofs Tryz Ord
open Go Go.Proofs Tryz Ord
theorem aK.SU {P:Program} {f:FuncId} {ins:List aG} {ts us:List aG} (h:aK P f ins (.ret ts)) (hs:aO ts us):aK P f ins (.ret us):=
 ⟨h.1,fun M w vs hM hv=>(h.2 M w vs hM hv).mono fun e w' ⟨hb,vs',e',hr⟩=>⟨hb,vs',e',cG.sub hs hr⟩⟩
def Ko (E:List (List Rat)) (X t:Rat) (k:Int):List (List aI)×Int:=
 if sA E=true then (if qA E X=true then (match jN (bD E X) (E.length-1) (aM E X) with
  | some (aF,st)=>if t.abs*2≤aF then (match uE E X aF st t (E.length-1-1) k with
    | some N=>(LA (bD E X) (E.length-1) (aM E X) aF st t k N (E.length-1),0)
    | none=>([],5)) else ([],3)
  | none=>([],5)) else ([],11)) else ([],2)
section
variable {E:List (List Rat)} {ER:List (List RQ)} {X:Rat} {XR:RQ}
theorem QI (hr:tZ E X) {aF t:Rat} {st:Nat} {k:Int} (hv:jN (bD E X) (E.length-1) (aM E X)=some (aF,st)) (ht:uC t) (h2:t.abs*2≤aF) (hk:k≤256):Ba E X aF st t k:=by
 have e:t.abs+t.abs=t.abs*2:=by grind
 exact ⟨hv,ht,by rw [e];exact h2,hk⟩
theorem vG (h:SmallX E ER X XR) (t:Rat) (k:Int) (ht:uC t) (hk:k≤256) :
  aK prog 59 [.one (eQ E),qT X,qT t, .one (.int .i64 k)] (.ret [.one (.slice 1 (Ko E X t k).1), .one (.int .i64 (Ko E X t k).2)]):=by
 have hl:=h.e1.l;have hce:=gJ E (by omega) (fun p hp=>by have:=(h.e1.p p hp).1;omega);have hnil:∀ er:Int,aO [.one (.exact (.slice none 0 0)), .one (.int .i64 er)] [.one (.slice 1 []), .one (.int .i64 er)]:=fun er=>⟨aI.Sub.nil,aG.Sub.same,trivial⟩
 unfold Ko;by_cases hok:sA E=true
 ·rw [if_pos hok] at hce ⊢
  have hlen:0<E.length:=by
   unfold sA at hok;rw [decide_eq_true_iff] at hok;omega
  have hrg:=vM E X h.e1 hlen h.xf;by_cases hreg:qA E X=true
  ·rw [if_pos hreg];rw [hreg] at hrg;have hr:tZ E X:=⟨hok,hreg⟩
   have ho:=Hk h hr;have hat:=OM h hr;obtain ⟨h2,h5,_,_⟩:=hr.facts;unfold CY at ho;cases hv:jN (bD E X) (E.length-1) (aM E X) with
   | none=>
     rw [hv] at ho;exact (sS E X t k 5 hce hrg (Bq E X t k _ _ _ 5 hat ho)).SU (hnil 5)
   | some x=>
     obtain ⟨aF,st⟩:=x;rw [hv] at ho;dsimp only at ho ⊢;obtain ⟨hh,hh62,hrho,_,_⟩:=jI (by omega) hv;have hrf:Fit 2097152 aF:=by rw [hrho];exact (jZ ht.abs hh62 (n:=1) (d:=0) (by omega) (by omega) (Nat.le_refl _)).o1
     have htf:Fit 2097152 t:=ht.fit.mono (by omega);by_cases hc:t.abs*2≤aF
     ·rw [if_pos hc];have S:=QI hr hv ht hc hk;have hm:=PE (h.aD7 hr S);unfold RS at hm;cases ho2:uE E X aF st t (E.length-1-1) k with
      | none=>
        rw [ho2] at hm;exact (sS E X t k 5 hce hrg (Dx E X t k _ _ _ aF st 2097152 5 hat ho htf hrf (by omega) (by omega) hc hm)).SU (hnil 5)
      | some N=>
        rw [ho2] at hm;exact JS E X t k _ hce hrg (Et E X t k _ _ _ aF st 2097152 _ hat ho htf hrf (by omega) (by omega) hc hm)
     ·rw [if_neg hc];exact (sS E X t k 3 hce hrg (CH E X t k _ _ _ aF st 2097152 hat ho htf hrf (by omega) (by omega) hc)).SU (hnil 3)
  ·rw [if_neg hreg];rw [show qA E X=false by simpa using hreg] at hrg;exact (IT E X t k hce hrg).SU (hnil 11)
 ·rw [if_neg hok] at hce ⊢;exact (Je E X t k hce).SU (hnil 2)
end
open Go Go.Proofs Tryz Ord
def ae3:Tr:=bB .lss 3 3 0 0 0 4 (.ret [(W 1 0)])
theorem XV:aN prog f273 (fun _=>none) [.v none]=ae3:=by kernel_rfl
def aA7:Tr:=.need (.call 258 [(.one (.fX 273 [])),(W 0 0)] [(some 3)]) (.call ⟨.value (.func 258),#[(.func 273),(tT 3)],#[305,40]⟩) 39 true (.ret [(G3 1)])
theorem aL2:aN prog f235 (fun _=>none) [.v none]=aA7:=by kernel_rfl
def av8:Tr:=aP 235 [(W 0 0)] [(some 3)] [3] [40] 39 false (aP 208 [(W 0 0)] [(some 3)] [5] [40] 39 true (.ret [(.agg [(U 1 0),(U 1 1),(U 1 2),(U 2 0),(U 2 1),(U 2 2)])]))
theorem PK:aN prog f162 (fun _=>none) [.v none]=av8:=by kernel_rfl
def ad5:Tr:=.need (.callv (.u 0 0) [(.agg [(U 1 0),(U 1 1),(U 1 2)]),(.agg [(U 2 0),(U 2 1),(U 2 2)])] [(some 3)]) (.call ⟨.value (tT 7),#[(tT 9),(tT 11)],#[39,39]⟩) 39 false (.need (.callv (.u 0 0) [(.agg [(U 1 0),(U 1 1),(U 1 2)]),(.agg [(U 2 3),(U 2 4),(U 2 5)])] [(some 3)]) (.call ⟨.value (tT 13),#[(tT 15),(tT 17)],#[39,39]⟩) 39 false (.need (.callv (.u 0 0) [(.agg [(U 1 3),(U 1 4),(U 1 5)]),(.agg [(U 2 0),(U 2 1),(U 2 2)])] [(some 3)]) (.call ⟨.value (tT 19),#[(tT 21),(tT 23)],#[39,39]⟩) 39 false (.need (.callv (.u 0 0) [(.agg [(U 1 3),(U 1 4),(U 1 5)]),(.agg [(U 2 3),(U 2 4),(U 2 5)])] [(some 3)]) (.call ⟨.value (tT 25),#[(tT 27),(tT 29)],#[39,39]⟩) 39 true (.need (.lit 3 [[(.u 3 0),(.u 3 1),(.u 3 2)],[(.u 4 0),(.u 4 1),(.u 4 2)],[(.u 5 0),(.u 5 1),(.u 5 2)],[(.u 6 0),(.u 6 1),(.u 6 2)]]) (.buildSlice 40 4 #[(0,(tT 12)),(1,(tT 18)),(2,(tT 24)),(3,(tT 30))]) 40 false (aP 162 [(.one (.c (.sr 3 7)))] [(some 6)] [31] [40] 123 true (.ret [(G6 8)]))))))
theorem ak1:aN prog f156 (fun _=>none) [.v none, .v (some 6), .v (some 6)]=ad5:=by kernel_rfl
def ae7:Tr:=.need (.call 156 [(.one (.fX 36 [])),(G6 0),(G6 1)] [(some 6)]) (.call ⟨.value (.func 156),#[(.func 36),(tT 5),(tT 6)],#[224,123,123]⟩) 123 true (.ret [(G6 2)])
theorem ai4:aN prog f67 (fun _=>none) [.v (some 6), .v (some 6)]=ae7:=by kernel_rfl
def tM (l:List Rat):Nat→Rat
 | 0=>0
 | i+1=>if i=0∨l.getD i 0<tM l i then l.getD i 0 else tM l i
theorem JC {l:List Rat}:∀ i,i≤l.length→tM l i=0∨tM l i∈l
 | 0,_=>.inl rfl
 | i+1,h=>by
   rw [tM];split
   ·exact .inr (List.mem_of_getElem? (cI (show i<l.length by omega)))
   ·exact JC i (by omega)
theorem Iw {l:List Rat} {B:Nat} (hB:1≤B) (h:∀ x∈l,Fit B x) (i:Nat) (hi:i≤l.length):Fit B (tM l i):=by
 rcases JC i hi with e | e
 ·rw [e];exact Fit.zero hB
 ·exact h _ e
theorem Ni {a b:Rat}:mN a b<0↔a<b:=by
 unfold mN;by_cases h1:a<b
 ·rw [if_pos h1];exact ⟨fun h=>h1,fun h=>by omega⟩
 ·rw [if_neg h1];by_cases h2:b<a
  ·rw [if_pos h2];exact ⟨fun _=>by omega,fun h=>absurd h h1⟩
  ·rw [if_neg h2];exact ⟨fun h=>by omega,fun h=>absurd h h1⟩
theorem Xe (c:Int):aK prog 273 [(.one (.int .i64 c):aG)] (.ret [.one (.bool (decide (c<0)))]):=by
 refine aD (args:=[.v none]) (ins:=[.v (.one (.int .i64 c))]) (hints:=(fun _=>none)) fo (by kernel_rfl) func273 ⟨rfl,trivial⟩ ?_;rw [XV];dsimp only [List.map,In.env,aA,aB];refine vn bE rfl ?_;exact aL rfl
theorem Mk (l:List Rat) (B:Nat) (hl:∀ x∈l,Fit B x) (hB:1≤B) (hB2:B≤8589934592) (hs:l.length<1099511627776):aK prog 258 [(.one (.fX 273 []):aG),(.one (sQ l):aG)] (.ret [qT (tM l l.length)]):=by
 refine aD (args:=[.v none, .v none]) (ins:=[.v (.one (.fX 273 [])), .v (.one (sQ l))]) (hints:=(fun _=>none)) fo (by kernel_rfl) func258 ⟨rfl,rfl,trivial⟩ ?_;rw [JH];dsimp only [List.map,In.env,aA,aB];refine vn (aQ zZ (List.length_map _)) rfl ?_;dsimp only [aA,aB];refine bF {i:Nat // i≤l.length} (fun g=>(.one (.int .i64 g.1):aG)::(qC (tM l g.1)).map .one) (fun g=>l.length-g.1) ⟨0,Nat.zero_le _⟩ ⟨aG.Sub.same,qN⟩ (fun _=>rfl) ?_;rintro ⟨i,hi⟩;dsimp only [aA,aB,List.map] at hi ⊢;refine vn bE rfl ?_;dsimp only [aA,aB];refine vs _ rfl (fun h3=>?_) (fun h3=>?_)
 ·have hil:i<l.length:=by omega
  have hfx:=hl _ (List.mem_of_getElem? (cI hil));have hfm:=Iw hB hl i hi;refine vn (aY zZ (by omega) (Int.toNat_natCast i) (cI hil)) rfl ?_;dsimp only [aA,aB];refine vn (bZ rZ (by decide) (by simp) (.inl rfl)) rfl ?_;dsimp only [aA,aB];refine vn bW rfl ?_;dsimp only [aA,aB];refine vs _ rfl (fun h7=>?_) (fun h7=>?_)
  ·refine vn (aE (by omega) (by omega)) rfl ?_;dsimp only [aA,aB]
   exact aU rfl ⟨⟨i+1,by omega⟩,(by
    dsimp only;rw [tM,if_pos (.inl (by omega))];exact aO.rfl),by show l.length-(i+1)<l.length-i;omega⟩
  refine aC (pV _ _ B B hfx hfm (by omega)) rfl ?_;dsimp only [aA,aB];refine tP (f:=273) (caps:=[]) rfl (Xe (mN (l.getD i 0) (tM l i))) rfl ?_;dsimp only [aA,aB];refine vs _ rfl (fun h12=>?_) (fun h12=>?_)
  ·refine vn (aE (by omega) (by omega)) rfl ?_;dsimp only [aA,aB]
   exact aU rfl ⟨⟨i+1,by omega⟩,(by
    dsimp only;rw [tM,if_pos (.inr (Ni.1 h12))];exact aO.rfl),by show l.length-(i+1)<l.length-i;omega⟩
  refine vn (aE (by omega) (by omega)) rfl ?_;dsimp only [aA,aB]
  exact aU rfl ⟨⟨i+1,by omega⟩,(by
   dsimp only;rw [tM,if_neg (by rintro (h | h);omega;exact h12 (Ni.2 h))];exact aO.rfl),by show l.length-(i+1)<l.length-i;omega⟩
 rw [show l.length=i by omega];exact aL rfl
theorem aE9 (l:List Rat) (B:Nat) (hl:∀ x∈l,Fit B x) (hB:1≤B) (hB2:B≤8589934592) (hs:l.length<1099511627776):aK prog 235 [(.one (sQ l):aG)] (.ret [qT (tM l l.length)]):=by
 refine aD (args:=[.v none]) (ins:=[.v (.one (sQ l))]) (hints:=(fun _=>none)) fo (by kernel_rfl) func235 ⟨rfl,trivial⟩ ?_;rw [aL2];dsimp only [List.map,In.env,aA,aB];refine aC (Mk l B hl hB hB2 hs) rfl ?_;exact aL rfl
theorem Pa (l:List Rat) (B:Nat) (hl:∀ x∈l,Fit B x) (hB:1≤B) (hB2:B≤8589934592) (hs:l.length<1099511627776):aK prog 162 [(.one (sQ l):aG)] (.ret [BG (tM l l.length) (lT l l.length)]):=by
 refine aD (args:=[.v none]) (ins:=[.v (.one (sQ l))]) (hints:=(fun _=>none)) fo (by kernel_rfl) func162 ⟨rfl,trivial⟩ ?_;rw [PK];dsimp only [List.map,In.env,aA,aB];refine aC (aE9 l B hl hB hB2 hs) rfl ?_;dsimp only [aA,aB];refine aC (ZW l B hl hB hB2 hs) rfl ?_;exact aL rfl
abbrev oS (a b c d:Rat):List Rat:=[a*c,a*d,b*c,b*d]
def tY (a b c d:Rat):Rat:=tM (oS a b c d) 4
def tA (a b c d:Rat):Rat:=lT (oS a b c d) 4
theorem Aj {a b c d:Rat} {A B:Nat} (ha:Fit A a) (hb:Fit A b) (hc:Fit B c) (hd:Fit B d):∀ x∈oS a b c d,Fit (A+B) x:=fun x hx=>by
 simp only [oS,List.mem_cons,List.not_mem_nil,or_false] at hx;rcases hx with rfl | rfl | rfl | rfl
 ·exact ha.mul hc
 ·exact ha.mul hd
 ·exact hb.mul hc
 ·exact hb.mul hd
theorem Om {a b c d:Rat} {A B:Nat} (h1:1≤A) (ha:Fit A a) (hb:Fit A b) (hc:Fit B c) (hd:Fit B d):Fit (A+B) (tY a b c d)∧Fit (A+B) (tA a b c d):=
 ⟨Iw (by omega) (Aj ha hb hc hd) 4 (by simp),xD (by omega) (Aj ha hb hc hd) 4 (by simp)⟩
theorem af4 (a b c d:Rat) (A B:Nat) (h1:1≤A) (ha:Fit A a) (hb:Fit A b) (hc:Fit B c) (hd:Fit B d) (h:A+B≤4294967296):aK prog 156 [(.one (.fX 36 []):aG),(BG a b:aG),(BG c d:aG)] (.ret [BG (tY a b c d) (tA a b c d)]):=by
 refine aD (args:=[.v none, .v (some 6), .v (some 6)]) (ins:=[.v (.one (.fX 36 [])), .v (BG a b), .v (BG c d)]) (hints:=(fun _=>none)) fo (by kernel_rfl) func156 ⟨rfl,rfl,rfl,trivial⟩ ?_;rw [ak1];dsimp only [List.map,In.env,aA,aB];refine tP (f:=36) (caps:=[]) rfl (cP a c A B ha hc (by omega)) rfl ?_;dsimp only [aA,aB];refine tP (f:=36) (caps:=[]) rfl (cP a d A B ha hd (by omega)) rfl ?_;dsimp only [aA,aB];refine tP (f:=36) (caps:=[]) rfl (cP b c A B hb hc (by omega)) rfl ?_;dsimp only [aA,aB];refine tP (f:=36) (caps:=[]) rfl (cP b d A B hb hd (by omega)) rfl ?_;dsimp only [aA,aB];refine dC (us:=rQ (oS a b c d)) rfl ?_;dsimp only [aA,aB];refine aC (Pa (oS a b c d) (A+B) (Aj ha hb hc hd) (by omega) (by omega) (by simp)) rfl ?_;exact aL rfl
theorem av2 (a b c d:Rat) (A B:Nat) (h1:1≤A) (ha:Fit A a) (hb:Fit A b) (hc:Fit B c) (hd:Fit B d) (h:A+B≤4294967296):aK prog 67 [(BG a b:aG),(BG c d:aG)] (.ret [BG (tY a b c d) (tA a b c d)]):=by
 refine aD (args:=[.v (some 6), .v (some 6)]) (ins:=[.v (BG a b), .v (BG c d)]) (hints:=(fun _=>none)) fo (by kernel_rfl) func67 ⟨rfl,rfl,trivial⟩ ?_;rw [ai4];dsimp only [List.map,In.env,aA,aB];refine aC (af4 a b c d A B h1 ha hb hc hd h) rfl ?_;exact aL rfl
end Go.Sy
