/- The greatest of a list; powers, widths of the reference. The reference's reach.
-/
import Derived.Test.YtdmcadckdnnglaaGreatDoorVa
import Derived.Test.YtdmcadckdnnglaaGreatDoorQf
set_option linter.unusedVariables false
set_option linter.unusedSimpArgs false
namespace Go.Sy
open Go Go.Proofs Tryz Ord
def ab2:Tr:=aU .gtr 3 3 0 0 0 4 (.ret [(W 1 0)])
theorem Yt:aN prog f259 (fun _=>none) [.v none]=ab2:=by kernel_rfl
def af2:Tr:=aU .eql 3 15 0 3 0 4 (.split (.u 10 0) (aU .add 3 10 1 3 0 3 (.back 0 [lV 11 0,lV 9 0,lV 9 1,lV 9 2])) (aK 38 [(G3 9),(.agg [(U 4 0),(U 5 0),(U 6 0)])] [none] [19,20] [39,39] 3 false (.need (.callv (.u 0 0) [(W 11 0)] [none]) (.call ⟨.value (tT 18),#[(tT 21)],#[3]⟩) 4 true (.split (.u 12 0) (aU .add 3 10 1 3 0 3 (.back 0 [lV 13 0,lV 9 0,lV 9 1,lV 9 2])) (aU .add 3 10 1 3 0 3 (.back 0 [lV 13 0,lV 4 0,lV 5 0,lV 6 0]))))))
def aw0:Tr:=cB 1 0 8 40 (.loop 0 [lK 0,lN,(.w (.one (.c (.k (.bool false))))),lN] (bJ .lss 3 10 9 3 0 2 0 0 (.split (.u 7 0) (eD 1 0 3 0 40 8 10 (dI 8 0 (some 3) 39 13 af2)) (.ret [(.agg [(U 4 0),(U 5 0),(U 6 0)])]))))
theorem Sd:aN prog f258 (fun _=>none) [.v none, .v none]=aw0:=by kernel_rfl
def al0:Tr:=.need (.call 258 [(.one (.gT 259 [])),(W 0 0)] [(some 3)]) (.call ⟨.value (.func 258),#[(.func 259),(tT 3)],#[305,40]⟩) 39 true (.ret [(G3 1)])
theorem aQ4:aN prog f208 (fun _=>none) [.v none]=al0:=by kernel_rfl
def XP:Tr:=aK 47 [(G4 10),(.agg [(U 2 0),(U 3 0),(U 4 0),(U 5 0)])] [none] [17,18] [49,49] 3 false (aU .gtr 3 19 0 11 0 4 (.split (.u 12 0) (eD 0 0 1 0 50 22 23 (dI 13 0 (some 4) 49 24 (aU .add 3 9 1 1 0 3 (.back 0 [lV 15 0,lV 14 0,lV 14 1,lV 14 2,lV 14 3])))) (aU .add 3 9 1 1 0 3 (.back 0 [lV 13 0,lV 2 0,lV 3 0,lV 4 0,lV 5 0]))))
def ZY:Tr:=.split (.u 7 0) (aU .eql 3 11 0 1 0 4 (.split (.u 8 0) (eD 0 0 1 0 50 22 23 (dI 9 0 (some 4) 49 24 (aU .add 3 9 1 1 0 3 (.back 0 [lV 11 0,lV 10 0,lV 10 1,lV 10 2,lV 10 3])))) (eD 0 0 1 0 50 14 15 (dI 9 0 (some 4) 49 16 XP)))) (.ret [(.agg [(U 2 0),(U 3 0),(U 4 0),(U 5 0)])])
def ao6:Tr:=.loop 0 [lK 0,lK 0,lN,lK 0,lN] (cB 0 0 6 50 (bJ .lss 3 5 7 1 0 6 0 4 ZY))
theorem aq5:aN prog f140 (fun _=>none) [.v none]=ao6:=by kernel_rfl
def aj4:Tr:=bJ .gtr 3 15 16 7 0 1 0 4 (.split (.u 8 0) (eD 0 0 2 0 44 18 19 (dI 9 0 none 167 20 (aK 96 [(W 10 0)] [none] [21] [167] 3 true (aU .add 3 9 1 2 0 3 (.back 0 [lV 11 0,lV 12 0]))))) (aU .add 3 9 1 2 0 3 (.back 0 [lV 1 0,lV 9 0])))
def ap0:Tr:=cB 0 0 6 44 (bJ .lss 3 5 7 2 0 3 0 4 (.split (.u 4 0) (eD 0 0 2 0 44 11 12 (dI 5 0 none 167 13 (aK 96 [(W 6 0)] [none] [14] [167] 3 false aj4))) (cB 0 0 23 44 (aU .sub 3 24 1 5 0 3 (bJ .add 3 25 26 6 0 1 0 3 (.ret [(W 7 0)]))))))
def au2:Tr:=.loop 0 [lK 0,lK 0] ap0
theorem VG:aN prog f127 (fun _=>none) [.v none]=au2:=by kernel_rfl
def ai8:Tr:=aK 126 [(G4 0),(W 3 0)] [(some 4)] [9,11] [49,3] 49 true (aK 104 [(G4 4),(G4 4)] [(some 4)] [13,14] [49,49] 49 true (aU .rem 3 16 2 1 0 3 (aU .eql 3 17 1 6 0 4 (.split (.u 7 0) (aK 104 [(G4 5),(G4 0)] [(some 4)] [19,20] [49,49] 49 true (.ret [(G4 8)])) (.ret [(G4 5)])))))
def ZO:Tr:=aU .eql 3 6 0 1 0 4 (.split (.u 2 0) (.need (.call 50 [(WK 1)] [(some 4)]) (.call ⟨.value (.func 50),#[(.const (I3 1))],#[2]⟩) 49 true (.ret [(G4 3)])) (aU .quo 3 10 2 1 0 3 ai8))
theorem RC:aN prog f126 (fun _=>none) [.v (some 4), .v none]=ZO:=by kernel_rfl
def pO (l:List Rat):Nat→Rat
 | 0=>0
 | i+1=>if i=0∨pO l i<l.getD i 0 then l.getD i 0 else pO l i
def rE (l:List RQ):Nat→RQ
 | 0=>.nil
 | i+1=>if i=0∨(rE l i).q<(l.getD i .nil).q then l.getD i .nil else rE l i
theorem TX (l:List RQ) (i:Nat):(l.getD i .nil).q=(l.map RQ.q).getD i 0:=by
 rw [List.getD_eq_getElem?_getD,List.getD_eq_getElem?_getD,List.getElem?_map];cases l[i]? <;> rfl
theorem AW (l:List RQ):∀ i,(rE l i).q=pO (l.map RQ.q) i
 | 0=>rfl
 | i+1=>by
   rw [rE,pO,AW l i,TX];split
   ·exact TX l i
   ·exact AW l i
theorem HS {l:List Rat}:∀ i,i≤l.length→pO l i=0∨pO l i∈l
 | 0,_=>.inl rfl
 | i+1,h=>by
   rw [pO];split
   ·exact .inr (List.mem_of_getElem? (cW (show i<l.length by omega)))
   ·exact HS i (by omega)
theorem rS {l:List Rat} {B:Nat} (hB:1≤B) (h:∀ x∈l,Fit B x) (i:Nat) (hi:i≤l.length):Fit B (pO l i):=by
 rcases HS i hi with e | e
 ·rw [e];exact Fit.zero hB
 ·exact h _ e
theorem Gf {a b:Rat}:0<lE a b↔b<a:=by
 unfold lE;by_cases h1:a<b
 ·rw [if_pos h1];exact ⟨fun h=>by omega,fun h=>by grind⟩
 ·rw [if_neg h1];by_cases h2:b<a
  ·rw [if_pos h2];exact ⟨fun _=>h2,fun _=>by omega⟩
  ·rw [if_neg h2];exact ⟨fun h=>by omega,fun h=>absurd h h2⟩
theorem XK (c:Int):aM prog 259 [(.one (.int .i64 c):aF)] (.ret [.one (.bool (decide (0<c)))]):=by
 refine aD (args:=[.v none]) (ins:=[.v (.one (.int .i64 c))]) (hints:=(fun _=>none)) fo (by kernel_rfl) func259 ⟨rfl,trivial⟩ ?_;rw [Yt];dsimp only [List.map,In.env,aB,aA];refine vn dB rfl ?_;exact aL rfl
theorem RF (l:List Rat) (B:Nat) (hl:∀ x∈l,Fit B x) (hB:1≤B) (hB2:B≤8589934592) (hs:l.length<1099511627776):aM prog 258 [(.one (.gT 259 []):aF),(.one (sQ l):aF)] (.ret [qT (pO l l.length)]):=by
 refine aD (args:=[.v none, .v none]) (ins:=[.v (.one (.gT 259 [])), .v (.one (sQ l))]) (hints:=(fun _=>none)) fo (by kernel_rfl) func258 ⟨rfl,rfl,trivial⟩ ?_;rw [Sd];dsimp only [List.map,In.env,aB,aA];refine vn (aP CJ (List.length_map _)) rfl ?_;dsimp only [aB,aA];refine bC {i:Nat // i≤l.length} (fun g=>(.one (.int .i64 g.1):aF)::(qC (pO l g.1)).map .one) (fun g=>l.length-g.1) ⟨0,Nat.zero_le _⟩ ⟨aF.Sub.same,sY⟩ (fun _=>rfl) ?_;rintro ⟨i,hi⟩;dsimp only [aB,aA,List.map] at hi ⊢;refine vn bB rfl ?_;dsimp only [aB,aA];refine vs _ rfl (fun h3=>?_) (fun h3=>?_)
 ·have hil:i<l.length:=by omega
  have hfx:=hl _ (List.mem_of_getElem? (cW hil));have hfm:=rS hB hl i hi;refine vn (aW CJ (by omega) (Int.toNat_natCast i) (cW hil)) rfl ?_;dsimp only [aB,aA];refine vn (bO sS (by decide) (by simp) (.inl rfl)) rfl ?_;dsimp only [aB,aA];refine vn bL rfl ?_;dsimp only [aB,aA];refine vs _ rfl (fun h7=>?_) (fun h7=>?_)
  ·refine vn (aE (by omega) (by omega)) rfl ?_;dsimp only [aB,aA]
   exact aR rfl ⟨⟨i+1,by omega⟩,(by
    dsimp only;rw [pO,if_pos (.inl (by omega))];exact aO.rfl),by show l.length-(i+1)<l.length-i;omega⟩
  refine aC (uZ _ _ B B hfx hfm (by omega)) rfl ?_;dsimp only [aB,aA];refine Kx (f:=259) (caps:=[]) rfl (XK (lE (l.getD i 0) (pO l i))) rfl ?_;dsimp only [aB,aA];refine vs _ rfl (fun h12=>?_) (fun h12=>?_)
  ·refine vn (aE (by omega) (by omega)) rfl ?_;dsimp only [aB,aA]
   exact aR rfl ⟨⟨i+1,by omega⟩,(by
    dsimp only;rw [pO,if_pos (.inr (Gf.1 h12))];exact aO.rfl),by show l.length-(i+1)<l.length-i;omega⟩
  refine vn (aE (by omega) (by omega)) rfl ?_;dsimp only [aB,aA]
  exact aR rfl ⟨⟨i+1,by omega⟩,(by
   dsimp only;rw [pO,if_neg (by rintro (h | h);omega;exact h12 (Gf.2 h))];exact aO.rfl),by show l.length-(i+1)<l.length-i;omega⟩
 rw [show l.length=i by omega];exact aL rfl
theorem aP6 (l:List Rat) (B:Nat) (hl:∀ x∈l,Fit B x) (hB:1≤B) (hB2:B≤8589934592) (hs:l.length<1099511627776):aM prog 208 [(.one (sQ l):aF)] (.ret [qT (pO l l.length)]):=by
 refine aD (args:=[.v none]) (ins:=[.v (.one (sQ l))]) (hints:=(fun _=>none)) fo (by kernel_rfl) func208 ⟨rfl,trivial⟩ ?_;rw [aQ4];dsimp only [List.map,In.env,aB,aA];refine aC (RF l B hl hB hB2 hs) rfl ?_;exact aL rfl
theorem au0 (l:List RQ) (B:Nat) (hl:∀ x∈l,Fit B x.q) (hB:1≤B) (hB2:B≤1073741824) (hs:l.length<1099511627776):aM prog 140 [(.one (sR l):aF)] (.ret [dE (rE l l.length)]):=by
 refine aD (args:=[.v none]) (ins:=[.v (.one (sR l))]) (hints:=(fun _=>none)) fo (by kernel_rfl) func140 ⟨rfl,trivial⟩ ?_;rw [aq5];dsimp only [List.map,In.env,aB,aA]
 have hlq:∀ x∈l.map RQ.q,Fit B x:=fun x hx=>by
  obtain ⟨y,hy,rfl⟩:=List.mem_map.1 hx;exact hl y hy
 refine bC {i:Nat // i≤l.length} (fun g=>(.one (.int .i64 g.1):aF)::(rC (rE l g.1)).map .one) (fun g=>l.length-g.1) ⟨0,Nat.zero_le _⟩ ⟨aF.Sub.same,jL.1,jL.2.1,jL.2.2.1,jL.2.2.2.1,trivial⟩ (fun _=>rfl) ?_;rintro ⟨i,hi⟩;dsimp only [aB,aA,List.map] at hi ⊢;refine vn (aP La (List.length_map _)) rfl ?_;dsimp only [aB,aA];refine vn bB rfl ?_;dsimp only [aB,aA];refine vs _ rfl (fun h3=>?_) (fun h3=>?_)
 ·obtain ⟨x,hx⟩:∃ x,l[i]? = some x:=⟨_,List.getElem?_eq_getElem (by omega)⟩
  have hgx:l.getD i .nil=x:=by rw [List.getD_eq_getElem?_getD,hx];rfl
  refine vn bL rfl ?_;dsimp only [aB,aA];refine vs _ rfl (fun h5=>?_) (fun h5=>?_)
  ·refine vn (aW La (by omega) (by omega) hx) rfl ?_;dsimp only [aB,aA];refine vn (bO qG (by decide) (by simp) (.inl rfl)) rfl ?_;dsimp only [aB,aA];refine vn (aE (by omega) (by omega)) rfl ?_;dsimp only [aB,aA]
   exact aR rfl ⟨⟨i+1,by omega⟩,(by
    dsimp only;rw [show rE l (i+1)=x from (if_pos (.inl (by omega))).trans hgx];exact aO.rfl),by show l.length-(i+1)<l.length-i;omega⟩
  refine vn (aW La (by omega) (by omega) hx) rfl ?_;dsimp only [aB,aA];refine vn (bO qG (by decide) (by simp) (.inl rfl)) rfl ?_;dsimp only [aB,aA];refine aC (BM x (rE l i) B B (hl x (List.mem_of_getElem? hx)) (by rw [AW];exact rS hB hlq i (by rw [List.length_map];exact hi)) (by omega)) rfl ?_;dsimp only [aB,aA];refine vn dB rfl ?_;dsimp only [aB,aA];refine vs _ rfl (fun h14=>?_) (fun h14=>?_)
  ·refine vn (aW La (by omega) (by omega) hx) rfl ?_;dsimp only [aB,aA];refine vn (bO qG (by decide) (by simp) (.inl rfl)) rfl ?_;dsimp only [aB,aA];refine vn (aE (by omega) (by omega)) rfl ?_;dsimp only [aB,aA]
   exact aR rfl ⟨⟨i+1,by omega⟩,(by
    dsimp only;rw [show rE l (i+1)=x from (if_pos (.inr (by rw [hgx];exact Gf.1 h14))).trans hgx];exact aO.rfl),by show l.length-(i+1)<l.length-i;omega⟩
  refine vn (aE (by omega) (by omega)) rfl ?_;dsimp only [aB,aA]
  exact aR rfl ⟨⟨i+1,by omega⟩,(by
   dsimp only;rw [show rE l (i+1)=rE l i from if_neg (by rintro (h | h);omega;rw [hgx] at h;exact h14 (Gf.2 h))];exact aO.rfl),by show l.length-(i+1)<l.length-i;omega⟩
 rw [show l.length=i by omega];exact aL rfl
theorem LQ (q:List (List RQ)) (hq:∀ p∈q,p.length<1099511627776) (hql:q.length<1099511627776):aM prog 127 [(.one (eR q):aF)] (.ret [.one (.int .i64 ((q.length:Int)-1+(bA (fG q):Nat)))]):=by
 refine aD (args:=[.v none]) (ins:=[.v (.one (eR q))]) (hints:=(fun _=>none)) fo (by kernel_rfl) func127 ⟨rfl,trivial⟩ ?_;rw [VG];dsimp only [List.map,In.env,aB,aA];refine bC {i:Nat // i≤q.length} (fun g=>[.one (.int .i64 ((bA (fG (q.take g.1)):Nat):Int)), .one (.int .i64 g.1)]) (fun g=>q.length-g.1) ⟨0,Nat.zero_le _⟩ aO.rfl (fun _=>rfl) ?_;rintro ⟨i,hi⟩;dsimp only [aB,aA] at hi ⊢
 have hd:=pN (N:=1099511627776) (fG (q.take i)) fun p hp=>by
  obtain ⟨p',hp',rfl⟩:=List.mem_map.1 hp;rw [List.length_map];exact Nat.le_of_lt (hq p' (List.mem_of_mem_take hp'))
 refine vn (aP jN (List.length_map _)) rfl ?_;dsimp only [aB,aA];refine vn bB rfl ?_;dsimp only [aB,aA];refine vs _ rfl (fun h3=>?_) (fun h3=>?_)
 ·obtain ⟨p,hp⟩:∃ p,q[i]? = some p:=⟨_,List.getElem?_eq_getElem (by omega)⟩
  have hpl:=hq p (List.mem_of_getElem? hp);have he:fG (q.take (i+1))=fG (q.take i) ++ [p.map RQ.q]:=by rw [List.take_add_one,hp];simp [fG]
  have hm:bA (fG (q.take (i+1)))=max (bA (fG (q.take i))) (dH HR p-1):=by rw [he,Am,←HW]
  refine vn (aW jN (by omega) (by omega) hp) rfl ?_;dsimp only [aB,aA];refine vn (bF mI) rfl ?_;dsimp only [aB,aA];refine aC (uA p hpl) rfl ?_;dsimp only [aB,aA];refine vn dB rfl ?_;dsimp only [aB,aA];refine vs _ rfl (fun h8=>?_) (fun h8=>?_)
  ·refine vn (aW jN (by omega) (by omega) hp) rfl ?_;dsimp only [aB,aA];refine vn (bF mI) rfl ?_;dsimp only [aB,aA];refine aC (uA p hpl) rfl ?_;dsimp only [aB,aA];refine vn (aE (by omega) (by omega)) rfl ?_;dsimp only [aB,aA];exact aR rfl ⟨⟨i+1,by omega⟩,aO.of_eq (by dsimp only;rw [hm,show max (bA (fG (q.take i))) (dH HR p-1)=dH HR p-1 by omega,show ((dH HR p-1:Nat):Int)=(dH HR p:Int)-1 by omega];rfl),by show q.length-(i+1)<q.length-i;omega⟩
  refine vn (aE (by omega) (by omega)) rfl ?_;dsimp only [aB,aA];exact aR rfl ⟨⟨i+1,by omega⟩,aO.of_eq (by dsimp only;rw [hm,show max (bA (fG (q.take i))) (dH HR p-1)=bA (fG (q.take i)) by omega];rfl),by show q.length-(i+1)<q.length-i;omega⟩
 rw [show i=q.length by omega,List.take_length] at hd ⊢;refine vn (aP jN (List.length_map _)) rfl ?_;dsimp only [aB,aA];refine vn (aG (by omega) (by omega)) rfl ?_;dsimp only [aB,aA];refine vn (aE (by omega) (by omega)) rfl ?_;exact aL rfl
theorem Ow {x:Rat} {n:Nat} (h:n%2=0):x^(n/2)*x^(n/2)=x^n:=by rw [←lX,show n/2+n/2=n by omega]
theorem TI {x:Rat} {n:Nat} (h:n%2=1):x^(n/2)*x^(n/2)*x=x^n:=by
 rw [←lX,←Rat.pow_succ,show n/2+n/2+1=n by omega]
theorem NU (x:RQ) (n B:Nat) (hn:n<4611686018427387904) (hB:B≤1073741824) (hx1:Fit B x.q) (hf:∀ j,j≤n→Fit B (x.q^j)) (ih:0<n→aM prog 126 [dE x, .one (.int .i64 (n/2:Nat))] (.ret [dE (.of (x.q^(n/2)))])):aM prog 126 [(dE x:aF),(.one (.int .i64 n):aF)] (.ret [dE (.of (x.q^n))]):=by
 refine aD (args:=[.v (some 4), .v none]) (ins:=[.v (dE x), .v (.one (.int .i64 n))]) (hints:=(fun _=>none)) fo (by kernel_rfl) func126 ⟨rfl,rfl,trivial⟩ ?_;rw [RC];dsimp only [List.map,In.env,aB,aA];refine vn bL rfl ?_;dsimp only [aB,aA];refine vs _ rfl (fun h1=>?_) (fun h1=>?_)
 ·refine aC (iL 1 (by omega) (by omega)) rfl ?_;dsimp only [aB,aA];rw [show n=0 by omega,Rat.pow_zero];exact aL rfl
 refine vn (gM (by omega) (by omega) (by omega)) rfl ?_;dsimp only [aB,aA];rw [show (n:Int)/2=((n/2:Nat):Int) by omega];refine aC (ih (by omega)) rfl ?_;dsimp only [aB,aA];refine aC (eW (.of (x.q^(n/2))) (.of (x.q^(n/2))) B B (hf _ (by omega)) (hf _ (by omega)) (by omega)) rfl ?_;rw [show (RQ.of (x.q^(n/2))).q*(RQ.of (x.q^(n/2))).q=x.q^(n/2)*x.q^(n/2) from rfl];dsimp only [aB,aA];refine vn (fL (by omega) (by omega)) rfl ?_;dsimp only [aB,aA];refine vn bL rfl ?_;dsimp only [aB,aA];refine vs _ rfl (fun h9=>?_) (fun h9=>?_)
 ·have hev:x.q^(n/2)*x.q^(n/2)=x.q^(n/2+n/2):=(lX _ _ _).symm;refine aC (eW (.of (x.q^(n/2)*x.q^(n/2))) x B B (by rw [RQ.rM,hev];exact hf _ (by omega)) hx1 (by omega)) rfl ?_;rw [show (RQ.of (x.q^(n/2)*x.q^(n/2))).q*x.q=x.q^n from TI (by omega)];exact aL rfl
 rw [Ow (by omega)];exact aL rfl
theorem kK (x:RQ) (B:Nat) (hB:B≤1073741824) (hx1:Fit B x.q):∀ n:Nat,n<4611686018427387904→(∀ j,j≤n→Fit B (x.q^j))→aM prog 126 [dE x, .one (.int .i64 n)] (.ret [dE (.of (x.q^n))]):=by
 intro n
 induction n using Nat.strongRecOn with
 | _ n ih=>
 intro hn hf;have key:=NU x n B hn hB hx1 hf (fun h0=>ih (n/2) (Nat.div_lt_self h0 (by omega)) (by omega) (fun j hj=>hf j (by omega)));exact key
open Go Go.Proofs Tryz Ord
def XJ:Tr:=dI 32 0 (some 4) 49 48 (aK 60 [(G4 33)] [(some 4)] [49] [49] 49 false (aK 126 [(.agg [(U 17 0),(U 18 0),(U 19 0),(U 20 0)]),(W 21 0)] [(some 4)] [51,52] [49,3] 49 false (aK 104 [(G4 34),(G4 35)] [(some 4)] [50,53] [49,49] 49 true (aK 48 [(.agg [(U 22 0),(U 23 0),(U 24 0),(U 25 0)]),(G4 36)] [(some 4)] [42,54] [49,49] 49 true (aU .add 3 40 1 21 0 3 (.back 1 [lV 38 0,lV 37 0,lV 37 1,lV 37 2,lV 37 3]))))))
def Wh:Tr:=aK 50 [(W 68 0)] [(some 4)] [117] [2] 49 false (bJ .sub 3 119 120 4 0 42 0 3 (aK 126 [(G4 69),(W 70 0)] [(some 4)] [118,121] [49,3] 49 false (aK 102 [(G4 66),(G4 71)] [(some 4)] [113,122] [49,49] 49 true (aK 48 [(.agg [(U 49 0),(U 50 0),(U 51 0),(U 52 0)]),(G4 72)] [(some 4)] [97,123] [49,49] 49 true (aU .add 3 88 1 48 0 3 (.back 2 [lV 74 0,lV 73 0,lV 73 1,lV 73 2,lV 73 3]))))))
def Ux:Tr:=aK 60 [(G4 61)] [(some 4)] [104] [49] 49 false (bJ .add 3 107 108 4 0 48 0 3 (bJ .sub 3 109 110 63 0 42 0 3 (aK 126 [(.agg [(U 17 0),(U 18 0),(U 19 0),(U 20 0)]),(W 64 0)] [(some 4)] [106,111] [49,3] 49 false (aK 104 [(G4 62),(G4 65)] [(some 4)] [105,112] [49,49] 49 false (bJ .sub 3 114 115 36 0 4 0 3 (aU .add 3 116 1 67 0 3 Wh))))))
def XE:Tr:=aK 50 [(W 69 0)] [(some 4)] [117] [2] 49 false (bJ .sub 3 119 120 4 0 42 0 3 (aK 126 [(G4 70),(W 71 0)] [(some 4)] [118,121] [49,3] 49 false (aK 102 [(G4 67),(G4 72)] [(some 4)] [113,122] [49,49] 49 true (aK 48 [(.agg [(U 49 0),(U 50 0),(U 51 0),(U 52 0)]),(G4 73)] [(some 4)] [97,123] [49,49] 49 true (aU .add 3 88 1 48 0 3 (.back 2 [lV 75 0,lV 74 0,lV 74 1,lV 74 2,lV 74 3]))))))
def YA:Tr:=aK 60 [(G4 62)] [(some 4)] [104] [49] 49 false (bJ .add 3 107 108 4 0 48 0 3 (bJ .sub 3 109 110 64 0 42 0 3 (aK 126 [(.agg [(U 17 0),(U 18 0),(U 19 0),(U 20 0)]),(W 65 0)] [(some 4)] [106,111] [49,3] 49 false (aK 104 [(G4 63),(G4 66)] [(some 4)] [105,112] [49,49] 49 false (bJ .sub 3 114 115 36 0 4 0 3 (aU .add 3 116 1 68 0 3 XE))))))
def XX:Tr:=.split (.u 57 0) (eD 2 0 42 0 44 98 99 (dI 58 0 none 167 100 (eD 59 0 48 0 167 101 102 (dI 60 0 (some 4) 49 103 Ux)))) (aU .gtr 3 94 0 48 0 4 (.split (.u 58 0) (eD 2 0 42 0 44 98 99 (dI 59 0 none 167 100 (eD 60 0 48 0 167 101 102 (dI 61 0 (some 4) 49 103 YA)))) (aU .add 3 88 1 48 0 3 (.back 2 [lV 59 0,lV 49 0,lV 50 0,lV 51 0,lV 52 0]))))
def VU:Tr:=eD 2 0 42 0 44 82 83 (dI 53 0 none 167 84 (cB 54 0 85 167 (bJ .lss 3 81 86 48 0 55 0 4 (.split (.u 56 0) (bJ .lss 3 90 91 42 0 4 0 4 XX) (aU .add 3 79 1 42 0 3 (.back 1 [lV 57 0,lV 49 0,lV 50 0,lV 51 0,lV 52 0]))))))
def Xt:Tr:=bJ .leq 3 76 77 42 0 4 0 4 (.split (.u 47 0) (.loop 2 [lK 0,lV 43 0,lV 44 0,lV 45 0,lV 46 0] VU) (aK 47 [(.agg [(U 43 0),(U 44 0),(U 45 0),(U 46 0)]),(G4 9)] [none] [125,126] [49,49] 3 true (aU .leq 3 127 0 48 0 4 (.split (.u 49 0) (.ret [(.agg [(U 17 0),(U 18 0),(U 19 0),(U 20 0)]),(W 36 0)]) (.need (.prim [(WK 2),(W 36 0)] none) (.binOp .mul 3 (.const (I3 2)) (tT 74) 3) 3 false (.back 0 [lV 35 0,lV 50 0,lV 37 0,lV 38 0,lV 39 0,lV 40 0]))))))
def Mh:Tr:=.ret [(.agg [(tE (.int .i64 0)),tN,(tE (.int .i64 0)),tN]),(WK 0)]
def WX:Tr:=.split (.u 32 0) (aK 127 [(W 2 0)] [none] [68] [44] 3 false (bJ .add 3 69 70 33 0 4 0 3 (.loop 0 [lV 11 0,lV 34 0,lV 13 0,lV 14 0,lV 15 0,lV 16 0] (aU .leq 3 72 4096 36 0 4 (.split (.u 41 0) (.loop 1 [lK 0,lK 0,lN,lK 0,lN] Xt) Mh))))) (aU .eql 3 62 62 12 0 4 (.split (.u 33 0) Mh (.need (.call 79 [(WK 1),(WK 2)] [(some 4)]) (.call ⟨.value (.func 79),#[(.const (I3 1)),(.const (I3 2))],#[2,2]⟩) 49 true (aK 104 [(.agg [(U 17 0),(U 18 0),(U 19 0),(U 20 0)]),(G4 34)] [(some 4)] [65,66] [49,49] 49 true (aU .add 3 31 1 12 0 3 (.back 0 [lV 11 0,lV 36 0,lV 13 0,lV 14 0,lV 15 0,lV 16 0,lV 35 0,lV 35 1,lV 35 2,lV 35 3]))))))
def Vu:Tr:=dI 26 0 none 167 36 (cB 27 0 37 167 (bJ .lss 3 33 38 21 0 28 0 4 (.split (.u 29 0) (eD 2 0 4 0 44 43 44 (dI 30 0 none 167 45 (eD 31 0 21 0 167 46 47 XJ))) (aK 48 [(.agg [(U 22 0),(U 23 0),(U 24 0),(U 25 0)]),(.agg [(U 22 0),(U 23 0),(U 24 0),(U 25 0)])] [(some 4)] [56,57] [49,49] 49 false (aK 47 [(G4 30),(G4 9)] [none] [58,59] [49,49] 3 true (aU .leq 3 60 0 31 0 4 WX))))))
def ad4:Tr:=.need (.prim [(W 6 0),(WK 0)] none) (.indexAddr 167 (tT 26) (.const (I3 0))) 0 false (dI 7 0 (some 4) 49 27 (aK 60 [(G4 8)] [(some 4)] [28] [49] 49 true (.need (.call 50 [(WK 4)] [(some 4)]) (.call ⟨.value (.func 50),#[(.const (I3 4))],#[2]⟩) 49 true (.loop 0 [lK 0,lK 0,lK 0,lN,lK 0,lN,lV 10 0,lV 10 1,lV 10 2,lV 10 3] (.loop 1 [lK 1,lK 0,lN,lK 0,lN] (eD 2 0 4 0 44 34 35 Vu))))))
def az0:Tr:=aK 125 [(W 0 0),(G4 1)] [none] [17,18] [44,49] 44 true (cB 2 0 20 44 (aU .sub 3 21 1 3 0 3 (eD 2 0 4 0 44 23 24 (dI 5 0 none 167 25 ad4))))
theorem Sm:aN prog f43 (fun _=>none) [.v none, .v (some 4)]=az0:=by kernel_rfl
theorem KI:bD 0=((4:Int):Rat):=by decide +kernel
theorem Sk (h:Nat):mkRat 1 (2^(h+1))=mkRat 1 (2^h)*mkRat 1 2:=by
 rw [Rat.mkRat_mul_mkRat,Nat.pow_succ];rfl
theorem Jt:((1:Int):Rat)/((2:Int):Rat)=mkRat 1 2:=by decide +kernel
theorem Kp (h:Nat):bD h*(((1:Int):Rat)/((2:Int):Rat))=bD (h+1):=by
 rw [bD,bD,Sk,Jt,Rat.mul_assoc]
theorem WE {Q:List (List RQ)} {i:Nat} {p:List RQ} (h:Q[i]? = some p):(fG Q).getD i []=p.map RQ.q:=by
 rw [List.getD_eq_getElem?_getD,fG,List.getElem?_map,h];rfl
theorem getD_some {p:List RQ} {k:Nat} {x:RQ} (h:p[k]? = some x):(p.map RQ.q).getD k 0=x.q:=by
 rw [List.getD_eq_getElem?_getD,List.getElem?_map,h];rfl
theorem ND (p:List Rat) (k:Nat):(p.drop 1).getD k 0=p.getD (k+1) 0:=by
 rw [List.getD_eq_getElem?_getD,List.getElem?_drop,List.getD_eq_getElem?_getD,Nat.add_comm 1 k]
set_option maxHeartbeats 8000000 in
theorem Ss (e:List (List RQ)) (c:RQ) (F:Nat) (hmild:∀ p∈e,It F p [c, .of ((1:Int):Rat)]∧p.length≤1048576) (hF:F≤100000000) (hF64:64≤F) (Q:List (List RQ)) (hQ:yJ e c=Q) (q:List (List Rat)) (hq:fG Q=q) (m:Nat) (p0:List RQ) (l:RQ) (hp0:Q[m]? = some p0) (hl0:p0[0]? = some l) (B L h0 i0:Nat) (C:Jv B q m l.q L h0 (m+bA q+m) i0) (hql:q.length=m+1) (hm:m≤64) (hL:L≤1048576) (hB:B≤100000000) (h64:64≤B) (hh:h0≤63) (hlow:∀ h,h<h0→¬ kI q m l.q h) (hs:h0≤62→kI q m l.q h0) (hst:h0≤62→∀ i,i<i0→(m+bA q+m)*2^i≤4096∧¬ eS q m l.q (bD h0) ((m+bA q+m)*2^i)) (hsi:h0≤62→4096<(m+bA q+m)*2^i0∨eS q m l.q (bD h0) ((m+bA q+m)*2^i0)) (hi13:i0≤13):aM prog 43 [(.one (eR e):aF),(dE c:aF)] (if h0=63∨4096<(m+bA q+m)*2^i0 then .ret [dE .nil, .one (.int .i64 0)] else .ret [dE (.of (bD h0)), .one (.int .i64 (((m+bA q+m)*2^i0:Nat):Int))]):=by
 refine aD (args:=[.v none, .v (some 4)]) (ins:=[.v (.one (eR e)), .v (dE c)]) (hints:=(fun _=>none)) fo (by kernel_rfl) func43 ⟨rfl,rfl,trivial⟩ ?_;rw [Sm];dsimp only [List.map,In.env,aB,aA]
 have hel:e.length=m+1:=by
  have h1:(yJ e c).length=e.length:=by rw [yJ,List.length_map]
  have h2:(fG Q).length=Q.length:=iD Q;rw [hQ] at h1;rw [hq] at h2;omega
 have hQl:Q.length=m+1:=by
  have h2:(fG Q).length=Q.length:=iD Q;rw [hq] at h2;omega
 have hqi:∀ {i p},Q[i]? = some p→q.getD i []=p.map RQ.q:=fun h=>by rw [←hq];exact WE h
 have hqf:∀ {i:Nat} {p:List RQ},Q[i]? = some p→p.length≤L∧∀ x∈p,Fit B x.q:=fun {i p} h=>by
  have hmem:p.map RQ.q∈q:=by rw [←hq,fG];exact List.mem_map_of_mem (List.mem_of_getElem? h)
  obtain ⟨h1,h2⟩:=C.fq _ hmem;rw [List.length_map] at h1;exact ⟨h1,fun x hx=>h2 _ (List.mem_map_of_mem hx)⟩
 obtain ⟨hpl,hfp⟩:=hqf hp0;have hg0:=hqi hp0;have hlen1:1≤p0.length:=by have:=(List.getElem?_eq_some_iff.1 hl0).1;omega
 have hfs:=C.fs;have hfl:=dQ C.flead;rw [hg0] at hfs;have hokr:∀ h,kI q m l.q h↔qX ((p0.map RQ.q).drop 1) (bD h) (p0.length-1)+qX ((p0.map RQ.q).drop 1) (bD h) (p0.length-1)≤l.q.abs:=fun h=>by rw [kI,hg0,List.length_map]
 have hlow:∀ h,h<h0→¬ qX ((p0.map RQ.q).drop 1) (bD h) (p0.length-1)+qX ((p0.map RQ.q).drop 1) (bD h) (p0.length-1)≤l.q.abs:=fun h hh=>by rw [←hokr];exact hlow h hh
 have hs:=fun hx=>(hokr h0).1 (hs hx);have hcall:=IV e c F hmild hF hF64 (by omega);rw [hQ] at hcall;refine aC hcall rfl ?_;dsimp only [aB,aA];refine vn (aP jN (show (Q.map cR).length=m+1 by rw [List.length_map,hQl])) rfl ?_;dsimp only [aB,aA];refine vn (aG (by omega) (by omega)) rfl ?_;dsimp only [aB,aA];rw [show ((m+1:Nat):Int)-1=(m:Int) by omega];refine vn (aW jN (by omega) (Int.toNat_natCast m) hp0) rfl ?_;dsimp only [aB,aA];refine vn (bF mI) rfl ?_;dsimp only [aB,aA];refine vn (aW dX (by omega) (show (0:Int).toNat=0 from rfl) hl0) rfl ?_;dsimp only [aB,aA];refine vn (bO qG (by decide) (by simp) (.inl rfl)) rfl ?_;dsimp only [aB,aA];refine aC (rV l) rfl ?_;dsimp only [aB,aA];refine aC (iL 4 (by omega) (by omega)) rfl ?_;rw [←KI];dsimp only [aB,aA];refine bC {h:Nat // h≤h0∧h≤62} (fun g=>([.one (.int .i64 0), .one (.int .i64 g.1), .one (.int .i64 0), .one (.exact (.slice none 0 0)), .one (.int .i64 0), .one (.exact (.slice none 0 0))]:List aF)++(rC (.of (bD g.1))).map aF.one) (fun g=>h0-g.1) ⟨0,Nat.zero_le _,Nat.zero_le _⟩ aO.rfl (fun _=>rfl) ?_;rintro ⟨h,hh0,hh2⟩;dsimp only [aB,aA,List.map] at hh0 hh2 ⊢;refine bC {g:Nat×RQ // g.1+1≤p0.length∧g.2.q=qX ((p0.map RQ.q).drop 1) (bD h) g.1} (fun g=>(.one (.int .i64 ((g.1.1+1:Nat):Int)):aF)::(rC g.1.2).map .one) (fun g=>p0.length-g.1.1) ⟨(0, .nil),hlen1,rfl⟩ ⟨aF.Sub.same,jL.1,jL.2.1,jL.2.2.1,jL.2.2.2.1,trivial⟩ (fun _=>rfl) ?_;rintro ⟨⟨k,r⟩,hk,hr⟩;dsimp only [aB,aA,List.map] at hk hr ⊢;refine vn (aW jN (by omega) (Int.toNat_natCast m) hp0) rfl ?_;dsimp only [aB,aA];refine vn (bF mI) rfl ?_;dsimp only [aB,aA];refine vn (aP dX (List.length_map _)) rfl ?_;dsimp only [aB,aA];refine vn bB rfl ?_;dsimp only [aB,aA];refine vs _ rfl (fun h15=>?_) (fun h15=>?_)
 ·refine vn (aW jN (by omega) (Int.toNat_natCast m) hp0) rfl ?_;dsimp only [aB,aA];refine vn (bF mI) rfl ?_;dsimp only [aB,aA];obtain ⟨x,hx⟩:∃ x,p0[k+1]? = some x:=⟨_,List.getElem?_eq_getElem (by omega)⟩
  have hfx:=hfp x (List.mem_of_getElem? hx);have hfr:Fit B r.q:=by rw [hr];exact hfs h hh0 hh2 k (by omega)
  refine vn (aW dX (by omega) (Int.toNat_natCast (k+1)) hx) rfl ?_;dsimp only [aB,aA];refine vn (bO qG (by decide) (by simp) (.inl rfl)) rfl ?_;dsimp only [aB,aA];refine aC (rV x) rfl ?_;dsimp only [aB,aA];refine aC (kK (.of (bD h)) B (by omega) (by have:=C.frho h hh0 hh2 1 (by omega);rwa [Rat.pow_succ,Rat.pow_zero,Rat.one_mul] at this) (k+1) (by omega) (fun j hj=>C.frho h hh0 hh2 j (by omega))) rfl ?_;dsimp only [aB,aA];refine aC (eW (.of x.q.abs) (.of ((RQ.of (bD h)).q^(k+1))) B B (dQ hfx) (C.frho h hh0 hh2 (k+1) (by omega)) (by omega)) rfl ?_;dsimp only [aB,aA];refine aC (jU r _ B (B+B) hfr ((dQ hfx).mul (C.frho h hh0 hh2 (k+1) (by omega))) (by omega)) rfl ?_;dsimp only [aB,aA];refine vn (aE (by omega) (by omega)) rfl ?_;dsimp only [aB,aA]
  exact aR rfl ⟨⟨(k+1, .of (r.q+x.q.abs*bD h^(k+1))),by dsimp only;omega,by
   show r.q+x.q.abs*bD h^(k+1)=_;dsimp only;rw [qX,hr,ND,getD_some hx]⟩,aO.of_eq rfl,by show p0.length-(k+1)<p0.length-k;omega⟩
 have hkl:p0.length-1=k:=by omega
 rw [hkl] at hlow hs;have hfr:Fit B r.q:=by rw [hr];exact hfs h hh0 hh2 k (by omega)
 refine aC (jU r r B B hfr hfr (by omega)) rfl ?_;dsimp only [aB,aA];refine aC (BM _ (.of l.q.abs) (B+B+1) B (hfr.add hfr) hfl (by omega)) rfl ?_;rw [show lE (RQ.of (r.q+r.q)).q (RQ.of l.q.abs).q=lE (qX ((p0.map RQ.q).drop 1) (bD h) k+qX ((p0.map RQ.q).drop 1) (bD h) k) l.q.abs by rw [←hr];rfl];dsimp only [aB,aA];refine vn fV rfl ?_;dsimp only [aB,aA];refine vs _ rfl (fun h29=>?_) (fun h29=>?_)
 ·have hle:=fZ.1 h29
  have hheq:h=h0:=by
   rcases Nat.lt_or_ge h h0 with hl | hl
   ·exact (hlow h hl hle).elim
   ·omega
  subst hheq;replace hs:=hs hh2;replace hst:=hst hh2;replace hsi:=hsi hh2
  have hQs:∀ p∈Q,p.length<1099511627776:=fun p hp=>by
   obtain ⟨i,hi⟩:=List.getElem?_of_mem hp;have:=(hqf hi).1;omega
  have hdm:=pN (N:=1048576) q (fun p hp=>Nat.le_trans (C.fq p hp).1 hL);have hsz:=LQ Q hQs (by omega);rw [hq,hQl] at hsz;refine aC hsz rfl ?_;dsimp only [aB,aA];refine vn (aE (by omega) (by omega)) rfl ?_;rw [show ((m+1:Nat):Int)-1+(bA q:Nat)+(m:Int)=((m+bA q+m:Nat):Int) by omega];dsimp only [aB,aA];generalize hse:m+bA q+m=s at *;refine bC {i:Nat // i≤i0} (fun g=>[.one (.int .i64 0), .one (.int .i64 ((s*2^g.1:Nat):Int)), .one (.int .i64 0), .one (.exact (.slice none 0 0)), .one (.int .i64 0), .one (.exact (.slice none 0 0))]) (fun g=>i0-g.1) ⟨0,Nat.zero_le _⟩ (aO.of_eq (by rw [Nat.pow_zero,Nat.mul_one];rfl)) (fun _=>rfl) ?_;rintro ⟨i,hi⟩;dsimp only [aB,aA,List.map] at hi ⊢;have hpw:s*2^i≤s*2^13:=Nat.mul_le_mul_left _ (Nat.pow_le_pow_right (by omega) (by omega));have hs13:s≤1048704:=by omega
  have hsm:m≤s*2^i:=by
   have h1:1≤2^i:=Nat.pow_pos (by omega);have h2:s*1≤s*2^i:=Nat.mul_le_mul_left _ h1;omega
  obtain ⟨z,hz⟩:∃ z,s*2^i=z:=⟨_,rfl⟩
  rw [hz] at hpw hsm ⊢;refine vn fV rfl ?_;dsimp only [aB,aA];refine vs _ rfl (fun h34=>?_) (fun h34=>?_)
  ·have hz4:z≤4096:=by omega
   have hfm:=C.fm i hi (by omega);have hfo:=C.fo i hi (by omega);rw [hz] at hfm hfo;have hN0:(((z:Int)-m+1:Int):Rat)≠0:=zne (by omega);refine bC {g:Nat×RQ // g.1≤m+1∧g.2.q=fI q m (bD h) (((z:Int)-m+1:Int):Rat) g.1} (fun g=>(.one (.int .i64 g.1.1):aF)::(rC g.1.2).map .one) (fun g=>m+1-g.1.1) ⟨(0, .nil),Nat.zero_le _,rfl⟩ ⟨aF.Sub.same,jL.1,jL.2.1,jL.2.2.1,jL.2.2.2.1,trivial⟩ (fun _=>rfl) ?_;rintro ⟨⟨a,r1⟩,ha,hr1⟩;dsimp only [aB,aA,List.map] at ha hr1 ⊢;refine vn fV rfl ?_;dsimp only [aB,aA];refine vs _ rfl (fun h37=>?_) (fun h37=>?_)
   ·obtain ⟨p,hpa⟩:∃ p,Q[a]? = some p:=⟨_,List.getElem?_eq_getElem (by omega)⟩
    have hga:=hqi hpa;obtain ⟨hpal,hpaf⟩:=hqf hpa;have hfx:=fun k=>hfm.fx a k (by omega);rw [hga] at hfx;refine bC {g:Nat×RQ // g.1≤p.length∧g.2.q=gQ (p.map RQ.q) m a (bD h) (((z:Int)-m+1:Int):Rat) (fI q m (bD h) (((z:Int)-m+1:Int):Rat) a) g.1} (fun g=>(.one (.int .i64 g.1.1):aF)::(rC g.1.2).map .one) (fun g=>p.length-g.1.1) ⟨(0,r1),Nat.zero_le _,hr1⟩ aO.rfl (fun _=>rfl) ?_;rintro ⟨⟨k,r2⟩,hk2,hr2⟩;dsimp only [aB,aA,List.map] at hk2 hr2 ⊢;refine vn (aW jN (by omega) (Int.toNat_natCast a) hpa) rfl ?_;dsimp only [aB,aA];refine vn (bF mI) rfl ?_;dsimp only [aB,aA];refine vn (aP dX (List.length_map _)) rfl ?_;dsimp only [aB,aA];refine vn bB rfl ?_;dsimp only [aB,aA];refine vs _ rfl (fun h43=>?_) (fun h43=>?_)
    ·obtain ⟨x,hx⟩:∃ x,p[k]? = some x:=⟨_,List.getElem?_eq_getElem (by omega)⟩
     have hfc:=dQ (hpaf x (List.mem_of_getElem? hx));have hfr2:Fit B r2.q:=by rw [hr2];exact hfx k (by rw [List.length_map];omega)
     have hrp:=hfm.frho (m+k-a) (by omega);have hNp:=hfm.fN (m-a) (by omega);have e1:(m:Int)+(k:Int)-(a:Int)=((m+k-a:Nat):Int):=by omega
     have e2:(m:Int)-(a:Int)=((m-a:Nat):Int):=by omega
     refine vn bB rfl ?_;dsimp only [aB,aA];refine vs _ rfl (fun h45=>?_) (fun h45=>?_)
     ·refine vn (aW jN (by omega) (Int.toNat_natCast a) hpa) rfl ?_;dsimp only [aB,aA];refine vn (bF mI) rfl ?_;dsimp only [aB,aA];refine vn (aW dX (by omega) (Int.toNat_natCast k) hx) rfl ?_;dsimp only [aB,aA];refine vn (bO qG (by decide) (by simp) (.inl rfl)) rfl ?_;dsimp only [aB,aA];refine aC (rV x) rfl ?_;dsimp only [aB,aA];refine vn (aE (by omega) (by omega)) rfl ?_;dsimp only [aB,aA];refine vn (aG (by omega) (by omega)) rfl ?_;rw [e1];dsimp only [aB,aA];refine aC (kK (.of (bD h)) B (by omega) (by have:=C.frho h hh0 hh2 1 (by omega);rwa [Rat.pow_succ,Rat.pow_zero,Rat.one_mul] at this) (m+k-a) (by omega) (fun j hj=>hfm.frho j (by omega))) rfl ?_;dsimp only [aB,aA];refine aC (eW (.of x.q.abs) (.of ((RQ.of (bD h)).q^(m+k-a))) B B hfc hrp (by omega)) rfl ?_;dsimp only [aB,aA];refine vn (aG (by omega) (by omega)) rfl ?_;dsimp only [aB,aA];refine vn (aE (by omega) (by omega)) rfl ?_;dsimp only [aB,aA];refine aC (iL ((z:Int)-m+1) (by omega) (by omega)) rfl ?_;dsimp only [aB,aA];refine vn (aG (by omega) (by omega)) rfl ?_;rw [e2];dsimp only [aB,aA];refine aC (kK (.of (((z:Int)-m+1:Int):Rat)) B (by omega) (by have:=(Fit.int (n:=(z:Int)-m+1) (B:=64) (by omega) (by omega));exact this.mono h64) (m-a) (by omega) (fun j hj=>hfm.fN j (by omega))) rfl ?_;dsimp only [aB,aA];refine aC (uY (.of (x.q.abs*bD h^(m+k-a))) (.of ((((z:Int)-m+1:Int):Rat)^(m-a))) (B+B) B (qJ hN0 _) (hfc.mul hrp) hNp (by omega)) rfl ?_;dsimp only [aB,aA];refine aC (jU r2 _ B (B+B+B) hfr2 ((hfc.mul hrp).div hNp) (by omega)) rfl ?_;dsimp only [aB,aA];refine vn (aE (by omega) (by omega)) rfl ?_;dsimp only [aB,aA]
      exact aR rfl ⟨⟨(k+1,_),by dsimp only;omega,by
       show r2.q+x.q.abs*bD h^(m+k-a)/_=_;dsimp only;rw [gQ,if_pos (.inl (by omega)),hr2,getD_some hx];rfl⟩,aO.rfl,by show p.length-(k+1)<p.length-k;omega⟩
     refine vn dB rfl ?_;dsimp only [aB,aA];refine vs _ rfl (fun h65=>?_) (fun h65=>?_)
     ·refine vn (aW jN (by omega) (Int.toNat_natCast a) hpa) rfl ?_;dsimp only [aB,aA];refine vn (bF mI) rfl ?_;dsimp only [aB,aA];refine vn (aW dX (by omega) (Int.toNat_natCast k) hx) rfl ?_;dsimp only [aB,aA];refine vn (bO qG (by decide) (by simp) (.inl rfl)) rfl ?_;dsimp only [aB,aA];refine aC (rV x) rfl ?_;dsimp only [aB,aA];refine vn (aE (by omega) (by omega)) rfl ?_;dsimp only [aB,aA];refine vn (aG (by omega) (by omega)) rfl ?_;rw [e1];dsimp only [aB,aA];refine aC (kK (.of (bD h)) B (by omega) (by have:=C.frho h hh0 hh2 1 (by omega);rwa [Rat.pow_succ,Rat.pow_zero,Rat.one_mul] at this) (m+k-a) (by omega) (fun j hj=>hfm.frho j (by omega))) rfl ?_;dsimp only [aB,aA];refine aC (eW (.of x.q.abs) (.of ((RQ.of (bD h)).q^(m+k-a))) B B hfc hrp (by omega)) rfl ?_;dsimp only [aB,aA];refine vn (aG (by omega) (by omega)) rfl ?_;dsimp only [aB,aA];refine vn (aE (by omega) (by omega)) rfl ?_;dsimp only [aB,aA];refine aC (iL ((z:Int)-m+1) (by omega) (by omega)) rfl ?_;dsimp only [aB,aA];refine vn (aG (by omega) (by omega)) rfl ?_;rw [e2];dsimp only [aB,aA];refine aC (kK (.of (((z:Int)-m+1:Int):Rat)) B (by omega) (by have:=(Fit.int (n:=(z:Int)-m+1) (B:=64) (by omega) (by omega));exact this.mono h64) (m-a) (by omega) (fun j hj=>hfm.fN j (by omega))) rfl ?_;dsimp only [aB,aA];refine aC (uY (.of (x.q.abs*bD h^(m+k-a))) (.of ((((z:Int)-m+1:Int):Rat)^(m-a))) (B+B) B (qJ hN0 _) (hfc.mul hrp) hNp (by omega)) rfl ?_;dsimp only [aB,aA];refine aC (jU r2 _ B (B+B+B) hfr2 ((hfc.mul hrp).div hNp) (by omega)) rfl ?_;dsimp only [aB,aA];refine vn (aE (by omega) (by omega)) rfl ?_;dsimp only [aB,aA]
      exact aR rfl ⟨⟨(k+1,_),by dsimp only;omega,by
       show r2.q+x.q.abs*bD h^(m+k-a)/_=_;dsimp only;rw [gQ,if_pos (.inr (by omega)),hr2,getD_some hx];rfl⟩,aO.rfl,by show p.length-(k+1)<p.length-k;omega⟩
     refine vn (aE (by omega) (by omega)) rfl ?_;dsimp only [aB,aA]
     exact aR rfl ⟨⟨(k+1,r2),by dsimp only;omega,by
      dsimp only;rw [gQ,if_neg (by omega)];exact hr2⟩,aO.rfl,by show p.length-(k+1)<p.length-k;omega⟩
    refine vn (aE (by omega) (by omega)) rfl ?_;dsimp only [aB,aA]
    exact aR rfl ⟨⟨(a+1,r2),by dsimp only;omega,by
     dsimp only;rw [fI,hga,List.length_map,show p.length=k by omega];exact hr2⟩,aO.rfl,by show m+1-(a+1)<m+1-a;omega⟩
   have haq:q.length=a:=by omega
   rw [haq] at hfo;refine aC (BM r1 (.of l.q.abs) B B (by rw [hr1];exact hfo) hfl (by omega)) rfl ?_;rw [show lE r1.q (RQ.of l.q.abs).q=lE (fI q m (bD h) (((z:Int)-m+1:Int):Rat) q.length) l.q.abs by rw [hr1,haq];rfl];dsimp only [aB,aA];refine vn fV rfl ?_;dsimp only [aB,aA];refine vs _ rfl (fun h90=>?_) (fun h90=>?_)
   ·have hle2:=fZ.1 h90
    have hieq:i=i0:=by
     rcases Nat.lt_or_ge i i0 with hl | hl
     ·exact ((hst i hl).2 (by rw [eS,hz];exact hle2)).elim
     ·omega
    subst hieq;rw [if_neg (by omega),hz];exact aL rfl
   have hilt:i<i0:=by
    rcases Nat.lt_or_ge i i0 with hl | hl
    ·exact hl
    ·exfalso
     obtain rfl:i=i0:=by omega
     rw [eS,hz] at hsi;exact h90 (fZ.2 (hsi.resolve_left (by omega)))
   refine vn (pV (by omega) (by omega)) rfl ?_;dsimp only [aB,aA]
   exact aR rfl ⟨⟨i+1,by omega⟩,aO.of_eq (by
    dsimp only;rw [Nat.pow_succ,←Nat.mul_assoc,hz,show ((z*2:Nat):Int)=2*(z:Int) by omega];rfl),by show i0-(i+1)<i0-i;omega⟩
  have hie:i=i0:=by
   rcases Nat.lt_or_ge i i0 with hl | hl
   ·have:=(hst i hl).1;omega
   ·omega
  subst hie;rw [if_pos (.inr (by omega))];exact eG ⟨jL,aF.Sub.same,trivial⟩
 have hhlt:h<h0:=by
  rcases Nat.lt_or_ge h h0 with hl | hl
  ·exact hl
  ·exfalso
   obtain rfl:h=h0:=by omega
   exact h29 (fZ.2 (hs hh2))
 refine vn bL rfl ?_;dsimp only [aB,aA];refine vs _ rfl (fun h96=>?_) (fun h96=>?_)
 ·rw [if_pos (.inl (by omega))];exact eG ⟨jL,aF.Sub.same,trivial⟩
 refine aC (Hl 1 2 (by omega) (by omega) (by omega) (by omega) (by omega)) rfl ?_;dsimp only [aB,aA];refine aC (eW (.of (bD h)) (.of (((1:Int):Rat)/((2:Int):Rat))) B 64 (by have:=C.frho h hh0 hh2 1 (by omega);rwa [Rat.pow_succ,Rat.pow_zero,Rat.one_mul] at this) (by rw [RQ.rM,Jt];decide) (by omega)) rfl ?_;rw [show (RQ.of (bD h)).q*(RQ.of (((1:Int):Rat)/((2:Int):Rat))).q=bD (h+1) from Kp h];dsimp only [aB,aA];refine vn (aE (by omega) (by omega)) rfl ?_;dsimp only [aB,aA];exact aR rfl ⟨⟨h+1,by omega,by omega⟩,aO.rfl,by show h0-(h+1)<h0-h;omega⟩
end Go.Sy
