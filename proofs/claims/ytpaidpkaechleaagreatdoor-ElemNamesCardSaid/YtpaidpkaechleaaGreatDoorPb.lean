/- Part. -/
import Derived.Test.YtpaidpkaechleaaGreatDoorRa
import Derived.Shelf.Strings.BuilderK
import Derived.Shelf.Strconv.Itoa3
import Derived.Shelf.Strings.Repeat
import Derived.RangeFuncNested
set_option linter.all false
namespace Go.Sy
open Go Go.Proofs Tryz Ord
structure rL where
 n:Int
 d:Int
 pow:Nat
structure rL.In (x:rL):Prop where
 n1:-9223372036854775808≤x.n
 n2:x.n<9223372036854775808
 d1:-9223372036854775808≤x.d
 d2:x.d<9223372036854775808
 p:x.pow<256
def rL.b (x:rL):Rat:=(x.n:Rat)/((if x.d=0 then 1 else x.d:Int):Rat)
def rL.v (x:rL):Rat:=x.b^(x.pow%4+1)
theorem _root_.Ord.Fit.pow {B:Nat} {q:Rat} (h:Fit B q) (hB:1≤B):∀ n,Fit (B*n+1) (q^n)
 | 0=>by rw [Rat.pow_zero];exact (Fit.int (n:=1) (B:=1) (by omega) (by decide)).mono (by omega)
 | n+1=>by
   rw [Rat.pow_succ];exact ((Ord.Fit.pow h hB n).mul h).mono (by rw [Nat.mul_add];omega)
theorem rL.In.fit {x:rL} (h:x.In):Fit 128 x.b:=by
 unfold rL.b;split
 ·exact (nI h.n1 h.n2).div (nI (n:=1))
 ·exact (nI h.n1 h.n2).div (nI h.d1 h.d2)
def dF (l:List rL):List Rat:=l.map rL.v
def rL.short (x:rL):Bool:=decide (x.pow%4=0∧x.n≤999 ∧ -999≤x.n∧x.d≤999 ∧ -999≤x.d)
end Go.Sy
namespace Ord
def RB (p:List Rat):Prop:=∀ a,p.getLast? = some a→a≠0
theorem RB.tail {a:Rat} {p:List Rat} (h:RB (a::p)):RB p:=fun b hb=>h b (by
 cases p with
 | nil=>cases hb
 | cons c p=>rw [List.getLast?_cons_cons];exact hb)
end Ord
namespace Ord
def Bd (D S:Nat) (q:Rat):Prop:=q.den∣D∧q.num.natAbs≤S*q.den
theorem Bd.zero {D S:Nat}:Bd D S 0:=⟨⟨D,by simp⟩,by simp⟩
theorem Bd.one {D S:Nat} (h:1≤S):Bd D S 1:=⟨⟨D,by simp⟩,by simpa using h⟩
theorem Bd.int {D S:Nat} {n:Int} (h:n.natAbs≤S):Bd D S (n:Rat):=⟨⟨D,by simp⟩,by simpa using h⟩
theorem Bd.mono {D S E T:Nat} {q:Rat} (h:Bd D S q) (hD:D∣E) (hS:S≤T):Bd E T q:=
 ⟨Nat.dvd_trans h.1 hD,Nat.le_trans h.2 (Nat.mul_le_mul_right _ hS)⟩
theorem Bd.le {D S T:Nat} {q:Rat} (h:Bd D S q) (hS:S≤T):Bd D T q:=h.mono (Nat.dvd_refl _) hS
theorem Bd.neg {D S:Nat} {q:Rat} (h:Bd D S q):Bd D S (-q):=⟨h.1,by show (-q.num).natAbs≤S*q.den;rw [Int.natAbs_neg];exact h.2⟩
theorem Bd.mk {D S:Nat} {n:Int} (h0:D≠0) (h:n.natAbs≤S*D):Bd D S (mkRat n D):=by
 rw [←Rat.normalize_eq_mkRat h0,Rat.normalize_eq h0];show D/n.natAbs.gcd D∣D∧(n/((n.natAbs.gcd D:Nat):Int)).natAbs≤S*(D/n.natAbs.gcd D);have hg:0<n.natAbs.gcd D:=Nat.gcd_pos_of_pos_right _ (by omega);have hd:=Nat.gcd_dvd_right n.natAbs D;have hn:=Nat.gcd_dvd_left n.natAbs D;generalize n.natAbs.gcd D=g at *;obtain ⟨d',rfl⟩:=hd;obtain ⟨k,hk⟩:=Int.ofNat_dvd_left.2 hn;subst hk
 constructor
 ·rw [Nat.mul_div_cancel_left _ hg];exact Nat.dvd_mul_left _ _
 ·rw [Nat.mul_div_cancel_left _ hg,Int.mul_ediv_cancel_left _ (by omega)];rw [Int.natAbs_mul,Int.natAbs_natCast,Nat.mul_left_comm] at h;exact Nat.le_of_mul_le_mul_left h hg
theorem Bd.ex {D S:Nat} {q:Rat} (h:Bd D S q) (h0:D≠0):∃ n:Int,q=mkRat n D∧n.natAbs≤S*D:=by
 obtain ⟨⟨k,rfl⟩,h2⟩:=h;have hk:k≠0:=fun e=>h0 (by rw [e,Nat.mul_zero]);refine ⟨q.num*k,?_,?_⟩
 ·rw [Nat.mul_comm q.den k,Int.mul_comm,Rat.mkRat_mul_left hk,Rat.mkRat_self]
 ·rw [Int.natAbs_mul,Int.natAbs_natCast,←Nat.mul_assoc];exact Nat.mul_le_mul_right _ h2
theorem Bd.add {D S T:Nat} {a b:Rat} (h0:D≠0) (ha:Bd D S a) (hb:Bd D T b):Bd D (S+T) (a+b):=by
 obtain ⟨m,rfl,hm⟩:=ha.ex h0;obtain ⟨n,rfl,hn⟩:=hb.ex h0
 have e:mkRat m D+mkRat n D=mkRat (m+n) D:=by
  rw [Rat.mkRat_add_mkRat m n h0 h0,←Int.add_mul,Rat.mkRat_mul_right h0]
 rw [e];refine Bd.mk h0 (Nat.le_trans (Int.natAbs_add_le _ _) ?_);rw [Nat.add_mul];exact Nat.add_le_add hm hn
theorem Bd.sub {D S T:Nat} {a b:Rat} (h0:D≠0) (ha:Bd D S a) (hb:Bd D T b):Bd D (S+T) (a-b):=by
 rw [Rat.sub_eq_add_neg];exact ha.add h0 hb.neg
theorem Bd.mul {D E S T:Nat} {a b:Rat} (h0:D≠0) (h1:E≠0) (ha:Bd D S a) (hb:Bd E T b):Bd (D*E) (S*T) (a*b):=by
 obtain ⟨m,rfl,hm⟩:=ha.ex h0;obtain ⟨n,rfl,hn⟩:=hb.ex h1;rw [Rat.mkRat_mul_mkRat];refine Bd.mk (Nat.mul_ne_zero h0 h1) ?_;rw [Int.natAbs_mul];have:=Nat.mul_le_mul hm hn;rw [Nat.mul_mul_mul_comm] at this;exact this
theorem Bd.fit {D S B:Nat} {q:Rat} (h:Bd D S q) (h0:D≠0) (h1:D<2^B) (h2:S*D<2^B):Fit B q:=by
 have hd:=Nat.le_of_dvd (by omega) h.1;exact ⟨Nat.lt_of_le_of_lt (Nat.le_trans h.2 (Nat.mul_le_mul_left _ hd)) h2,Nat.lt_of_le_of_lt hd h1⟩
end Ord
namespace Ord
theorem nR {l:List Rat} {i:Nat} (h:i<l.length):l[i]? = some (l.getD i 0):=by
 rw [List.getD_eq_getElem?_getD,List.getElem?_eq_getElem h];rfl
end Ord
namespace Go.Sy
open Go Go.Proofs Tryz Ord
abbrev rQ (ps:List Rat):List (List aL):=ps.map qC
abbrev sQ (ps:List Rat):aL:=.slice 3 (rQ ps)
theorem KR:aU aE.Sub [.one (.exact (.slice none 0 0)), .one (.bool false), .one (.exact (.slice none 0 0))] ((qC 0).map .one):=⟨dJ.1,dJ.2.1,dJ.2.2.1,trivial⟩
theorem mN:aE.Sub (.agg [.exact (.slice none 0 0), .bool false, .exact (.slice none 0 0)]) (qT 0):=⟨dJ.1,dJ.2.1,dJ.2.2.1,trivial⟩
theorem oQ {a b:Rat}:dM a b≤0↔a≤b:=by
 unfold dM;by_cases h1:a<b
 ·rw [if_pos h1];exact ⟨fun _=>by grind,fun _=>by omega⟩
 ·rw [if_neg h1];by_cases h2:b<a
  ·rw [if_pos h2];exact ⟨fun h=>by omega,fun h=>by grind⟩
  ·rw [if_neg h2];exact ⟨fun _=>by grind,fun _=>by omega⟩
open Go Go.Proofs Tryz Ord
def Wk:Tr:=.ret [(W 1 0)]
def ak2:Tr:=aX .gtr 3 3 0 0 0 4 Wk
theorem TY:aN prog f165 (fun _=>none) [.v none]=ak2:=by kernel_rfl
def aj9:Tr:=aX .eql 3 15 0 3 0 4 (.split (.u 10 0) (aX .add 3 10 1 3 0 3 (.back 0 [lV 11 0,lV 9 0,lV 9 1,lV 9 2])) (aI 68 [(G3 9),(.agg [(U 4 0),(U 5 0),(U 6 0)])] [none] [19,20] [30,30] 3 false (.need (.callv (.u 0 0) [(W 11 0)] [none]) (.call ⟨.value (tT 18),#[(tT 21)],#[3]⟩) 4 true (.split (.u 12 0) (aX .add 3 10 1 3 0 3 (.back 0 [lV 13 0,lV 9 0,lV 9 1,lV 9 2])) (aX .add 3 10 1 3 0 3 (.back 0 [lV 13 0,lV 4 0,lV 5 0,lV 6 0]))))))
def ag4:Tr:=kC 1 0 8 52 (.loop 0 [lK 0,lN,(.w (.one (.c (.k (.bool false))))),lN] (cX .lss 3 10 9 3 0 2 0 0 (.split (.u 7 0) (JN 1 0 3 0 52 8 10 (DV 8 0 (some 3) 30 13 aj9)) (.ret [(.agg [(U 4 0),(U 5 0),(U 6 0)])]))))
theorem KS:aN prog f163 (fun _=>none) [.v none, .v none]=ag4:=by kernel_rfl
def ae6:Tr:=.need (.call 163 [(.one (.dZ 165 [])),(W 0 0)] [(some 3)]) (.call ⟨.value (.func 163),#[(.func 165),(tT 3)],#[189,52]⟩) 30 true (.ret [(G3 1)])
theorem ad7:aN prog f126 (fun _=>none) [.v none]=ae6:=by kernel_rfl
def jU (l:List Rat):Nat→Rat
 | 0=>0
 | i+1=>if i=0∨jU l i<l.getD i 0 then l.getD i 0 else jU l i
theorem Ki {l:List Rat}:∀ i,i≤l.length→jU l i=0∨jU l i∈l
 | 0,_=>.inl rfl
 | i+1,h=>by
   rw [jU];split
   ·exact .inr (LJ (nR (show i<l.length by omega)))
   ·exact Ki i (by omega)
theorem mJ {l:List Rat} {B:Nat} (h:∀ x∈l,Fit B x) (i:Nat) (hi:i≤l.length) (hB:1≤B:=by omega):Fit B (jU l i):=by
 rcases Ki i hi with e | e
 ·rw [e];exact Fit.zero hB
 ·exact h _ e
theorem SO {a b:Rat}:0<dM a b↔b<a:=by
 unfold dM;by_cases h1:a<b
 ·rw [if_pos h1];exact ⟨fun h=>by omega,fun h=>by grind⟩
 ·rw [if_neg h1];by_cases h2:b<a
  ·rw [if_pos h2];exact ⟨fun _=>h2,fun _=>by omega⟩
  ·rw [if_neg h2];exact ⟨fun h=>by omega,fun h=>absurd h h2⟩
theorem Vu (c:Int):aD prog 165 [(.one (.int .i64 c):aE)] (.ret [.one (.bool (decide (0<c)))]):=by
 refine bU func165 TY ?_;apply vn bJ rfl;exact aK rfl
theorem RF (l:List Rat) (B:Nat) (hl:∀ x∈l,Fit B x) (hB:1≤B) (hB2:B≤8589934592) (hs:l.length<1099511627776):aD prog 163 [(.one (.dZ 165 []):aE),(.one (sQ l):aE)] (.ret [qT (jU l l.length)]):=by
 refine bU func163 KS ?_;apply vn (cF Ll (dL _)) rfl;refine cT {i:Nat // i≤l.length} (fun g=>(.one (.int .i64 g.1):aE)::(qC (jU l g.1)).map .one) (fun g=>l.length-g.1) ⟨0,fP _⟩ ⟨aE.Sub.same,KR⟩ (fun _=>rfl) ?_;rintro ⟨i,hi⟩;dsimp only [aF,aG,List.map] at hi ⊢;apply vn bA rfl;refine vs _ rfl ?_ ?_<;>intro h3
 ·have hil:i<l.length:=by omega
  have hfx:=hl _ (LJ (nR hil));have hfm:=mJ hl i hi hB;apply vn (gP Ll (by omega) (Int.toNat_natCast i) (nR hil)) rfl;apply vn (oV Tz (by decide) (by simp) (.inl rfl)) rfl;apply vn aC rfl;dsimp only [aF,aG];refine vs _ rfl ?_ ?_<;>intro h7
  ·apply vn (aH) rfl
   exact bF rfl ⟨⟨i+1,by omega⟩,(by
    dsimp only;rw [jU,if_pos (.inl (by omega))];exact aV.rfl),by show l.length-(i+1)<l.length-i;omega⟩
  apply aA (bE _ _ B B hfx hfm) rfl;apply mX (f:=165) (caps:=[]) rfl (Vu (dM (l.getD i 0) (jU l i))) rfl;refine vs _ rfl ?_ ?_<;>intro h12
  ·apply vn (aH) rfl
   exact bF rfl ⟨⟨i+1,by omega⟩,(by
    dsimp only;rw [jU,if_pos (.inr (SO.1 h12))];exact aV.rfl),by show l.length-(i+1)<l.length-i;omega⟩
  apply vn (aH) rfl
  exact bF rfl ⟨⟨i+1,by omega⟩,(by
   dsimp only;rw [jU,if_neg (by rintro (h | h);omega;exact h12 (SO.2 h))];exact aV.rfl),by show l.length-(i+1)<l.length-i;omega⟩
 rw [show l.length=i by omega];exact aK rfl
theorem SI (l:List Rat) (B:Nat) (hl:∀ x∈l,Fit B x) (hB:1≤B) (hB2:B≤8589934592) (hs:l.length<1099511627776):aD prog 126 [(.one (sQ l):aE)] (.ret [qT (jU l l.length)]):=by
 refine bU func126 ad7 ?_;apply aA (RF l B hl hB hB2 hs) rfl;exact aK rfl
open Go
abbrev chr (d:Nat):UInt8:=UInt8.ofNat (48+d)
def jH:Nat→Nat→List UInt8
 | 0,_=>[]
 | k+1,n=>jH k (n/10) ++ [chr (n%10)]
abbrev dec (n:Nat):List UInt8:=Lib.decDigits n
theorem rB {n:Nat} (h:n<10):dec n = [chr n]:=by rw [dec,Lib.decDigits,dif_pos h]
theorem xM {n:Nat} (h:¬ n<10):dec n=dec (n/10) ++ [chr (n%10)]:=by rw [dec,Lib.decDigits,dif_neg h]
theorem rS:∀ k n,(jH k n).length=k
 | 0,_=>rfl
 | k+1,n=>by rw [jH,eF,rS k];rfl
theorem Ks:∀ k n,jH k (n%10^k)=jH k n
 | 0,_=>rfl
 | k+1,n=>by
   have h1:n%10^(k+1)/10=n/10%10^k:=by
    rw [Nat.pow_succ,Nat.mul_comm,Nat.mod_mul_right_div_self]
   have h2:n%10^(k+1)%10=n%10:=Nat.mod_mod_of_dvd n ⟨10^k,by rw [Nat.pow_succ,Nat.mul_comm]⟩;rw [jH,jH,h1,h2,Ks k]
theorem Hj:∀ k,jH k 0=List.replicate k 48
 | 0=>rfl
 | k+1=>by rw [jH,Nat.zero_div,Hj k,Nat.zero_mod,List.replicate_succ'];rfl
theorem GH:∀ k n,0<n/10^k→dec n=dec (n/10^k)++jH k n
 | 0,n,_=>by simp [jH]
 | k+1,n,h=>by
   rw [Nat.pow_succ,Nat.mul_comm,←Nat.div_div_eq_div_mul] at h ⊢;have h10:¬ n<10:=fun hn=>by rw [Nat.div_eq_of_lt hn,Nat.zero_div] at h;omega
   rw [xM h10,GH k (n/10) h,jH,List.append_assoc]
theorem Sf {k m d:Nat} (hm:0<m) (hd:d<10^k):dec (d+10^k*m)=dec m++jH k d:=by
 have hp:0<10^k:=Nat.pow_pos (by omega);have e:(d+10^k*m)/10^k=m:=by rw [Nat.add_mul_div_left _ _ hp,Nat.div_eq_of_lt hd,Nat.zero_add]
 rw [GH k _ (by rw [e];exact hm),e,←Ks k (d+_),Nat.add_mul_mod_self_left,Nat.mod_eq_of_lt hd]
theorem gL:∀ {k n:Nat},0<k→n<10^k→(dec n).length≤k
 | k+1,n,_,h=>by
   by_cases h10:n<10
   ·rw [rB h10];simp
   ·rw [xM h10,eF];have h1:n/10<10^k:=by rw [Nat.pow_succ] at h;omega
    have hk:0<k:=by rcases Nat.eq_zero_or_pos k with rfl | h2;· simp at h;omega
                    ·exact h2
    have:=gL hk h1;simp;omega
theorem Ko:∀ {k n:Nat},0<k→n<10^k→jH k n=List.replicate (k-(dec n).length) 48++dec n
 | k+1,n,_,h=>by
   by_cases h10:n<10
   ·rw [rB h10,jH,Nat.div_eq_of_lt h10,Hj,Nat.mod_eq_of_lt h10];rfl
   ·have h1:n/10<10^k:=by rw [Nat.pow_succ] at h;omega
    have hk:0<k:=by rcases Nat.eq_zero_or_pos k with rfl | h2;· simp at h;omega
                    ·exact h2
    rw [xM h10,jH,Ko hk h1,List.append_assoc,eF]
    congr 2;simp
theorem aq6 (c:Nat):Lib.repeatL [48] c=List.replicate c 48:=by
 induction c with
 | zero=>rfl
 | succ c ih=>rw [Lib.repeatL,ih,List.replicate_succ];rfl
theorem Sj:dec 0 = [48]:=by rw [rB (by omega)];rfl
def ao9 (z:Int):List UInt8:=(if z<0 then [45] else [])++dec z.natAbs
def zZ (q:Rat):List UInt8:=ao9 q.num++if q.den=1 then [] else 47::dec q.den
open Go Go.Proofs Tryz Ord
abbrev sT (l:List UInt8):aL:=.str ⟨l.toArray⟩
abbrev bS (l:List UInt8):aE:=.one (sT l)
section
variable {P:Program} {T U ty:TypeId} {x y z:Operand}
theorem eR {a b:List UInt8} (h:a.length+b.length≤9223372036854775807):aO P (.binOp .add T x y U) ty [bS a,bS b] (bS (a++b)):=by
 have e:(⟨(a++b).toArray⟩:ByteArray)=⟨a.toArray⟩++⟨b.toArray⟩:=by
  apply ByteArray.ext;rw [ByteArray.data_append];simp
 show aO P _ ty _ (.one (.str ⟨(a++b).toArray⟩));rw [e];exact PV (by show ((a.toArray.size+b.toArray.size:Nat):Int)≤_;simp only [List.size_toArray];omega)
theorem pW (s:List UInt8) (i j:Nat):(ByteArray.mk s.toArray).extract i j=⟨((s.take j).drop i).toArray⟩:=by
 apply ByteArray.ext;rw [ByteArray.data_extract];simp [List.extract_eq_take_drop,List.drop_take]
theorem Nn {s:List UInt8} {k:IntKind} {n:Int} (hu:P.underlying T=some .string) (h0:0≤n:=by omega) (hn:n.toNat≤s.length:=by omega):aO P (.slice T x (some y) none none) ty [bS s, .one (.int k n)] (bS (s.drop n.toNat)):=by
 have hs:(ByteArray.mk s.toArray).size=s.length:=by show s.toArray.size=_;simp
 have:=TC (P:=P) (x:=x) (y:=y) (ty:=ty) (s:=⟨s.toArray⟩) (k:=k) hu h0 (by rw [hs];omega);rw [pW,hs,List.take_length] at this;exact this
theorem Hq {a b:List UInt8}:aO P (.binOp .eql T x y U) ty [bS a,bS b] (.one (.bool (decide (a=b)))):=by
 have:decide (a=b)=decide ((ByteArray.mk a.toArray).data=(ByteArray.mk b.toArray).data):=by
  rw [decide_eq_decide];exact ⟨fun h=>by rw [h],fun h=>by simpa using congrArg Array.toList h⟩
 rw [this];exact ZA
end
def ao8:Tr:=.need (.prim [(W 3 0)] none) (.unOp .not 4 (tT 15)) 4 false (.split (.u 4 0) (aI 91 [(G3 0)] [(some 1)] [18] [30] 26 false (aI 89 [(G1 5)] [none] [19] [26] 9 false (.need (.prim [(.one (.c (.k (.string ⟨#[47]⟩)))),(W 6 0)] none) (.binOp .add 9 (.const (.string ⟨#[47]⟩)) (tT 20) 9) 9 false (cX .add 9 17 21 2 0 7 0 9 (.ret [(W 8 0)]))))) (.ret [(W 2 0)]))
def Xv:Tr:=.need (.prim [(W 2 0)] none) (.unOp .not 4 (tT 15)) 4 false (.split (.u 3 0) (aI 91 [(G3 0)] [(some 1)] [18] [30] 26 false (aI 89 [(G1 4)] [none] [19] [26] 9 false (.need (.prim [(.one (.c (.k (.string ⟨#[47]⟩)))),(W 5 0)] none) (.binOp .add 9 (.const (.string ⟨#[47]⟩)) (tT 20) 9) 9 false (cX .add 9 17 21 1 0 6 0 9 (.ret [(W 7 0)]))))) Wk)
def am5:Tr:=aI 89 [(G1 0)] [none] [6] [26] 9 true (.split (.u 0 1) (.need (.prim [(.one (.c (.k (.string ⟨#[45]⟩)))),(W 1 0)] none) (.binOp .add 9 (.const (.string ⟨#[45]⟩)) (tT 11) 9) 9 false (aI 90 [(.agg [(U 0 2)])] [none] [14] [26] 4 true ao8)) (aI 90 [(.agg [(U 0 2)])] [none] [14] [26] 4 true Xv))
theorem NB:aN prog f27 (fun _=>none) [.v (some 3)]=am5:=by kernel_rfl
theorem gW {n H:Nat} (h:n<2^H):(dec n).length≤H+1:=
 gL (Nat.succ_pos H) (Nat.lt_of_lt_of_le h (Nat.le_trans (Nat.pow_le_pow_left (by omega) H) (Nat.pow_le_pow_right (by omega) (Nat.le_succ H))))
end Go.Sy
namespace Go.Proofs
open Go.Shelf
def Tryz.rO:Go.Shelf.Ren:=⟨fun | 169=>136 | n=>n,fun | 70=>160 | 9=>9 | 0=>0 | 72=>163 | 37=>161 | 127=>196 | 3=>3 | 5=>5 | n=>n,fun | n=>n⟩
theorem Tryz.TU:Go.Proofs.Lays.n169 Tryz.prog Tryz.rO:={
 mixed:=by kernel_rfl
 f169:=Tryz.func136.trans (congrArg some (by kernel_rfl))
 t0:=Tryz.underlying0
 a0:=Tryz.isAgg0
 z0:=Tryz.sizeOf0
 v0:=Tryz.zeroValue0
 t3:=Tryz.underlying3
 a3:=Tryz.isAgg3
 z3:=Tryz.sizeOf3
 v3:=Tryz.zeroValue3
 t9:=Tryz.underlying9
 a9:=Tryz.isAgg9
 z9:=Tryz.sizeOf9
 v9:=Tryz.zeroValue9
 t37:=Tryz.underlying161
 a37:=Tryz.isAgg161
 z37:=Tryz.sizeOf161
 v37:=Tryz.zeroValue161
 t70:=Tryz.underlying160
 a70:=Tryz.isAgg160
 z70:=Tryz.sizeOf160
 v70:=Tryz.zeroValue160
 t72:=Tryz.underlying163
 a72:=Tryz.isAgg163
 z72:=Tryz.sizeOf163
 v72:=Tryz.zeroValue163
 t127:=Tryz.underlying196
 a127:=Tryz.isAgg196
 z127:=Tryz.sizeOf196
 v127:=Tryz.zeroValue196 }
theorem Tryz.pT:Builder.Extra Tryz.prog Tryz.rO:={
 sizeBuilder:=by kernel_rfl
 liesBuilder:=by kernel_rfl
 t5:=Tryz.underlying5
 a5:=Tryz.isAgg5
 z5:=Tryz.sizeOf5
 v5:=Tryz.zeroValue5
 infoByte:=by kernel_rfl
 cellsByte:=by kernel_rfl
 sizeByte:=by kernel_rfl
 neB5:=by decide }
open Go.RowKit in
theorem Tryz.Builder_String_any_k (B b:Nat) (l:List UInt8) (w:World) (h:Lib.IsBuilderF 163 5 B b (Lib.byteCells l) w) (hBw:B≤w.heap.size) :
  Calls Tryz.prog 136 #[.pointer (some ⟨b,0,none⟩)] w fun e w'=>e = .returned (.string ⟨l.toArray⟩)∧(Lib.IsBuilderF 163 5 B b (Lib.byteCells l) w'∧Below B w w'∧Lib.OthersKept 5 (some b) w w'):=Any.Builder_String_any_k Tryz.TU Tryz.pT B b l w h hBw
def Tryz.IT:Go.Shelf.Ren:=⟨fun | 171=>133 | 243=>175 | 246=>196 | 283=>205 | 284=>206 | 285=>207 | 286=>208 | 129=>211 | 317=>210 | 318=>212 | 319=>213 | 320=>214 | 337=>215 | 338=>216 | n=>n,fun | 3=>3 | 9=>9 | 2=>2 | 4=>4 | 171=>214 | 0=>0 | 53=>153 | 37=>161 | 5=>5 | 173=>217 | 212=>222 | 51=>167 | 20=>20 | 213=>223 | 46=>191 | 232=>226 | 233=>227 | n=>n,fun | 17=>0 | 18=>2 | 19=>3 | n=>n⟩
theorem Tryz.Qb:Go.Proofs.LaysM.n171 Tryz.prog Tryz.IT:={
 mixed:=by kernel_rfl
 f129:=Tryz.func211.trans (congrArg some (by kernel_rfl))
 f171:=Tryz.func133.trans (congrArg some (by kernel_rfl))
 f243:=Tryz.func175.trans (congrArg some (by kernel_rfl))
 f246:=Tryz.func196.trans (congrArg some (by kernel_rfl))
 f283:=Tryz.func205.trans (congrArg some (by kernel_rfl))
 f284:=Tryz.func206.trans (congrArg some (by kernel_rfl))
 f285:=Tryz.func207.trans (congrArg some (by kernel_rfl))
 f286:=Tryz.func208.trans (congrArg some (by kernel_rfl))
 f317:=Tryz.func210.trans (congrArg some (by kernel_rfl))
 f318:=Tryz.func212.trans (congrArg some (by kernel_rfl))
 f319:=Tryz.func213.trans (congrArg some (by kernel_rfl))
 f320:=Tryz.func214.trans (congrArg some (by kernel_rfl))
 f337:=Tryz.func215.trans (congrArg some (by kernel_rfl))
 f338:=Tryz.func216.trans (congrArg some (by kernel_rfl))
 t0:=Tryz.underlying0
 a0:=Tryz.isAgg0
 z0:=Tryz.sizeOf0
 v0:=Tryz.zeroValue0
 t2:=Tryz.underlying2
 a2:=Tryz.isAgg2
 z2:=Tryz.sizeOf2
 v2:=Tryz.zeroValue2
 t3:=Tryz.underlying3
 a3:=Tryz.isAgg3
 z3:=Tryz.sizeOf3
 v3:=Tryz.zeroValue3
 t4:=Tryz.underlying4
 a4:=Tryz.isAgg4
 z4:=Tryz.sizeOf4
 v4:=Tryz.zeroValue4
 t5:=Tryz.underlying5
 a5:=Tryz.isAgg5
 z5:=Tryz.sizeOf5
 v5:=Tryz.zeroValue5
 t9:=Tryz.underlying9
 a9:=Tryz.isAgg9
 z9:=Tryz.sizeOf9
 v9:=Tryz.zeroValue9
 t20:=Tryz.underlying20
 a20:=Tryz.isAgg20
 z20:=Tryz.sizeOf20
 v20:=Tryz.zeroValue20
 t37:=Tryz.underlying161
 a37:=Tryz.isAgg161
 z37:=Tryz.sizeOf161
 v37:=Tryz.zeroValue161
 t46:=Tryz.underlying191
 a46:=Tryz.isAgg191
 z46:=Tryz.sizeOf191
 v46:=Tryz.zeroValue191
 t51:=Tryz.underlying167
 a51:=Tryz.isAgg167
 z51:=Tryz.sizeOf167
 v51:=Tryz.zeroValue167
 t53:=Tryz.underlying153
 a53:=Tryz.isAgg153
 z53:=Tryz.sizeOf153
 v53:=Tryz.zeroValue153
 t171:=Tryz.underlying214
 a171:=Tryz.isAgg214
 z171:=Tryz.sizeOf214
 v171:=Tryz.zeroValue214
 t173:=Tryz.underlying217
 a173:=Tryz.isAgg217
 z173:=Tryz.sizeOf217
 v173:=Tryz.zeroValue217
 t212:=Tryz.underlying222
 a212:=Tryz.isAgg222
 z212:=Tryz.sizeOf222
 v212:=Tryz.zeroValue222
 t213:=Tryz.underlying223
 a213:=Tryz.isAgg223
 z213:=Tryz.sizeOf223
 t232:=Tryz.underlying226
 a232:=Tryz.isAgg226
 z232:=Tryz.sizeOf226
 v232:=Tryz.zeroValue226
 t233:=Tryz.underlying227
 a233:=Tryz.isAgg227
 z233:=Tryz.sizeOf227
 v233:=Tryz.zeroValue227
 g17:=by kernel_rfl
 g18:=by kernel_rfl
 g19:=by kernel_rfl
 i0:=by kernel_rfl
 i2:=by kernel_rfl
 i3:=by kernel_rfl
 i4:=by kernel_rfl
 i5:=by kernel_rfl
 i9:=by kernel_rfl
 i20:=by kernel_rfl
 i37:=by kernel_rfl
 i46:=by kernel_rfl
 i51:=by kernel_rfl
 i53:=by kernel_rfl
 i171:=by kernel_rfl
 i173:=by kernel_rfl
 i212:=by kernel_rfl
 i232:=by kernel_rfl
 i233:=by kernel_rfl
 m17:=by kernel_rfl
 m18:=by kernel_rfl
 m19:=by kernel_rfl }
open Go.RowKit Go.Sort Go.Lib in
theorem Tryz.strconv_Itoa (n:Int) (h0:-9223372036854775808≤n) (h1:n≤9223372036854775807) (w:World) (htab:Lib.TabIs Tryz.prog w "internal/strconv.uint64pow10" .u64 Lib.pow10Tab) :
  Calls Tryz.prog 133 #[.int .i64 n] w fun e w'=>e = .returned (.string ⟨(Lib.itoa n).toArray⟩)∧∃ k os,w'=grow (w.drewN k) os:=Any.strconv_Itoa Tryz.Qb n h0 h1 w htab
def Tryz.rX:Go.Shelf.Ren:=⟨fun | 105=>135 | 212=>177 | 99=>178 | 165=>179 | 166=>134 | 170=>180 | 169=>136 | 263=>198 | 264=>199 | 206=>200 | 240=>176 | 241=>201 | 276=>197 | 277=>209 | n=>n,fun | 9=>9 | 3=>3 | 4=>4 | 20=>20 | 0=>0 | 46=>191 | 109=>192 | 5=>5 | 72=>163 | 76=>171 | 51=>167 | 146=>209 | 53=>153 | 148=>211 | 70=>160 | 37=>161 | 75=>170 | 127=>196 | 164=>207 | 80=>70 | n=>n,fun | n=>n⟩
theorem Tryz.NC:Go.Proofs.Lays.n105 Tryz.prog Tryz.rX:={
 mixed:=by kernel_rfl
 f99:=Tryz.func178.trans (congrArg some (by kernel_rfl))
 f105:=Tryz.func135.trans (congrArg some (by kernel_rfl))
 f165:=Tryz.func179.trans (congrArg some (by kernel_rfl))
 f166:=Tryz.func134.trans (congrArg some (by kernel_rfl))
 f169:=Tryz.func136.trans (congrArg some (by kernel_rfl))
 f170:=Tryz.func180.trans (congrArg some (by kernel_rfl))
 f206:=Tryz.func200.trans (congrArg some (by kernel_rfl))
 f212:=Tryz.func177.trans (congrArg some (by kernel_rfl))
 f240:=Tryz.func176.trans (congrArg some (by kernel_rfl))
 f241:=Tryz.func201.trans (congrArg some (by kernel_rfl))
 f263:=Tryz.func198.trans (congrArg some (by kernel_rfl))
 f264:=Tryz.func199.trans (congrArg some (by kernel_rfl))
 f276:=Tryz.func197.trans (congrArg some (by kernel_rfl))
 f277:=Tryz.func209.trans (congrArg some (by kernel_rfl))
 t0:=Tryz.underlying0
 a0:=Tryz.isAgg0
 z0:=Tryz.sizeOf0
 v0:=Tryz.zeroValue0
 t3:=Tryz.underlying3
 a3:=Tryz.isAgg3
 z3:=Tryz.sizeOf3
 v3:=Tryz.zeroValue3
 t4:=Tryz.underlying4
 a4:=Tryz.isAgg4
 z4:=Tryz.sizeOf4
 v4:=Tryz.zeroValue4
 t5:=Tryz.underlying5
 a5:=Tryz.isAgg5
 z5:=Tryz.sizeOf5
 v5:=Tryz.zeroValue5
 t9:=Tryz.underlying9
 a9:=Tryz.isAgg9
 z9:=Tryz.sizeOf9
 v9:=Tryz.zeroValue9
 t20:=Tryz.underlying20
 a20:=Tryz.isAgg20
 z20:=Tryz.sizeOf20
 v20:=Tryz.zeroValue20
 t37:=Tryz.underlying161
 a37:=Tryz.isAgg161
 z37:=Tryz.sizeOf161
 v37:=Tryz.zeroValue161
 t46:=Tryz.underlying191
 a46:=Tryz.isAgg191
 z46:=Tryz.sizeOf191
 v46:=Tryz.zeroValue191
 t51:=Tryz.underlying167
 a51:=Tryz.isAgg167
 z51:=Tryz.sizeOf167
 v51:=Tryz.zeroValue167
 t53:=Tryz.underlying153
 a53:=Tryz.isAgg153
 z53:=Tryz.sizeOf153
 v53:=Tryz.zeroValue153
 t70:=Tryz.underlying160
 a70:=Tryz.isAgg160
 z70:=Tryz.sizeOf160
 v70:=Tryz.zeroValue160
 t72:=Tryz.underlying163
 a72:=Tryz.isAgg163
 z72:=Tryz.sizeOf163
 v72:=Tryz.zeroValue163
 t75:=Tryz.underlying170
 a75:=Tryz.isAgg170
 z75:=Tryz.sizeOf170
 v75:=Tryz.zeroValue170
 t76:=Tryz.underlying171
 a76:=Tryz.isAgg171
 z76:=Tryz.sizeOf171
 v76:=Tryz.zeroValue171
 t109:=Tryz.underlying192
 a109:=Tryz.isAgg192
 z109:=Tryz.sizeOf192
 v109:=Tryz.zeroValue192
 t127:=Tryz.underlying196
 a127:=Tryz.isAgg196
 z127:=Tryz.sizeOf196
 v127:=Tryz.zeroValue196
 t146:=Tryz.underlying209
 a146:=Tryz.isAgg209
 z146:=Tryz.sizeOf209
 v146:=Tryz.zeroValue209
 t148:=Tryz.underlying211
 a148:=Tryz.isAgg211
 z148:=Tryz.sizeOf211
 v148:=Tryz.zeroValue211
 t164:=Tryz.underlying207
 a164:=Tryz.isAgg207
 z164:=Tryz.sizeOf207
 v164:=Tryz.zeroValue207 }
theorem Tryz.jR:Builder.Extra Tryz.prog Tryz.rX:={
 sizeBuilder:=by kernel_rfl
 liesBuilder:=by kernel_rfl
 t5:=Tryz.underlying5
 a5:=Tryz.isAgg5
 z5:=Tryz.sizeOf5
 v5:=Tryz.zeroValue5
 infoByte:=by kernel_rfl
 cellsByte:=by kernel_rfl
 sizeByte:=by kernel_rfl
 neB5:=by decide }
open Go.RowKit Go.Lib in
theorem Tryz.strings_Repeat (s:ByteArray) (c:Nat) (w:World) (hc:c≤9223372036854775807) (hlen:s.size*c≤140737488355328) :
  Calls Tryz.prog 135 #[.string s, .int .i64 c] w fun e w'=>e = .returned (.string ⟨(Lib.repeatL s.data.toList c).toArray⟩)∧Below w.heap.size w w':=Any.strings_Repeat Tryz.NC Tryz.jR s c w hc hlen
end Go.Proofs
namespace Go.Sy
open Go Go.Proofs Go.RowKit Go.Shelf Tryz Ord
attribute [local go_sem] Oper.semAt_some
abbrev D9:={d:Nat // d<1000000000}
instance:Inhabited D9:=⟨⟨0,by omega⟩⟩
abbrev Pu (d:D9):Value:=.int .u32 (d.1:Int)
def tx (L:Nat) (pre:List (Nat×D9)):List UInt8:=pre.foldl (fun t x=>t++if x.1+1<L then jH 9 x.2.1 else dec x.2.1) []
theorem sU (L:Nat) (pre:List (Nat×D9)) (x:Nat×D9):tx L (pre ++ [x])=tx L pre++if x.1+1<L then jH 9 x.2.1 else dec x.2.1:=by simp [tx]
theorem JS (L:Nat) (x:Nat×D9):(if x.1+1<L then jH 9 x.2.1 else dec x.2.1).length≤9:=by
 split
 ·rw [rS];omega
 ·exact gL (by omega) (by rw [show (10:Nat)^9=1000000000 by decide];exact x.2.2)
theorem SD (L:Nat) (pre:List (Nat×D9)):(tx L pre).length≤9*pre.length:=by
 have h:∀ (l:List (Nat×D9)) (t:List UInt8),(l.foldl (fun t x=>t++if x.1+1<L then jH 9 x.2.1 else dec x.2.1) t).length≤t.length+9*l.length:=by
  intro l
  induction l with
  | nil=>intro t;simp
  | cons x l ih=>
    intro t;have h1:=ih (t++if x.1+1<L then jH 9 x.2.1 else dec x.2.1);have h2:=JS L x;rw [eF] at h1;rw [List.foldl_cons,List.length_cons];omega
 have:=h pre []
 simpa [tx] using this
theorem Sx (vs:List D9) (h0:∀ d,vs.getLast? = some d→d.1≠0):∀ k,0<k→k≤vs.length→0<lv ((vs.map Subtype.val).drop (vs.length-k))∧tx vs.length (bk vs k)=dec (lv ((vs.map Subtype.val).drop (vs.length-k)))
 | 0,h,_=>by omega
 | k+1,_,hk=>by
   have hlt:vs.length-(k+1)<vs.length:=by omega
   have hlt':vs.length-(k+1)<(vs.map Subtype.val).length:=by rw [dL];exact hlt
   have hget:vs[vs.length-1-k]? = some vs[vs.length-(k+1)]:=by rw [show vs.length-1-k=vs.length-(k+1) by omega];exact fF hlt
   have e1:(vs.map Subtype.val).drop (vs.length-(k+1))=vs[vs.length-(k+1)].1::(vs.map Subtype.val).drop (vs.length-k):=by
    rw [List.drop_eq_getElem_cons hlt',List.getElem_map,show vs.length-(k+1)+1=vs.length-k by omega]
   rw [NM,sU,hget,Option.getD_some,e1];show 0<val 1000000000 (_::_)∧_=dec (val 1000000000 (_::_));rw [val];rcases Nat.eq_zero_or_pos k with rfl | hk0
   ·have hd:vs[vs.length-(0+1)].1≠0:=h0 _ (by rw [List.getLast?_eq_getElem?];exact hget);have e2:(vs.map Subtype.val).drop (vs.length-0) = []:=by rw [List.drop_eq_nil_iff,dL];omega
    rw [e2];dsimp only;rw [if_neg (by omega)];simp only [val,Nat.mul_zero,Nat.add_zero];exact ⟨by omega,by simp [bk,tx]⟩
   ·obtain ⟨h1,h2⟩:=Sx vs h0 k hk0 (by omega);dsimp only;rw [if_pos (by omega),h2];have h3:(vs[vs.length-(k+1)]).1<10^9:=by rw [show (10:Nat)^9=1000000000 by decide];exact vs[vs.length-(k+1)].2
    have h4:=Sf (m:=lv ((vs.map Subtype.val).drop (vs.length-k))) h1 h3;rw [show (10:Nat)^9=1000000000 by decide] at h4;have h5:0<lv ((vs.map Subtype.val).drop (vs.length-k)):=h1;exact ⟨by show 0<_+1000000000*lv _;omega,h4.symm⟩
theorem rM {ds:List Nat} (h:Dg ds):∃ vs:List D9,vs.map Subtype.val=ds:=by
 induction ds with
 | nil=>exact ⟨[],rfl⟩
 | cons d ds ih=>
   obtain ⟨vs,hv⟩:=ih fun x hx=>h x (List.mem_cons_of_mem _ hx);exact ⟨⟨d,h d List.mem_cons_self⟩::vs,by rw [List.map_cons,hv]⟩
theorem FI (w:World) (k:Nat) (os:Array Obj):Below w.heap.size w (Sort.grow (w.drewN k) os):=by
 refine ⟨rfl,rfl,rfl,?_,fun j hj=>?_⟩
 ·show w.heap.size≤(w.heap++os).size;rw [Array.size_append];omega
 ·show (w.heap++os)[j]? = _;exact Array.getElem?_append_left hj
theorem NS (n:Nat) (w:World) (M:Nat→Prop) (hM:Good M w) (hn:n≤9223372036854775807:=by omega) :
  Calls prog 133 #[.int .i64 (n:Int)] w fun e w'=>e = .returned (.string ⟨(dec n).toArray⟩)∧Below w.heap.size w w':=by
 obtain ⟨_,T,fz,h⟩:=hM (0,AL) (by simp [Ty.tab])
 have htab:Lib.TabIs prog w "internal/strconv.uint64pow10" .u64 Lib.pow10Tab:=by
  unfold Lib.TabIs World.var?;rw [show prog.globalNamed "internal/strconv.uint64pow10" = some 0 by kernel_rfl];have h:w.heap[0]? = some (.cells AL T fz):=h;simp only [Option.bind_some,h];rfl
 refine (Tryz.strconv_Itoa (n:Int) (by omega) (by omega) w htab).mono ?_;rintro e w' ⟨rfl,k,os,rfl⟩;refine ⟨?_,FI w k os⟩;rw [Lib.itoa_nonneg]
theorem GX (c:Nat) (hc:c≤9) (w:World):Calls prog 135 #[.string ⟨#[48]⟩, .int .i64 (c:Int)] w fun e w'=>e = .returned (.string ⟨(List.replicate c (48:UInt8)).toArray⟩)∧Below w.heap.size w w':=by
 refine (Tryz.strings_Repeat ⟨#[48]⟩ c w (by omega) (by show 1*c≤_;omega)).mono ?_;rintro e w' ⟨rfl,h⟩;exact ⟨by rw [←aq6],h⟩
theorem sS (B b:Nat) (bs:List Value) (s:ByteArray) (w:World) (h:Lib.IsBuilderF 163 5 B b bs w) (hlen:bs.length+s.size≤140737488355328) (hBw:B≤w.heap.size) :
  Calls prog 134 #[.pointer (some ⟨b,0,none⟩), .string s] w fun e w'=>e = .returned (.tuple #[.int .i64 s.size, .nilIface])∧(Lib.IsBuilderF 163 5 B b (bs++Lib.strCells s) w'∧Below B w w'∧Lib.OthersKept 5 (some b) w w'):=
 (Any.Builder_WriteString_k { Tryz.NC with } Tryz.jR B b bs s w h hlen hBw).mono fun e w' ⟨h1,h2,h3,h4⟩=>⟨h1, .inr h2,h3,h4⟩
theorem kK {T e B b:Nat} {bs:List Value} {A A':World} (h:Lib.IsBuilderF T e B b bs A) (k:∀ (j:Nat) (o:Obj),A.heap[j]? = some o→o.isCells=true→A'.heap[j]? = some o):Lib.IsBuilderF T e B b bs A':=by
 have one:∀ p,Lib.BuilderAtF T e B b p bs A→Lib.BuilderAtF T e B b p bs A':=by
  rintro p ⟨h1,v,h2,⟨h3,h4⟩,h5⟩;refine ⟨h1,v,k _ _ h2 rfl,⟨h3,?_⟩,h5⟩;rcases h4 with h4 | ⟨g,cap,cur,fz,h6,h7,h8,h9⟩
  ·exact .inl h4
  ·exact .inr ⟨g,cap,cur,fz,h6,h7,k _ _ h8 rfl,h9⟩
 exact h.elim (fun x=>.inl (one _ x)) (fun x=>.inr (one _ x))
theorem kV {A B:World} {row:Option Nat} (hg:A.grownBy B row) (hr:∀ r,row=some r→∃ o:Obj,A.heap[r]? = some o∧o.isCells=false) {b:Nat} {o:Obj} (ho:A.heap[b]? = some o) (hc:o.isCells=true):B.heap[b]? = some o:=by
 refine (hg.block b (dS.1 ho).1 fun e=>?_).trans ho;obtain ⟨o',ho',hc'⟩:=hr b e.symm;rw [ho] at ho';cases ho';rw [hc] at hc';cases hc'
theorem aB {W:World} {b T:Nat} {cs:Array Value} {fz:Nat×Nat} (h:W.heap[b]? = some (.cells cs T fz)) {j:Nat} {v:Value} (hj:cs[j]? = some v):W.cell? ⟨b,j,none⟩=some v:=by
 simp only [World.cell?,h]
 simpa using hj
theorem eH {A A':World} (h:Below A.heap.size A A') (j:Nat) (o:Obj) (ho:A.heap[j]? = some o):A'.heap[j]? = some o:=(h.block j (dS.1 ho).1).trans ho
set_option maxHeartbeats 1000000 in
theorem Nk (n:Nat) (a:Option Addr) (len cap:Nat) (w:World) :
  CallsIn Fence.wide n prog 90 #[.agg #[.slice a len cap]] w fun e w'=>e = .returned (.bool (decide ((len:Int)=0)))∧w'=w.alloc (.cells #[.slice a len cap] 26):=by
 refine callsIn_of_wp func90 rfl trivial ?_ rfl;simp only [ntmps90,List.size_toArray,List.length_cons,List.length_nil,Nat.reduceAdd,Nat.reduceSub,Array.replicate_succ,Array.replicate_zero,List.push_toArray,List.append_toArray,List.nil_append,List.cons_append]
 gi_wp2
 go_ret
 exact ⟨rfl,rfl⟩
theorem nine {d:Nat} (hd:d<1000000000):∃ c:Nat,c≤9∧wrap64 (9-((dec d).length:Int))=(c:Int)∧jH 9 d=List.replicate c 48++dec d:=by
 have hd':d<10^9:=by rw [show (10:Nat)^9=1000000000 by decide];exact hd
 have h1:(dec d).length≤9:=gL (by omega) hd';refine ⟨9-(dec d).length,by omega,?_,Ko (by omega) hd'⟩;rw [show (9:Int)-((dec d).length:Int)=((9-(dec d).length:Nat):Int) by omega];have hk:9-(dec d).length≤9:=Nat.sub_le _ _;generalize 9-(dec d).length=k at hk ⊢;unfold wrap64;omega
theorem lens (t d:List UInt8) (c:Nat) (hd:d.length≤9) (hc:c≤9) (ht:t.length≤10000000000000:=by omega) :
  (Lib.byteCells t).length+(⟨Array.replicate c 48⟩:ByteArray).size≤140737488355328∧(Lib.byteCells t++Lib.strCells ⟨Array.replicate c 48⟩).length+(⟨d.toArray⟩:ByteArray).size≤140737488355328∧(Lib.byteCells t).length+(⟨d.toArray⟩:ByteArray).size≤140737488355328:=by
 have h1:(⟨Array.replicate c 48⟩:ByteArray).size=c:=Array.size_replicate;have h2:(⟨d.toArray⟩:ByteArray).size=d.length:=List.size_toArray;rw [eF,Lib.strCells_length,Lib.byteCells_length,h1,h2];omega
theorem qX {n0 L cap:Nat} {a:Option Addr} {W0 W W':World} {bs bs':List Value} (h2:Below (n0+2) W0 W) (h3:n0+4≤W.heap.size) (h4:W.heap[n0+3]? = some (.cells #[.slice a L cap] 24 (0,0)))
  (hb:Below (n0+2) W W') (ho:∀ k o,W.heap[k]? = some o→some k≠some (n0+2)→(∀ c fz,o ≠ .cells c 5 fz)→W'.heap[k]? = some o)
  (h1:Lib.IsBuilderF 163 5 (n0+2) (n0+2) bs W) (h1':Lib.IsBuilderF 163 5 (n0+2) (n0+2) bs' W') :
  KeepsOthers W W'∧Zu n0 (n0+3) W W'∧Lib.IsBuilderF 163 5 (n0+2) (n0+2) bs' W'∧Below (n0+2) W0 W'∧n0+4≤W'.heap.size∧W'.heap[n0+3]? = some (.cells #[.slice a L cap] 24 (0,0)):=by
 have h5:=ho _ _ h4 (by simp) (by intro c fz h;cases h)
 obtain ⟨cs,T,fz,hbc⟩:∃ cs T fz,W.heap[n0+2]? = some (.cells cs T fz):=by
  rcases h1 with ⟨_,v,h,_⟩ | ⟨_,v,h,_⟩
  ·exact ⟨_,_,_,h⟩
  ·exact ⟨_,_,_,h⟩
 refine ⟨⟨hb.size,fun k o hk hc=>ho k o hk ?_ (by rintro c fz rfl;cases hc)⟩,⟨hb.mono (by omega),fun v hv=>?_⟩,h1',h2.trans hb,Nat.le_trans h3 hb.size,h5⟩
 ·rintro e;cases e;rw [hbc] at hk;cases hk;cases hc
 ·simp only [World.cell?,h4,h5] at hv ⊢;exact hv
theorem Ob (n:Nat) (a:Option Addr) (len cap:Nat) (h:len≠0) (w:World) :
  CallsIn Fence.wide n prog 90 #[.agg #[.slice a len cap]] w fun e w'=>e = .returned (.bool false)∧w'=w.alloc (.cells #[.slice a len cap] 26):=by
 have:=Nk n a len cap w;rw [decide_eq_false (by omega)] at this;exact this
set_option maxRecDepth 100000 in
set_option maxHeartbeats 400000 in
theorem Mt (a:Option Addr) (cap:Nat) (w:World) :
  CallsIn Fence.wide 1001 prog 89 #[.agg #[.slice a 0 cap]] w fun e W'=>e = .returned (.string ⟨#[48]⟩)∧Below w.heap.size w W':=by
 refine callsIn_of_wp func89 rfl trivial ?_ rfl;simp only [ntmps89,List.size_toArray,List.length_cons,List.length_nil,Nat.reduceAdd,Nat.reduceSub,Array.replicate_succ,Array.replicate_zero,List.push_toArray,List.append_toArray,List.nil_append,List.cons_append]
 gi_wp2_with (refine ⟨trivial,?_⟩;gi_at_call 90;refine (Nk _ _ 0 _ _).mono ?_;rintro e w' ⟨rfl,rfl⟩)
 go_ret
 exact ⟨rfl,((Below.refl _ w).alloc (cD _) _).alloc (by simp) _⟩
set_option maxRecDepth 100000 in
set_option maxHeartbeats 400000 in
theorem RZ (a:Option Addr) (cap:Nat) (vs:List D9) (h0:vs.length≠0) (w:World) (M:Nat→Prop) (hM:Good M w) (hI:Tp Pu w.heap.size w (.slice a vs.length cap) vs) (hlen:vs.length≤1099511627776:=by omega) :
  CallsIn Fence.wide 1001 prog 89 #[.agg #[.slice a vs.length cap]] w fun e W'=>e = .returned (.string ⟨(tx vs.length (bk vs vs.length)).toArray⟩)∧Below w.heap.size w W':=by
 refine callsIn_of_wp_marks func89 rfl trivial ?_ rfl;simp only [ntmps89,List.size_toArray,List.length_cons,List.length_nil,Nat.reduceAdd,Nat.reduceSub,Array.replicate_succ,Array.replicate_zero,List.push_toArray,List.append_toArray,List.nil_append,List.cons_append];generalize hL:vs.length=L at hI hlen h0 ⊢
 gi_wp2_with (refine ⟨trivial,?_⟩;gi_at_call 90;refine (Ob _ _ _ _ h0 _).mono ?_;rintro e w' ⟨rfl,rfl⟩)
 gi_wp2_with (refine ⟨trivial,?_⟩;gi_at_call 132;refine (tH _ _ _ _ _).mono ?_;rintro e w' ⟨rfl,rfl⟩)
 obtain ⟨n0,hn0⟩:∃ n0,w.heap.size=n0:=⟨_,rfl⟩
 rw [hn0] at hI ⊢;obtain ⟨W0,hW0⟩:∃ W0,((((w.alloc (.cells #[.slice a L cap] 26)).alloc (.cells #[.slice a L cap] 26)).alloc (.cells #[.pointer none, .slice none 0 0] 163)).alloc (.cells #[.slice a L cap] 24))=W0:=⟨_,rfl⟩
 have hs0:W0.heap.size=n0+4:=by rw [←hW0];simp [hn0]
 have hA0:W0.heap[n0]? = some (.cells #[.slice a L cap] 26 (0,0)):=by rw [←hW0,heap_alloc_old _ _ _ (by simp;omega),heap_alloc_old _ _ _ (by simp;omega),heap_alloc_old _ _ _ (by simp;omega),←hn0];exact heap_alloc_new w _
 have hT0:W0.heap[n0+2]? = some (.cells #[.pointer none, .slice none 0 0] 163 (0,0)):=by
  rw [←hW0,heap_alloc_old _ _ _ (by simp;omega)];have:=heap_alloc_new ((w.alloc (.cells #[.slice a L cap] 26)).alloc (.cells #[.slice a L cap] 26)) (.cells #[.pointer none, .slice none 0 0] 163);rw [World.size_alloc,World.size_alloc,hn0] at this;exact this
 have hP0:W0.heap[n0+3]? = some (.cells #[.slice a L cap] 24 (0,0)):=by
  rw [←hW0];have:=heap_alloc_new (((w.alloc (.cells #[.slice a L cap] 26)).alloc (.cells #[.slice a L cap] 26)).alloc (.cells #[.pointer none, .slice none 0 0] 163)) (.cells #[.slice a L cap] 24);rw [World.size_alloc,World.size_alloc,World.size_alloc,hn0] at this;exact this
 have hB0:Below n0 w W0:=by
  rw [←hW0];exact ((((Below.refl _ w).alloc (by omega) _).alloc (by simp;omega) _).alloc (by simp;omega) _).alloc (by simp;omega) _
 rw [hW0];have hG0:Good M W0:=hM.below hn0.symm hB0
 refine wpIn_rangeFunc_ownF (w0:=W0) rfl (by omega) (gf:=174) (lb:=#[.pointer (some ⟨n0+1+1+1,0,none⟩)]) rfl trivial (enters_of func174 (by kernel_rfl) rfl)
  (mZ (enc:=Pu) (n0+3) n0 (.slice a L cap) vs (by omega) W0 (by omega) (by omega) (aB hP0 rfl) (hI.below hB0)) RE (Sg (by omega) (by omega)) (Below.refl _ _) (fun _=>rfl)
  (fun pre W=>Lib.IsBuilderF 163 5 (n0+2) (n0+2) (Lib.byteCells (tx L pre)) W∧Below (n0+2) W0 W∧n0+4≤W.heap.size∧W.heap[n0+3]? = some (.cells #[.slice a L cap] 24 (0,0)))
  (fun _ _ _=>False) ?own (fun _=>by intro s A B row hs;exact hs.elim) ?start
  (fun x=>{ tmps:=#[.agg #[.slice a L cap], .pointer (some ⟨n0,0,none⟩), .string ⟨#[]⟩, .pointer (some ⟨n0+1+1,0,none⟩), .int .i64 (x.1:Int), .int .u32 (x.2.1:Int),undef, .agg #[.slice a L cap], .bool false, .pointer (some ⟨n0,0,none⟩), .slice a L cap, .func (.func 174) #[] #[.pointer (some ⟨n0+1+1+1,0,none⟩)], .int .i64 (x.1:Int), .int .u32 (x.2.1:Int),undef,undef,undef,undef,undef,undef,undef,undef,undef,undef,undef,undef,undef,undef,undef,undef,undef],defers:=[] }) ?assign ?body ?done ?stop
 case own=>
  rintro s A A' row ⟨h1,h2,h3,h4⟩ hg hr;exact ⟨kK h1 fun j o ho hc=>kV hg (fun r e=>(hr r e).2) ho hc,h2.grown hg (by omega) (fun k e=>by have:=(hr k e).1;omega),Nat.le_trans h3 hg.size,kV hg (fun r e=>(hr r e).2) h4 rfl⟩
 case start=>
  exact ⟨Lib.IsBuilderF.of (.inl ⟨cD _,_,hT0,⟨rfl, .inl ⟨rfl,rfl⟩⟩,by simp [Value.ownBlock]⟩),Below.refl _ _,by omega,hP0⟩
 case assign=>
  intro l x W K hK
  gi_wp2
  exact hK
 case body=>
  rintro l pre x W ⟨h1,h2,h3,h4⟩ hlt;have hG:Good M W:=hM.below hn0.symm (hB0.trans (h2.mono (by omega)));have hA:W.heap[n0]? = some (.cells #[.slice a L cap] 26 (0,0)):=(h2.block n0 (by omega)).trans hA0;have cA:W.cell? ⟨n0,0,none⟩=some (.slice a L cap):=aB hA rfl;have hx:x.2.1<1000000000:=x.2.2;obtain ⟨c,hc9,hci,hz⟩:=nine hx;have hpl:=SD L pre;have htx1:(x.1:Int)<(L:Int)-1→tx L (pre ++ [x])=tx L pre++List.replicate c 48++dec x.2.1:=fun h=>by rw [sU,if_pos (by omega),hz,List.append_assoc]
  have htx2:¬ (x.1:Int)<(L:Int)-1→tx L (pre ++ [x])=tx L pre++dec x.2.1:=fun h=>by rw [sU,if_neg (by omega)]
  have h32:n0+2≤W.heap.size:=by omega
  rw [hL] at hlt
  obtain ⟨lA,lB,lC⟩:=lens (tx L pre) (dec x.2.1) c (by have:(dec x.2.1).length≤9:=gL (by omega) (by rw [show (10:Nat)^9=1000000000 by decide];exact hx)
                                                       exact this) hc9
  have hcell:Lib.byteCells (tx L pre)++Lib.strCells ⟨Array.replicate c 48⟩++Lib.strCells ⟨(dec x.2.1).toArray⟩=Lib.byteCells (tx L pre++List.replicate c 48++dec x.2.1):=by
   rw [Lib.strCells_eq,Lib.strCells_eq,Lib.byteCells_append,Lib.byteCells_append];simp
  have hcell2:Lib.byteCells (tx L pre)++Lib.strCells ⟨(dec x.2.1).toArray⟩=Lib.byteCells (tx L pre++dec x.2.1):=by
   rw [Lib.strCells_eq,Lib.byteCells_append]
  by_cases hc:(x.1:Int)<(L:Int)-1
  all_goals gi_wp2_with (refine ⟨trivial,?_⟩;gi_at_call 133;refine (CallsIn.inRound l (callsIn_wide.2 (NS x.2.1 _ M hG))).mono ?_;rintro e w1 ⟨rfl,hb1⟩;have cA1:w1.cell? ⟨n0,0,none⟩=some (.slice a L cap):=(hb1.cell (p:=⟨n0,0,none⟩) (show n0<W.heap.size by omega)).trans cA)
  ·rw [hci]
   gi_wp2_with (refine ⟨trivial,?_⟩;gi_at_call 135;refine (CallsIn.inRound l (callsIn_wide.2 (GX c hc9 _))).mono ?_;rintro e w2 ⟨rfl,hb2⟩)
   have b2:Lib.IsBuilderF 163 5 (n0+2) (n0+2) (Lib.byteCells (tx L pre)) w2:=kK (kK h1 fun j o ho _=>eH hb1 j o ho) fun j o ho _=>eH hb2 j o ho;have s2:n0+2≤w2.heap.size:=Nat.le_trans (Nat.le_trans h32 hb1.size) hb2.size;have q:CallsIn (Fence.wide.inRound l) 998 prog 134 #[.pointer (some ⟨n0+1+1,0,none⟩), .string ⟨Array.replicate c 48⟩] w2 fun e w'=>e = .returned (.tuple #[.int .i64 (⟨Array.replicate c 48⟩:ByteArray).size, .nilIface])∧(Lib.IsBuilderF 163 5 (n0+2) (n0+2) (Lib.byteCells (tx L pre)++Lib.strCells ⟨Array.replicate c 48⟩) w'∧Below (n0+2) w2 w'∧Lib.OthersKept 5 (some (n0+2)) w2 w'):=CallsIn.inRound l (callsIn_wide.2 (sS (n0+2) (n0+2) _ ⟨Array.replicate c 48⟩ w2 b2 lA s2))
   gi_wp2_with (refine ⟨trivial,?_⟩;gi_at_call 134;refine q.mono ?_;clear q;rintro e w3 ⟨rfl,b3,hl3,ho3⟩)
   have s3:n0+2≤w3.heap.size:=Nat.le_trans s2 hl3.size;have q:CallsIn (Fence.wide.inRound l) 998 prog 134 #[.pointer (some ⟨n0+1+1,0,none⟩), .string ⟨(dec x.2.1).toArray⟩] w3 fun e w'=>e = .returned (.tuple #[.int .i64 (⟨(dec x.2.1).toArray⟩:ByteArray).size, .nilIface])∧(Lib.IsBuilderF 163 5 (n0+2) (n0+2) ((Lib.byteCells (tx L pre)++Lib.strCells ⟨Array.replicate c 48⟩)++Lib.strCells ⟨(dec x.2.1).toArray⟩) w'∧Below (n0+2) w3 w'∧Lib.OthersKept 5 (some (n0+2)) w3 w'):=CallsIn.inRound l (callsIn_wide.2 (sS (n0+2) (n0+2) _ ⟨(dec x.2.1).toArray⟩ w3 b3 lB s3))
   gi_wp2_with (refine ⟨trivial,?_⟩;gi_at_call 134;refine q.mono ?_;clear q;rintro e w4 ⟨rfl,b4,hl4,ho4⟩)
   rw [hcell,←htx1 hc] at b4;exact qX h2 h3 h4 ((((hb1.mono h32).trans (hb2.mono (Nat.le_trans h32 hb1.size))).trans hl3).trans hl4) (fun k o ho hk hu=>ho4 k o (ho3 k o (eH hb2 k o (eH hb1 k o ho)) hk hu) hk hu) h1 b4
  ·have b1:Lib.IsBuilderF 163 5 (n0+2) (n0+2) (Lib.byteCells (tx L pre)) w1:=kK h1 fun j o ho _=>eH hb1 j o ho;have s1:n0+2≤w1.heap.size:=Nat.le_trans h32 hb1.size;have q:CallsIn (Fence.wide.inRound l) 998 prog 134 #[.pointer (some ⟨n0+1+1,0,none⟩), .string ⟨(dec x.2.1).toArray⟩] w1 fun e w'=>e = .returned (.tuple #[.int .i64 (⟨(dec x.2.1).toArray⟩:ByteArray).size, .nilIface])∧(Lib.IsBuilderF 163 5 (n0+2) (n0+2) (Lib.byteCells (tx L pre)++Lib.strCells ⟨(dec x.2.1).toArray⟩) w'∧Below (n0+2) w1 w'∧Lib.OthersKept 5 (some (n0+2)) w1 w'):=CallsIn.inRound l (callsIn_wide.2 (sS (n0+2) (n0+2) _ ⟨(dec x.2.1).toArray⟩ w1 b1 lC s1))
   gi_wp2_with (refine ⟨trivial,?_⟩;gi_at_call 134;refine q.mono ?_;clear q;rintro e w4 ⟨rfl,b4,hl4,ho4⟩)
   rw [hcell2,←htx2 hc] at b4;exact qX h2 h3 h4 ((hb1.mono h32).trans hl4) (fun k o ho hk hu=>ho4 k o (eH hb1 k o ho) hk hu) h1 b4
 case done=>
  rintro D ys W hD rfl ⟨h1,h2,h3,h4⟩ hK;have s1:n0+2≤W.heap.size:=by omega
  have hbW:Below n0 w W:=hB0.trans (h2.mono (by omega))
  gi_wp2_with (refine ⟨trivial,?_⟩;gi_at_call 136;refine (callsIn_wide.2 (Tryz.Builder_String_any_k (n0+2) (n0+2) _ W h1 s1)).mono ?_;rintro e w1 ⟨rfl,b1,hl1,ho1⟩)
  have hne:some D≠some (n0+2):=by intro e;cases e;omega
  have hK1:=ho1 D _ hK hne (by intro c fz h;cases h);refine ⟨by simp, .inl ⟨_,_,rfl,run_takeDeferred hK1,?_⟩⟩;rw [hn0];refine ⟨_,results_tmp rfl _ _ _,rfl,(hbW.trans (hl1.mono (by omega))).trans ?_⟩;exact belowK_b (w:=w) (by omega) w1 D _ _ (by omega) hK1 rfl rfl
 case stop=>
  rintro D c pre W hD _ h hK;exact h.elim
theorem UP (n:Nat) (hn:(dg n).length≤1099511627776):aD prog 89 [mT n] (.ret [bS (dec n)]):=by
 by_cases h0:n=0
 ·subst h0;refine ⟨dW (by kernel_rfl),fun M w vs hM hv=>?_⟩
  match vs,hv with
  | [v],hv=>
    obtain ⟨⟨us,rfl,hus⟩,_⟩:=hv
    match us,hus with
    | [u],hus=>
      obtain ⟨a,cap,rfl,hel⟩:=NJ hus.1;have hl:((dg 0).map (fun d:Nat=>(d:Int))).length=0:=by rw [oL.2 rfl];rfl
      rw [hl];refine ((callsIn_wide (n:=1001)).1 (Mt a cap w)).mono ?_;rintro e w' ⟨rfl,hb⟩;exact ⟨hb,[.string ⟨#[48]⟩],rfl,⟨by rw [Sj],rfl⟩,trivial⟩
    | [],hus=>exact hus.elim
    | _::_::_,hus=>exact hus.2.elim
  | [],hv=>exact hv.elim
  | _::_::_,hv=>exact hv.2.elim
 ·refine ⟨dW (by kernel_rfl),fun M w vs hM hv=>?_⟩
  match vs,hv with
  | [v],hv=>
    obtain ⟨⟨us,rfl,hus⟩,_⟩:=hv
    match us,hus with
    | [u],hus=>
      obtain ⟨ds,hds⟩:=rM (gJ n);have hdl:(dg n).length=ds.length:=by rw [←hds,dL]
      obtain ⟨a,cap,rfl,hel⟩:=NJ hus.1;have hl:((dg n).map (fun d:Nat=>(d:Int))).length=ds.length:=by rw [dL,hdl]
      rw [hl]
      have hI:Tp Pu w.heap.size w (.slice a ds.length cap) ds:=by
       refine ⟨a,cap,rfl,?_⟩;rcases hel with h | ⟨b,off,rfl,hb,hc⟩
       ·left
        have:(dg n).length=0:=by rw [←dL (f:=fun d:Nat=>(d:Int)),h];rfl
        exact List.eq_nil_of_length_eq_zero (by omega)
       ·refine .inr ⟨b,off,rfl,hb,fun j v hj=>hc j _ ?_⟩;rw [←hds,List.map_map,eX,hj];rfl
      have hne:ds.length≠0:=fun h=>h0 (oL.1 (List.eq_nil_of_length_eq_zero (by omega)))
      have hlast:∀ d,ds.getLast? = some d→d.1≠0:=fun d hd=>by
       refine Jg (B:=1000000000) (by omega) n d.1 ?_;show (dg n).getLast? = _;rw [←hds,List.getLast?_map,hd];rfl
      have ht:=(Sx ds hlast ds.length (by omega) (cD _)).2;rw [Nat.sub_self,List.drop_zero,hds,fC] at ht;have h1:=RZ a cap ds hne w M hM.2 hI;rw [ht] at h1;refine ((callsIn_wide (n:=1001)).1 h1).mono ?_;rintro e w' ⟨rfl,hb⟩;exact ⟨hb,[.string ⟨(dec n).toArray⟩],rfl,⟨rfl,rfl⟩,trivial⟩
    | [],hus=>exact hus.elim
    | _::_::_,hus=>exact hus.2.elim
  | [],hv=>exact hv.elim
  | _::_::_,hv=>exact hv.2.elim
end Go.Sy
namespace Go.Sy
open Go Go.Proofs Tryz Ord
theorem DR {n H:Nat} (h:n<2^H):(dg n).length≤H:=xQ (Nat.lt_of_lt_of_le h (Nat.pow_le_pow_left (by omega) H))
open Go Go.Proofs Go.RowKit Go.Shelf Tryz Ord
attribute [local go_sem] Oper.semAt_some
set_option maxRecDepth 100000 in
set_option maxHeartbeats 1000000 in
theorem OH (a:Option Addr) (cap:Nat) (vs:List D9) (w:World) (M:Nat→Prop) (hM:Good M w) (hI:Tp Pu w.heap.size w (.slice a vs.length cap) vs) (hlen:vs.length≤1:=by omega) (h0:vs.length≠0:=by omega) :
  CallsIn Fence.wide 1001 prog 89 #[.agg #[.slice a vs.length cap]] w fun e W'=>e = .returned (.string ⟨(tx vs.length (bk vs vs.length)).toArray⟩)∧Below w.heap.size w W':=by
 refine callsIn_of_wp_marks func89 rfl trivial ?_ rfl;simp only [ntmps89,List.size_toArray,List.length_cons,List.length_nil,Nat.reduceAdd,Nat.reduceSub,Array.replicate_succ,Array.replicate_zero,List.push_toArray,List.append_toArray,List.nil_append,List.cons_append];generalize hL:vs.length=L at hI hlen h0 ⊢
 gi_wp2_with (refine ⟨trivial,?_⟩;gi_at_call 90;refine (Ob _ _ _ _ h0 _).mono ?_;rintro e w' ⟨rfl,rfl⟩)
 gi_wp2_with (refine ⟨trivial,?_⟩;gi_at_call 132;refine (tH _ _ _ _ _).mono ?_;rintro e w' ⟨rfl,rfl⟩)
 obtain ⟨n0,hn0⟩:∃ n0,w.heap.size=n0:=⟨_,rfl⟩
 rw [hn0] at hI ⊢;obtain ⟨W0,hW0⟩:∃ W0,((((w.alloc (.cells #[.slice a L cap] 26)).alloc (.cells #[.slice a L cap] 26)).alloc (.cells #[.pointer none, .slice none 0 0] 163)).alloc (.cells #[.slice a L cap] 24))=W0:=⟨_,rfl⟩
 have hs0:W0.heap.size=n0+4:=by rw [←hW0];simp [hn0]
 have hA0:W0.heap[n0]? = some (.cells #[.slice a L cap] 26 (0,0)):=by rw [←hW0,heap_alloc_old _ _ _ (by simp;omega),heap_alloc_old _ _ _ (by simp;omega),heap_alloc_old _ _ _ (by simp;omega),←hn0];exact heap_alloc_new w _
 have hT0:W0.heap[n0+2]? = some (.cells #[.pointer none, .slice none 0 0] 163 (0,0)):=by
  rw [←hW0,heap_alloc_old _ _ _ (by simp;omega)];have:=heap_alloc_new ((w.alloc (.cells #[.slice a L cap] 26)).alloc (.cells #[.slice a L cap] 26)) (.cells #[.pointer none, .slice none 0 0] 163);rw [World.size_alloc,World.size_alloc,hn0] at this;exact this
 have hP0:W0.heap[n0+3]? = some (.cells #[.slice a L cap] 24 (0,0)):=by
  rw [←hW0];have:=heap_alloc_new (((w.alloc (.cells #[.slice a L cap] 26)).alloc (.cells #[.slice a L cap] 26)).alloc (.cells #[.pointer none, .slice none 0 0] 163)) (.cells #[.slice a L cap] 24);rw [World.size_alloc,World.size_alloc,World.size_alloc,hn0] at this;exact this
 have hB0:Below n0 w W0:=by
  rw [←hW0];exact ((((Below.refl _ w).alloc (by omega) _).alloc (by simp;omega) _).alloc (by simp;omega) _).alloc (by simp;omega) _
 rw [hW0];have hG0:Good M W0:=hM.below hn0.symm hB0
 refine wpIn_rangeFunc_ownF (w0:=W0) rfl (by omega) (gf:=174) (lb:=#[.pointer (some ⟨n0+1+1+1,0,none⟩)]) rfl trivial (enters_of func174 (by kernel_rfl) rfl)
  (mZ (enc:=Pu) (n0+3) n0 (.slice a L cap) vs (by omega) W0 (by omega) (by omega) (aB hP0 rfl) (hI.below hB0)) RE (Sg (by omega) (by omega)) (Below.refl _ _) (fun _=>rfl)
  (fun pre W=>Lib.IsBuilderF 163 5 (n0+2) (n0+2) (Lib.byteCells (tx L pre)) W∧Below (n0+2) W0 W∧n0+4≤W.heap.size∧W.heap[n0+3]? = some (.cells #[.slice a L cap] 24 (0,0)))
  (fun _ _ _=>False) ?own (fun _=>by intro s A B row hs;exact hs.elim) ?start
  (fun x=>{ tmps:=#[.agg #[.slice a L cap], .pointer (some ⟨n0,0,none⟩), .string ⟨#[]⟩, .pointer (some ⟨n0+1+1,0,none⟩), .int .i64 (x.1:Int), .int .u32 (x.2.1:Int),undef, .agg #[.slice a L cap], .bool false, .pointer (some ⟨n0,0,none⟩), .slice a L cap, .func (.func 174) #[] #[.pointer (some ⟨n0+1+1+1,0,none⟩)], .int .i64 (x.1:Int), .int .u32 (x.2.1:Int),undef,undef,undef,undef,undef,undef,undef,undef,undef,undef,undef,undef,undef,undef,undef,undef,undef],defers:=[] }) ?assign ?body ?done ?stop
 case own=>
  rintro s A A' row ⟨h1,h2,h3,h4⟩ hg hr;exact ⟨kK h1 fun j o ho hc=>kV hg (fun r e=>(hr r e).2) ho hc,h2.grown hg (by omega) (fun k e=>by have:=(hr k e).1;omega),Nat.le_trans h3 hg.size,kV hg (fun r e=>(hr r e).2) h4 rfl⟩
 case start=>
  exact ⟨Lib.IsBuilderF.of (.inl ⟨cD _,_,hT0,⟨rfl, .inl ⟨rfl,rfl⟩⟩,by simp [Value.ownBlock]⟩),Below.refl _ _,by omega,hP0⟩
 case assign=>
  intro l x W K hK
  gi_wp2
  exact hK
 case body=>
  rintro l pre x W ⟨h1,h2,h3,h4⟩ hlt;have hG:Good M W:=hM.below hn0.symm (hB0.trans (h2.mono (by omega)));have hA:W.heap[n0]? = some (.cells #[.slice a L cap] 26 (0,0)):=(h2.block n0 (by omega)).trans hA0;have cA:W.cell? ⟨n0,0,none⟩=some (.slice a L cap):=aB hA rfl;have hx:x.2.1<1000000000:=x.2.2;have hpl:=SD L pre;have htx2:tx L (pre ++ [x])=tx L pre++dec x.2.1:=by rw [sU,if_neg (by omega)]
  have h32:n0+2≤W.heap.size:=by omega
  rw [hL] at hlt
  have lC:(Lib.byteCells (tx L pre)).length+(⟨(dec x.2.1).toArray⟩:ByteArray).size≤140737488355328:=by
   have h2:(⟨(dec x.2.1).toArray⟩:ByteArray).size=(dec x.2.1).length:=List.size_toArray;have h3:(dec x.2.1).length≤9:=gL (by omega) (by rw [show (10:Nat)^9=1000000000 by decide];exact hx);rw [Lib.byteCells_length,h2];omega
  have hcell2:Lib.byteCells (tx L pre)++Lib.strCells ⟨(dec x.2.1).toArray⟩=Lib.byteCells (tx L pre++dec x.2.1):=by
   rw [Lib.strCells_eq,Lib.byteCells_append]
  have hc:¬ (x.1:Int)<(L:Int)-1:=by omega
  gi_wp2_with (refine ⟨trivial,?_⟩;gi_at_call 133;refine (CallsIn.inRound l (callsIn_wide.2 (NS x.2.1 _ M hG))).mono ?_;rintro e w1 ⟨rfl,hb1⟩;have cA1:w1.cell? ⟨n0,0,none⟩=some (.slice a L cap):=(hb1.cell (p:=⟨n0,0,none⟩) (show n0<W.heap.size by omega)).trans cA)
  have b1:Lib.IsBuilderF 163 5 (n0+2) (n0+2) (Lib.byteCells (tx L pre)) w1:=kK h1 fun j o ho _=>eH hb1 j o ho;have s1:n0+2≤w1.heap.size:=Nat.le_trans h32 hb1.size;have q:CallsIn (Fence.wide.inRound l) 998 prog 134 #[.pointer (some ⟨n0+1+1,0,none⟩), .string ⟨(dec x.2.1).toArray⟩] w1 fun e w'=>e = .returned (.tuple #[.int .i64 (⟨(dec x.2.1).toArray⟩:ByteArray).size, .nilIface])∧(Lib.IsBuilderF 163 5 (n0+2) (n0+2) (Lib.byteCells (tx L pre)++Lib.strCells ⟨(dec x.2.1).toArray⟩) w'∧Below (n0+2) w1 w'∧Lib.OthersKept 5 (some (n0+2)) w1 w'):=CallsIn.inRound l (callsIn_wide.2 (sS (n0+2) (n0+2) _ ⟨(dec x.2.1).toArray⟩ w1 b1 lC s1))
  gi_wp2_with (refine ⟨trivial,?_⟩;gi_at_call 134;refine q.mono ?_;clear q;rintro e w4 ⟨rfl,b4,hl4,ho4⟩)
  rw [hcell2,←htx2] at b4;exact qX h2 h3 h4 ((hb1.mono h32).trans hl4) (fun k o ho hk hu=>ho4 k o (eH hb1 k o ho) hk hu) h1 b4
 case done=>
  rintro D ys W hD rfl ⟨h1,h2,h3,h4⟩ hK;have s1:n0+2≤W.heap.size:=by omega
  have hbW:Below n0 w W:=hB0.trans (h2.mono (by omega))
  gi_wp2_with (refine ⟨trivial,?_⟩;gi_at_call 136;refine (callsIn_wide.2 (Tryz.Builder_String_any_k (n0+2) (n0+2) _ W h1 s1)).mono ?_;rintro e w1 ⟨rfl,b1,hl1,ho1⟩)
  have hne:some D≠some (n0+2):=by intro e;cases e;omega
  have hK1:=ho1 D _ hK hne (by intro c fz h;cases h);refine ⟨by simp, .inl ⟨_,_,rfl,run_takeDeferred hK1,?_⟩⟩;rw [hn0];refine ⟨_,results_tmp rfl _ _ _,rfl,(hbW.trans (hl1.mono (by omega))).trans ?_⟩;exact belowK_b (w:=w) (by omega) w1 D _ _ (by omega) hK1 rfl rfl
 case stop=>
  rintro D c pre W hD _ h hK;exact h.elim
theorem vI (n:Nat) (hn:n<1000000000) (h0:n≠0:=by omega):aD prog 89 [mT n] (.ret [bS (dec n)]):=by
 refine ⟨dW (by kernel_rfl),fun M w vs hM hv=>?_⟩
 match vs,hv with
 | [v],hv=>
   obtain ⟨⟨us,rfl,hus⟩,_⟩:=hv
   match us,hus with
   | [u],hus=>
     obtain ⟨ds,hds⟩:=rM (gJ n);have hdg:dg n = [n]:=by unfold dg;rw [dR,Nat.mod_eq_of_lt hn,Nat.div_eq_of_lt hn,cJ]
     have hdl:ds.length=1:=by rw [←dL (f:=Subtype.val),hds,hdg];rfl
     obtain ⟨a,cap,rfl,hel⟩:=NJ hus.1;have hl:((dg n).map (fun d:Nat=>(d:Int))).length=ds.length:=by rw [dL,hdg,hdl];rfl
     rw [hl]
     have hI:Tp Pu w.heap.size w (.slice a ds.length cap) ds:=by
      refine ⟨a,cap,rfl,?_⟩;rcases hel with h | ⟨b,off,rfl,hb,hc⟩
      ·rw [hdg] at h;cases h
      ·refine .inr ⟨b,off,rfl,hb,fun j v hj=>hc j _ ?_⟩;rw [←hds,List.map_map,eX,hj];rfl
     have h1:=OH a cap ds w M hM.2 hI
     have ht:tx ds.length (bk ds ds.length)=dec n:=by
      match ds,hdl,hds with
      | [d],_,hds=>
        rw [hdg] at hds;have e:d.1=n:=by simpa using hds
        rw [←e];rfl
     rw [ht] at h1;refine ((callsIn_wide (n:=1001)).1 h1).mono ?_;rintro e w' ⟨rfl,hb⟩;exact ⟨hb,[.string ⟨(dec n).toArray⟩],rfl,⟨rfl,rfl⟩,trivial⟩
   | [],hus=>exact hus.elim
   | _::_::_,hus=>exact hus.2.elim
 | [],hv=>exact hv.elim
 | _::_::_,hv=>exact hv.2.elim
theorem iW (q:Rat) (hf:Fit 64 q) (h0:q.num.natAbs≠0) (hn1:q.num.natAbs<1000000000) (hd1:q.den<1000000000):aD prog 27 [(qT q:aE)] (.ret [bS (zZ q)]):=by
 refine bU func27 NB ?_;have hd:=DR hf.2;have hn:=DR hf.1;have hp:=q.den_pos;have ln:=gW hf.1;have ld:=gW hf.2;rw [show zZ q=((if q.num<0 then [45] else [])++dec q.num.natAbs)++if q.den=1 then [] else [47]++dec q.den from rfl];apply aA (vI q.num.natAbs hn1 h0) rfl;refine vs _ rfl ?_ ?_<;>intro h1
 ·apply vn (eR (a:=[45]) (by simp only [List.length_cons,List.length_nil];omega)) rfl;apply aA (hC (q.den-1)) rfl;apply vn rN rfl;dsimp only [aF,aG];refine vs _ rfl ?_ ?_<;>intro h5
  ·apply aA (cV q) rfl;apply aA (vI q.den hd1) rfl;apply vn (eR (a:=[47]) (by simp only [List.length_cons,List.length_nil];omega)) rfl;apply vn (eR (by simp only [eF,List.length_cons,List.length_nil];omega)) rfl;dsimp only [aF,aG];rw [if_pos h1,if_neg (by omega)];exact aK rfl
  rw [if_pos h1,if_pos (by omega),List.append_nil];exact aK rfl
 apply aA (hC (q.den-1)) rfl;apply vn rN rfl;refine vs _ rfl ?_ ?_<;>intro h14
 ·apply aA (cV q) rfl;apply aA (vI q.den hd1) rfl;dsimp only [aF,aG];apply vn (eR (a:=[47]) (by simp only [List.length_cons,List.length_nil];omega)) rfl;apply vn (eR (by simp only [eF,List.length_cons,List.length_nil];omega)) rfl;dsimp only [aF,aG];rw [if_neg h1,if_neg (by omega)];exact aK rfl
 rw [if_neg h1,if_pos (by omega),List.append_nil];exact aK rfl
end Go.Sy
