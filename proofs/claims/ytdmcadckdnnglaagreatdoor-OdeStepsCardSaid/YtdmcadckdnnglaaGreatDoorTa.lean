/- Decimal digits: so many of them, and those of a number. The texts of numbers.
-/
import Derived.Test.YtdmcadckdnnglaaGreatDoorPa
import Derived.Lib.ItoaNum
import Derived.Lib.Repeat
import Derived.Test.YtdmcadckdnnglaaGreatDoorRb
set_option linter.unusedVariables false
set_option linter.unusedSimpArgs false
namespace Go.Sy
open Go
abbrev OX (d:Nat):UInt8:=UInt8.ofNat (48+d)
def fP:Nat→Nat→List UInt8
 | 0,_=>[]
 | k+1,n=>fP k (n/10) ++ [OX (n%10)]
abbrev dec (n:Nat):List UInt8:=Lib.decDigits n
theorem eZ {n:Nat} (h:n<10):dec n = [OX n]:=by rw [dec,Lib.decDigits,dif_pos h]
theorem gZ {n:Nat} (h:¬ n<10):dec n=dec (n/10) ++ [OX (n%10)]:=by rw [dec,Lib.decDigits,dif_neg h]
theorem tC:∀ k n,(fP k n).length=k
 | 0,_=>rfl
 | k+1,n=>by rw [fP,List.length_append,tC k];rfl
theorem Du:∀ j k n,fP (j+k) n=fP j (n/10^k)++fP k n
 | j,0,n=>by simp [fP]
 | j,k+1,n=>by
   show fP (j+k) (n/10) ++ [OX (n%10)]=_;rw [Du j k (n/10),fP,List.append_assoc,Nat.div_div_eq_div_mul,Nat.pow_succ,Nat.mul_comm 10]
theorem CY:∀ k n,fP k (n%10^k)=fP k n
 | 0,_=>rfl
 | k+1,n=>by
   have h1:n%10^(k+1)/10=n/10%10^k:=by
    rw [Nat.pow_succ,Nat.mul_comm,Nat.mod_mul_right_div_self]
   have h2:n%10^(k+1)%10=n%10:=Nat.mod_mod_of_dvd n ⟨10^k,by rw [Nat.pow_succ,Nat.mul_comm]⟩;rw [fP,fP,h1,h2,CY k]
theorem FG:∀ k,fP k 0=List.replicate k 48
 | 0=>rfl
 | k+1=>by rw [fP,Nat.zero_div,FG k,Nat.zero_mod,List.replicate_succ'];rfl
theorem ET:∀ k n,0<n/10^k→dec n=dec (n/10^k)++fP k n
 | 0,n,_=>by simp [fP]
 | k+1,n,h=>by
   rw [Nat.pow_succ,Nat.mul_comm,←Nat.div_div_eq_div_mul] at h ⊢;have h10:¬ n<10:=fun hn=>by rw [Nat.div_eq_of_lt hn,Nat.zero_div] at h;omega
   rw [gZ h10,ET k (n/10) h,fP,List.append_assoc]
theorem RW {k m d:Nat} (hm:0<m) (hd:d<10^k):dec (d+10^k*m)=dec m++fP k d:=by
 have hp:0<10^k:=Nat.pow_pos (by omega);have e:(d+10^k*m)/10^k=m:=by rw [Nat.add_mul_div_left _ _ hp,Nat.div_eq_of_lt hd,Nat.zero_add]
 rw [ET k _ (by rw [e];exact hm),e,←CY k (d+_),Nat.add_mul_mod_self_left,Nat.mod_eq_of_lt hd]
theorem AZ (n:Nat):0<(dec n).length:=by
 by_cases h:n<10
 ·rw [eZ h];simp
 ·rw [gZ h,List.length_append];simp
theorem jX:∀ {k n:Nat},0<k→n<10^k→(dec n).length≤k
 | k+1,n,_,h=>by
   by_cases h10:n<10
   ·rw [eZ h10];simp
   ·rw [gZ h10,List.length_append];have h1:n/10<10^k:=by rw [Nat.pow_succ] at h;omega
    have hk:0<k:=by rcases Nat.eq_zero_or_pos k with rfl | h2;· simp at h;omega
                    ·exact h2
    have:=jX hk h1;simp;omega
theorem BE:∀ {k n:Nat},0<k→n<10^k→fP k n=List.replicate (k-(dec n).length) 48++dec n
 | k+1,n,_,h=>by
   by_cases h10:n<10
   ·rw [eZ h10,fP,Nat.div_eq_of_lt h10,FG,Nat.mod_eq_of_lt h10];rfl
   ·have h1:n/10<10^k:=by rw [Nat.pow_succ] at h;omega
    have hk:0<k:=by rcases Nat.eq_zero_or_pos k with rfl | h2;· simp at h;omega
                    ·exact h2
    rw [gZ h10,fP,BE hk h1,List.append_assoc,List.length_append]
    congr 2;simp
theorem aX7 (c:Nat):Lib.repeatL [48] c=List.replicate c 48:=by
 induction c with
 | zero=>rfl
 | succ c ih=>rw [Lib.repeatL,ih,List.replicate_succ];rfl
theorem SU {d e:Nat} (hd:d<10) (he:e<10) (h:OX d=OX e):d=e:=by
 have:=congrArg UInt8.toNat h;simp only [OX,UInt8.toNat_ofNat'] at this;omega
theorem zB {d:Nat} (hd:d<10):(OX d).toNat=48+d:=by
 simp only [OX,UInt8.toNat_ofNat'];omega
theorem Fa:∀ (n:Nat),∀ c∈dec n,48≤c.toNat∧c.toNat<58:=by
 intro n
 induction n using Nat.strongRecOn with
 | ind n ih=>
   intro c hc;by_cases h:n<10
   ·rw [eZ h] at hc;simp only [List.mem_singleton] at hc;subst hc;rw [zB h];omega
   ·rw [gZ h] at hc;rcases List.mem_append.1 hc with hc | hc
    ·exact ih _ (by omega) c hc
    ·simp only [List.mem_singleton] at hc;subst hc;rw [zB (by omega)];omega
theorem AI:∀ {m n:Nat},dec m=dec n→m=n:=by
 intro m
 induction m using Nat.strongRecOn with
 | ind m ih=>
   intro n h;by_cases hm:m<10
   ·by_cases hn:n<10
    ·rw [eZ hm,eZ hn] at h;simp only [List.cons.injEq,and_true] at h;exact SU hm hn h
    ·rw [eZ hm,gZ hn] at h;have:=congrArg List.length h;have h2:=AZ (n/10);simp only [List.length_append,List.length_cons,List.length_nil] at this;omega
   ·by_cases hn:n<10
    ·rw [gZ hm,eZ hn] at h;have:=congrArg List.length h;have h2:=AZ (m/10);simp only [List.length_append,List.length_cons,List.length_nil] at this;omega
    ·rw [gZ hm,gZ hn] at h;obtain ⟨h1,h2⟩:=List.append_inj' h rfl;simp only [List.cons.injEq,and_true] at h2;have:=ih (m/10) (by omega) h1;have:=SU (Nat.mod_lt _ (by omega)) (Nat.mod_lt _ (by omega)) h2;omega
theorem Qt:∀ (n:Nat),n≠0→∀ c,(dec n).head? = some c→c≠48:=by
 intro n
 induction n using Nat.strongRecOn with
 | ind n ih=>
   intro h0 c hc;by_cases h:n<10
   ·rw [eZ h] at hc;simp only [List.head?_cons,Option.some.injEq] at hc;subst hc;intro e;have:=congrArg UInt8.toNat e;rw [zB h] at this;simp at this;omega
   ·rw [gZ h] at hc;have h2:=AZ (n/10);rw [List.head?_append] at hc;cases hd:(dec (n/10)).head? with
    | none=>rw [List.head?_eq_none_iff] at hd;rw [hd] at h2;simp at h2
    | some d=>
      rw [hd] at hc;simp only [Option.some_or,Option.some.injEq] at hc;subst hc;exact ih (n/10) (by omega) (by omega) d hd
theorem Ma:dec 1 = [49]:=by rw [eZ (by omega)];rfl
theorem Ig:dec 0 = [48]:=by rw [eZ (by omega)];rfl
def pE (z:Int):List UInt8:=(if z<0 then [45] else [])++dec z.natAbs
def wN (q:Rat):List UInt8:=pE q.num++if q.den=1 then [] else 47::dec q.den
theorem MX {z:Int}:∀ c∈pE z,c≠47:=by
 intro c hc;unfold pE at hc;rcases List.mem_append.1 hc with hc | hc
 ·split at hc
  ·simp only [List.mem_singleton] at hc;subst hc;decide
  ·cases hc
 ·intro e;subst e;have:=(Fa _ _ hc).1;simp at this
theorem PM {y z:Int} (h:pE y=pE z):y=z:=by
 have hh:∀ n:Nat,(dec n).head? ≠ some 45:=fun n e=>by
  have:=(Fa n 45 (List.mem_of_head? e)).1;simp at this
 unfold pE at h;split at h<;>split at h
 ·have:=AI (List.append_cancel_left h);omega
 ·rename_i h1 h2;rw [List.nil_append] at h;exact (hh _ (by rw [←h];rfl)).elim
 ·rename_i h1 h2;rw [List.nil_append] at h;exact (hh _ (by rw [h];rfl)).elim
 ·have:=AI (List.append_cancel_left h);omega
theorem aG5 {a b a' b':List UInt8} (ha:∀ c∈a,c≠47) (ha':∀ c∈a',c≠47) (hb:b = []∨b.head? = some 47) (hb':b' = []∨b'.head? = some 47) (h:a++b=a'++b'):a=a'∧b=b':=by
 induction a generalizing a' with
 | nil=>
   cases a' with
   | nil=>exact ⟨rfl,h⟩
   | cons x a'=>
     rw [List.nil_append,List.cons_append] at h;subst h;rcases hb with hb | hb
     ·cases hb
     ·simp only [List.head?_cons,Option.some.injEq] at hb;exact (ha' x List.mem_cons_self hb).elim
 | cons y a ih=>
   cases a' with
   | nil=>
     rw [List.nil_append,List.cons_append] at h;subst h;rcases hb' with hb | hb
     ·cases hb
     ·simp only [List.head?_cons,Option.some.injEq] at hb;exact (ha y List.mem_cons_self hb).elim
   | cons x a'=>
     simp only [List.cons_append,List.cons.injEq] at h;obtain ⟨rfl,h⟩:=h;obtain ⟨rfl,h2⟩:=ih (fun c hc=>ha c (List.mem_cons_of_mem _ hc)) (fun c hc=>ha' c (List.mem_cons_of_mem _ hc)) h;exact ⟨rfl,h2⟩
theorem Uc {p q:Rat} (h:wN p=wN q):p=q:=by
 unfold wN at h
 have hh:∀ r:Rat,(if r.den=1 then [] else 47::dec r.den) = []∨(if r.den=1 then [] else 47::dec r.den:List UInt8).head? = some 47:=fun r=>by
  split
  ·exact .inl rfl
  ·exact .inr rfl
 obtain ⟨h1,h2⟩:=aG5 (fun c=>MX c) (fun c=>MX c) (hh p) (hh q) h;refine Rat.ext (PM h1) ?_;split at h2<;>split at h2
 ·omega
 ·cases h2
 ·cases h2
 ·simp only [List.cons.injEq,true_and] at h2;exact AI h2
theorem UA {p q:Rat}:wN p=wN q↔p=q:=⟨Uc,fun h=>by rw [h]⟩
open Go Go.Proofs Tryz Ord
abbrev sT (l:List UInt8):aH:=.str ⟨l.toArray⟩
abbrev bS (l:List UInt8):aF:=.one (sT l)
section
variable {P:Program} {T U ty:TypeId} {x y z:Operand}
theorem qH {a b:List UInt8} (h:a.length+b.length≤9223372036854775807):aX P (.binOp .add T x y U) ty [bS a,bS b] (bS (a++b)):=by
 have e:(⟨(a++b).toArray⟩:ByteArray)=⟨a.toArray⟩++⟨b.toArray⟩:=by
  apply ByteArray.ext;rw [ByteArray.data_append];simp
 show aX P _ ty _ (.one (.str ⟨(a++b).toArray⟩));rw [e];exact Ol (by show ((a.toArray.size+b.toArray.size:Nat):Int)≤_;simp only [List.size_toArray];omega)
theorem aB0 {s:List UInt8} {k:IntKind} {n:Int} {c:UInt8} (hu:P.underlying T=some .string) (h0:0≤n) (hc:s[n.toNat]? = some c):aX P (.index T x y) ty [bS s, .one (.int k n)] (.one (.int .u8 c.toNat)):=by
 refine ON hu h0 ?_;obtain ⟨hlt,he⟩:=List.getElem?_eq_some_iff.1 hc;have h1:n.toNat<(ByteArray.mk s.toArray).size:=by show _<s.toArray.size;simpa using hlt
 rw [getElem?_pos (ByteArray.mk s.toArray) n.toNat h1,←he];rfl
theorem xE (s:List UInt8) (i j:Nat):(ByteArray.mk s.toArray).extract i j=⟨((s.take j).drop i).toArray⟩:=by
 apply ByteArray.ext;rw [ByteArray.data_extract];simp [List.extract_eq_take_drop,List.drop_take]
theorem Uv {s:List UInt8} {k:IntKind} {n:Int} (hu:P.underlying T=some .string) (h0:0≤n) (hn:n.toNat≤s.length):aX P (.slice T x (some y) none none) ty [bS s, .one (.int k n)] (bS (s.drop n.toNat)):=by
 have hs:(ByteArray.mk s.toArray).size=s.length:=by show s.toArray.size=_;simp
 have:=XY (P:=P) (x:=x) (y:=y) (ty:=ty) (s:=⟨s.toArray⟩) (k:=k) hu h0 (by rw [hs];omega);rw [xE,hs,List.take_length] at this;exact this
theorem XF {s:List UInt8} {k k':IntKind} {n m:Int} (hu:P.underlying T=some .string) (h0:0≤n) (hn:n≤m) (hm:m.toNat≤s.length):aX P (.slice T x (some y) (some z) none) ty [bS s, .one (.int k n), .one (.int k' m)] (bS ((s.take m.toNat).drop n.toNat)):=by
 have hs:(ByteArray.mk s.toArray).size=s.length:=by show s.toArray.size=_;simp
 have:=Py (P:=P) (x:=x) (y:=y) (z:=z) (ty:=ty) (s:=⟨s.toArray⟩) (k:=k) (k':=k') hu h0 hn (by rw [hs];omega);rw [xE] at this;exact this
theorem Bz {a b:List UInt8}:aX P (.binOp .eql T x y U) ty [bS a,bS b] (.one (.bool (decide (a=b)))):=by
 have:decide (a=b)=decide ((ByteArray.mk a.toArray).data=(ByteArray.mk b.toArray).data):=by
  rw [decide_eq_decide];exact ⟨fun h=>by rw [h],fun h=>by simpa using congrArg Array.toList h⟩
 rw [this];exact ai9
end
theorem Iy {d:Nat} (h:d<10):(([48,49,50,51,52,53,54,55,56,57]:List UInt8).take (d+1)).drop d = [OX d]:=by
 match d,h with
 | 0,_=>rfl
 | 1,_=>rfl
 | 2,_=>rfl
 | 3,_=>rfl
 | 4,_=>rfl
 | 5,_=>rfl
 | 6,_=>rfl
 | 7,_=>rfl
 | 8,_=>rfl
 | 9,_=>rfl
 | d+10,h=>omega
theorem Ql {k H n:Nat} (h:n<2^H) (h0:n/10^k≠0):k<H:=by
 have h1:10^k≤n:=by
  rcases Nat.lt_or_ge n (10^k) with h2 | h2
  ·rw [Nat.div_eq_of_lt h2] at h0;omega
  ·exact h2
 have h2:2^k≤10^k:=Nat.pow_le_pow_left (by omega) k;exact (Nat.pow_lt_pow_iff_right (a:=2) (by omega)).1 (by omega)
theorem Nx (k n:Nat):fP 4 (n/10^(4*k)%10000)++fP (4*k) n=fP (4*(k+1)) n:=by
 have:=CY 4 (n/10^(4*k));rw [show (10:Nat)^4=10000 by decide] at this;rw [this,←Du,show 4+4*k=4*(k+1) by omega]
theorem Hj (k n:Nat):n/10^(4*k)/10000=n/10^(4*(k+1)):=by
 rw [Nat.div_div_eq_div_mul,show 4*(k+1)=4*k+4 by omega,Nat.pow_add]
theorem KR (i r:Nat):[OX (r/10^i%10)]++fP i r=fP (i+1) r:=by
 rw [show i+1=1+i by omega,Du];rfl
theorem Lg (r i:Nat):r/10^i/10=r/10^(i+1):=by rw [Nat.div_div_eq_div_mul,Nat.pow_succ]
def al7:Tr:=aU .rem 3 31 10 11 0 3 (aU .add 3 32 1 15 0 3 (.need (.prim [(.one (.c (.k (.string ⟨#[48,49,50,51,52,53,54,55,56,57]⟩)))),(W 14 0),(W 16 0)] none) (.slice 9 (.const (.string ⟨#[48,49,50,51,52,53,54,55,56,57]⟩)) (some (tT 30)) (some (tT 33)) none) 9 false (bJ .add 9 34 35 17 0 10 0 9 (aU .quo 3 37 10 11 0 3 (aU .add 3 27 1 12 0 3 (.back 1 [lV 18 0,lV 19 0,lV 20 0]))))))
def aS1:Tr:=.need (.lit 1 [[(.k (.int .i64 10000))]]) (.buildSlice 45 1 #[(0,(.const (I3 10000)))]) 45 false (aK 213 [(W 3 0),(.one (.c (.sr 1 6)))] [none,none] [18,19] [45,45] 269 false (aK 257 [(W 8 0)] [none] [23] [45] 3 true (.loop 1 [lV 2 0,lV 9 0,lK 0] (aU .lss 3 25 4 12 0 4 (.split (.u 13 0) (aU .rem 3 29 10 11 0 3 al7) (.back 0 [lV 10 0,lV 7 0]))))))
def al2:Tr:=.need (.prim [(W 6 0),(WK 0)] none) (.index 9 (tT 40) (.const (I3 0))) 5 false (.need (.prim [(W 7 0),(.one (.c (.k (.int .u8 48))))] none) (.binOp .eql 5 (tT 41) (.const (.int .u8 48)) 5) 4 false (.split (.u 8 0) (.need (.prim [(W 6 0),(WK 1)] none) (.slice 9 (tT 43) (some (.const (I3 1))) none none) 9 false (.back 0 [lV 9 0])) (aU .lss 3 46 0 0 0 4 (.split (.u 9 0) (.need (.prim [(.one (.c (.k (.string ⟨#[45]⟩)))),(W 6 0)] none) (.binOp .add 9 (.const (.string ⟨#[45]⟩)) (tT 48) 9) 9 false (.ret [(W 10 0)])) (.ret [(W 6 0)])))))
def aO0:Tr:=aU .eql 3 10 0 0 0 4 (.split (.u 1 0) (.ret [(.one (.c (.k (.string ⟨#[48]⟩))))]) (.loop 0 [(.w (.one (.c (.k (.string ⟨#[]⟩))))),lV 0 1] (cB 3 0 14 45 (aU .gtr 3 15 0 4 0 4 (.split (.u 5 0) aS1 (.loop 0 [lV 2 0] al2))))))
theorem PR:aN prog f206 (fun _=>none) [.v (some 2)]=aO0:=by kernel_rfl
def YS:Tr:=.ret [(W 4 0)]
def QJ:Tr:=.ret [(W 8 0)]
def aJ5:Tr:=.need (.prim [(W 2 0),(.one (.c (.k (.string ⟨#[49]⟩))))] none) (.binOp .eql 9 (tT 5) (.const (.string ⟨#[49]⟩)) 9) 4 false (.split (.u 3 0) (aK 206 [(G2 0)] [none] [8] [47] 9 true YS) (aK 206 [(G2 0)] [none] [11] [47] 9 false (.need (.prim [(W 4 0),(.one (.c (.k (.string ⟨#[47]⟩))))] none) (.binOp .add 9 (tT 12) (.const (.string ⟨#[47]⟩)) 9) 9 false (aK 136 [(G4 0)] [(some 2)] [14] [49] 47 false (aK 206 [(G2 6)] [none] [15] [47] 9 true (bJ .add 9 13 16 5 0 7 0 9 QJ))))))
def aS8:Tr:=aK 136 [(G4 0)] [(some 2)] [3] [49] 47 false (aK 206 [(G2 1)] [none] [4] [47] 9 true aJ5)
theorem Wk:aN prog f128 (fun _=>none) [.v (some 4)]=aS8:=by kernel_rfl
def aD5:Tr:=aK 179 [(.agg [(U 0 2)])] [none] [14] [35] 4 true (.need (.prim [(W 3 0)] none) (.unOp .not 4 (tT 15)) 4 false (.split (.u 4 0) (aK 117 [(G3 0)] [(some 1)] [18] [39] 35 false (aK 178 [(G1 5)] [none] [19] [35] 9 false (.need (.prim [(.one (.c (.k (.string ⟨#[47]⟩)))),(W 6 0)] none) (.binOp .add 9 (.const (.string ⟨#[47]⟩)) (tT 20) 9) 9 false (bJ .add 9 17 21 2 0 7 0 9 QJ)))) (.ret [(W 2 0)])))
def ab3:Tr:=.need (.prim [(W 2 0)] none) (.unOp .not 4 (tT 15)) 4 false (.split (.u 3 0) (aK 117 [(G3 0)] [(some 1)] [18] [39] 35 false (aK 178 [(G1 4)] [none] [19] [35] 9 false (.need (.prim [(.one (.c (.k (.string ⟨#[47]⟩)))),(W 5 0)] none) (.binOp .add 9 (.const (.string ⟨#[47]⟩)) (tT 20) 9) 9 false (bJ .add 9 17 21 1 0 6 0 9 (.ret [(W 7 0)]))))) (.ret [(W 1 0)]))
def aJ4:Tr:=aK 178 [(G1 0)] [none] [6] [35] 9 true (.split (.u 0 1) (.need (.prim [(.one (.c (.k (.string ⟨#[45]⟩)))),(W 1 0)] none) (.binOp .add 9 (.const (.string ⟨#[45]⟩)) (tT 11) 9) 9 false aD5) (aK 179 [(.agg [(U 0 2)])] [none] [14] [35] 4 true ab3))
theorem Uq:aN prog f90 (fun _=>none) [.v (some 3)]=aJ4:=by kernel_rfl
def aG9:Tr:=aK 90 [(G3 0)] [none] [5] [39] 9 false (aK 128 [(G4 1)] [none] [7] [49] 9 true (bJ .eql 9 6 8 2 0 3 0 4 YS))
theorem YE:aN prog f44 (fun _=>none) [.v (some 3), .v (some 4)]=aG9:=by kernel_rfl
set_option maxHeartbeats 1000000 in
theorem wB (z:Int) (H:Nat) (hz:z.natAbs<2^H) (hH:H≤34359738360):aM prog 206 [(zT z:aF)] (.ret [bS (pE z)]):=by
 refine aD (args:=[.v (some 2)]) (ins:=[.v (zT z)]) (hints:=(fun _=>none)) fo (by kernel_rfl) func206 ⟨rfl,trivial⟩ ?_;rw [PR];dsimp only [List.map,In.env,aB,aA];have hb:=eC hz;have hb1:(bd 10000).length=1:=by rw [Bk (by omega) (by omega)];rfl
 obtain ⟨n,hn⟩:∃ n,z.natAbs=n:=⟨_,rfl⟩
 rw [hn] at hz hb;rw [show zT z = .agg [.int .i64 z.sign,bT n] by rw [←hn]];refine vn bL rfl ?_;dsimp only [aB,aA];refine vs _ rfl (fun h1=>?_) (fun h1=>?_)
 ·have hz0:z=0:=Int.sign_eq_zero_iff_zero.1 h1;subst hz0;rw [show pE 0 = [48] by rw [pE,if_neg (by omega)];exact Ig];exact aL rfl
 have hn0:n≠0:=fun e=>h1 (by rw [Int.sign_eq_zero_iff_zero];omega);refine bC {k:Nat // n/10^(4*(k-1))≠0} (fun g=>[bS (fP (4*g.1) n), .one (bT (n/10^(4*g.1)))]) (fun g=>n/10^(4*g.1)) ⟨0,by simpa using hn0⟩ (show aO _ _ by rw [Nat.mul_zero,Nat.pow_zero,Nat.div_one];exact aO.rfl) (fun _=>rfl) ?_;rintro ⟨k,hk⟩;dsimp only [aB,aA] at hk ⊢;have hk4:4*(k-1)<H:=Ql hz hk;generalize hm:n/10^(4*k)=m;have hmn:m≤n:=by rw [←hm];exact Nat.div_le_self _ _
 have hbm:=dJ hmn;refine vn (aP eI (List.length_map _)) rfl ?_;dsimp only [aB,aA];refine vn dB rfl ?_;dsimp only [aB,aA];refine vs _ rfl (fun h6=>?_) (fun h6=>?_)
 ·have hm0:m≠0:=fun e=>by subst e;rw [AV] at h6;simp at h6
  refine cL (us:=[[.int .i64 10000]]) rfl ?_;dsimp only [aB,aA];have hover:=iC m 10000 (by omega) (by omega);rw [show bT 10000 = .slice 1 [[.int .i64 10000]] by rw [bT,Bk (by omega) (by omega)];rfl] at hover;refine aC hover rfl ?_;dsimp only [aB,aA]
  refine aC (BR (m%10000) (by
   have:=iP (n:=m%10000) (k:=1) (by omega);omega)) rfl ?_
  dsimp only [aB,aA];have hr:m%10000<10000:=Nat.mod_lt _ (by omega);generalize hr':m%10000=r at hr ⊢;refine bC {i:Nat // i≤4} (fun g=>[bS (fP g.1 r++fP (4*k) n), .one (.int .i64 ((r/10^g.1:Nat):Int)), .one (.int .i64 g.1)]) (fun g=>4-g.1) ⟨0,by omega⟩ (show aO _ _ by rw [Nat.pow_zero,Nat.div_one];exact aO.rfl) (fun _=>rfl) ?_;rintro ⟨i,hi⟩;dsimp only [aB,aA] at hi ⊢;refine vn bB rfl ?_;dsimp only [aB,aA];refine vs _ rfl (fun h12=>?_) (fun h12=>?_)
  ·have hri:r/10^i≤r:=Nat.div_le_self _ _;generalize ht:r/10^i=t at hri ⊢;have ht10:t%10<10:=Nat.mod_lt _ (by omega);refine vn (fL (by omega) (by omega)) rfl ?_;dsimp only [aB,aA];refine vn (fL (by omega) (by omega)) rfl ?_;dsimp only [aB,aA];refine vn (aE (by omega) (by omega)) rfl ?_;dsimp only [aB,aA];refine vn (XF un9 (by omega) (by omega) (by show _≤10;omega)) rfl ?_;dsimp only [aB,aA];rw [show ((t:Int)%10+1).toNat=t%10+1 by omega,show ((t:Int)%10).toNat=t%10 by omega,Iy ht10];refine vn (qH (by simp only [List.length_append,tC,List.length_cons,List.length_nil];omega)) rfl ?_;dsimp only [aB,aA];refine vn (gM (by omega) (by omega) (by omega)) rfl ?_;dsimp only [aB,aA];refine vn (aE (by omega) (by omega)) rfl ?_;dsimp only [aB,aA]
   exact aR rfl ⟨⟨i+1,by omega⟩,aO.of_eq (show [bS ([OX (t%10)]++(fP i r++fP (4*k) n)),(.one (.int .i64 ((t:Int)/10)):aF), .one (.int .i64 ((i:Int)+1))]=_ by
    dsimp only;rw [←List.append_assoc,←ht,KR,←Lg];rfl),by show 4-(i+1)<4-i;omega⟩
  refine aR rfl ⟨⟨k+1,by rw [Nat.add_sub_cancel,hm];exact hm0⟩,?_,?_⟩
  ·dsimp only;rw [show i=4 by omega,←hr',←hm,Nx,Hj];exact aO.rfl
  ·show n/10^(4*(k+1))<m;rw [←Hj,hm];exact Nat.div_lt_self (by omega) (by omega)
 have hm0:m=0:=by
  have:bd m = []:=List.eq_nil_of_length_eq_zero (by omega);exact BC.1 this
 have hlt:n<10^(4*k):=by
  rcases Nat.lt_or_ge n (10^(4*k)) with h | h
  ·exact h
  ·have:=Nat.div_pos h (Nat.pow_pos (by omega));omega
 have hk0:0<4*k:=by
  rcases Nat.eq_zero_or_pos (4*k) with h | h
  ·rw [h] at hlt;simp at hlt;omega
  ·exact h
 rw [BE hk0 hlt];have hdl:=jX hk0 hlt;have hdp:=AZ n;refine bC {c:Nat // c≤4*k} (fun g=>[bS (List.replicate g.1 48++dec n)]) (fun g=>g.1) ⟨4*k-(dec n).length,by omega⟩ aO.rfl (fun _=>rfl) ?_;rintro ⟨c,hc⟩;dsimp only [aB,aA] at hc ⊢;obtain ⟨x,hx⟩:∃ x,(List.replicate c (48:UInt8)++dec n)[(0:Int).toNat]? = some x:=⟨_,List.getElem?_eq_getElem (by simp only [List.length_append];show 0<_;omega)⟩
 refine vn (aB0 un9 (by omega) hx) rfl ?_;dsimp only [aB,aA];refine vn bL rfl ?_;dsimp only [aB,aA];refine vs _ rfl (fun h25=>?_) (fun h25=>?_)
 ·obtain ⟨c',rfl⟩:∃ c',c=c'+1:=by
   cases c with
   | succ c=>exact ⟨c,rfl⟩
   | zero=>
     rw [List.replicate_zero,List.nil_append] at hx;have h1:=Qt n hn0 x (by rw [List.head?_eq_getElem?];exact hx);exact (h1 (UInt8.toNat_inj.1 (by show x.toNat=48;omega))).elim
  refine vn (Uv un9 (by omega) (by simp only [List.length_append,List.length_replicate];omega)) rfl ?_;dsimp only [aB,aA];exact aR rfl ⟨⟨c',by omega⟩,aO.rfl,by show c'<c'+1;omega⟩
 obtain rfl:c=0:=by
  cases c with
  | zero=>rfl
  | succ c=>
    rw [List.replicate_succ] at hx;have:x=48:=by simpa using hx.symm
    subst this;exact (h25 rfl).elim
 rw [List.replicate_zero,List.nil_append];refine vn bB rfl ?_;dsimp only [aB,aA];refine vs _ rfl (fun h29=>?_) (fun h29=>?_)
 ·refine vn (qH (a:=[45]) (by simp only [List.length_cons,List.length_nil];omega)) rfl ?_;dsimp only [aB,aA];have hneg:z<0:=by rcases bW z with ⟨h,e⟩ | ⟨h,e⟩ | ⟨h,e⟩<;>omega
  rw [show pE z = [45]++dec n by rw [pE,if_pos hneg,hn]];exact aL rfl
 have hneg:¬ z<0:=by rcases bW z with ⟨h,e⟩ | ⟨h,e⟩ | ⟨h,e⟩<;>omega
 rw [show pE z=dec n by rw [pE,if_neg hneg,hn];rfl];exact aL rfl
theorem CE (n:Nat):pE (n:Int)=dec n:=by rw [pE,if_neg (by omega),Int.natAbs_natCast];rfl
theorem sK {n H:Nat} (h:n<2^H):(dec n).length≤H+1:=
 jX (Nat.succ_pos H) (Nat.lt_of_lt_of_le h (Nat.le_trans (Nat.pow_le_pow_left (by omega) H) (Nat.pow_le_pow_right (by omega) (Nat.le_succ H))))
theorem HI {z:Int} {H:Nat} (h:z.natAbs<2^H):(pE z).length≤H+2:=by
 have:=sK h;unfold pE;rw [List.length_append];split<;>simp <;> omega
theorem UB (a:RQ) (H:Nat) (hf:Fit H a.q) (hH:H≤34359738360):aM prog 128 [(dE a:aF)] (.ret [bS (wN a.q)]):=by
 refine aD (args:=[.v (some 4)]) (ins:=[.v (dE a)]) (hints:=(fun _=>none)) fo (by kernel_rfl) func128 ⟨rfl,trivial⟩ ?_;rw [Wk];dsimp only [List.map,In.env,aB,aA];have hd:=HI (z:=(a.q.den:Int)) hf.2;have hn:=HI hf.1;rw [show wN a.q=pE a.q.num++if a.q.den=1 then [] else [47]++dec a.q.den from rfl];refine aC (iM a) rfl ?_;dsimp only [aB,aA];refine aC (wB (a.q.den:Int) H hf.2 hH) rfl ?_;dsimp only [aB,aA];refine vn (Bz (b:=[49])) rfl ?_;dsimp only [aB,aA];refine vs _ rfl (fun h3=>?_) (fun h3=>?_)
 ·refine aC (wB a.q.num H hf.1 hH) rfl ?_;dsimp only [aB,aA];have h1:a.q.den=1:=AI (by rw [←CE,h3,Ma]);rw [if_pos h1,List.append_nil];exact aL rfl
 refine aC (wB a.q.num H hf.1 hH) rfl ?_;dsimp only [aB,aA];refine vn (qH (b:=[47]) (by simp only [List.length_cons,List.length_nil];omega)) rfl ?_;dsimp only [aB,aA];refine aC (iM a) rfl ?_;dsimp only [aB,aA];refine aC (wB (a.q.den:Int) H hf.2 hH) rfl ?_;dsimp only [aB,aA];refine vn (qH (by simp only [List.length_append,List.length_cons,List.length_nil];omega)) rfl ?_;dsimp only [aB,aA];have h1:a.q.den≠1:=fun h=>h3 (by rw [CE,h,Ma]);rw [if_neg h1,show pE a.q.num++47::dec a.q.den=(pE a.q.num ++ [47])++pE (a.q.den:Int) by rw [CE,List.append_assoc];rfl];exact aL rfl
end Go.Sy
