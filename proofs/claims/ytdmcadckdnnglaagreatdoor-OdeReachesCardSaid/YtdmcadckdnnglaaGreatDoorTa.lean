/- Decimal digits: so many of them, and those of a number. The texts of numbers.
-/
import Derived.Test.YtdmcadckdnnglaaGreatDoorPa
import Derived.Lib.ItoaNum
import Derived.Lib.Repeat
import Derived.Test.YtdmcadckdnnglaaGreatDoorRb
set_option linter.unusedVariables false
set_option linter.unusedSimpArgs false
namespace Go.Sy
open Go
abbrev Nu (d:Nat):UInt8:=UInt8.ofNat (48 + d)
def fU:Nat → Nat → List UInt8
 | 0,_=>[]
 | k + 1,n=>fU k (n / 10) ++ [Nu (n % 10)]
abbrev dec (n:Nat):List UInt8:=Lib.decDigits n
theorem fF {n:Nat} (h:n < 10):dec n = [Nu n]:=by rw [dec,Lib.decDigits,dif_pos h]
theorem gT {n:Nat} (h:¬ n < 10):dec n = dec (n / 10) ++ [Nu (n % 10)]:=by rw [dec,Lib.decDigits,dif_neg h]
theorem sC:∀ k n,(fU k n).length = k
 | 0,_=>rfl
 | k + 1,n=>by rw [fU,List.length_append,sC k]; rfl
theorem CY:∀ j k n,fU (j + k) n = fU j (n / 10 ^ k) ++ fU k n
 | j,0,n=>by simp [fU]
 | j,k + 1,n=>by
   show fU (j + k) (n / 10) ++ [Nu (n % 10)] = _
   rw [CY j k (n / 10),fU,List.append_assoc,Nat.div_div_eq_div_mul,Nat.pow_succ,Nat.mul_comm 10]
theorem BU:∀ k n,fU k (n % 10 ^ k) = fU k n
 | 0,_=>rfl
 | k + 1,n=>by
   have h1:n % 10 ^ (k + 1) / 10 = n / 10 % 10 ^ k:=by
    rw [Nat.pow_succ,Nat.mul_comm,Nat.mod_mul_right_div_self]
   have h2:n % 10 ^ (k + 1) % 10 = n % 10:=Nat.mod_mod_of_dvd n ⟨10 ^ k,by rw [Nat.pow_succ,Nat.mul_comm]⟩
   rw [fU,fU,h1,h2,BU k]
theorem EC:∀ k,fU k 0 = List.replicate k 48
 | 0=>rfl
 | k + 1=>by rw [fU,Nat.zero_div,EC k,Nat.zero_mod,List.replicate_succ']; rfl
theorem EK:∀ k n,0 < n / 10 ^ k → dec n = dec (n / 10 ^ k) ++ fU k n
 | 0,n,_=>by simp [fU]
 | k + 1,n,h=>by
   rw [Nat.pow_succ,Nat.mul_comm,← Nat.div_div_eq_div_mul] at h ⊢
   have h10:¬ n < 10:=fun hn=>by rw [Nat.div_eq_of_lt hn,Nat.zero_div] at h; omega
   rw [gT h10,EK k (n / 10) h,fU,List.append_assoc]
theorem Oe {k m d:Nat} (hm:0 < m) (hd:d < 10 ^ k):dec (d + 10 ^ k * m) = dec m ++ fU k d:=by
 have hp:0 < 10 ^ k:=Nat.pow_pos (by omega)
 have e:(d + 10 ^ k * m) / 10 ^ k = m:=by rw [Nat.add_mul_div_left _ _ hp,Nat.div_eq_of_lt hd,Nat.zero_add]
 rw [EK k _ (by rw [e]; exact hm),e,← BU k (d + _),Nat.add_mul_mod_self_left,Nat.mod_eq_of_lt hd]
theorem Bt (n:Nat):0 < (dec n).length:=by
 by_cases h:n < 10
 ·rw [fF h]; simp
 ·rw [gT h,List.length_append]; simp
theorem jQ:∀ {k n:Nat},0 < k → n < 10 ^ k → (dec n).length ≤ k
 | k + 1,n,_,h=>by
   by_cases h10:n < 10
   ·rw [fF h10]; simp
   ·rw [gT h10,List.length_append]
    have h1:n / 10 < 10 ^ k:=by rw [Nat.pow_succ] at h; omega
    have hk:0 < k:=by rcases Nat.eq_zero_or_pos k with rfl | h2; · simp at h; omega
                      ·exact h2
    have:=jQ hk h1
    simp; omega
theorem Cs:∀ {k n:Nat},0 < k → n < 10 ^ k → fU k n = List.replicate (k - (dec n).length) 48 ++ dec n
 | k + 1,n,_,h=>by
   by_cases h10:n < 10
   ·rw [fF h10,fU,Nat.div_eq_of_lt h10,EC,Nat.mod_eq_of_lt h10]; rfl
   ·have h1:n / 10 < 10 ^ k:=by rw [Nat.pow_succ] at h; omega
    have hk:0 < k:=by rcases Nat.eq_zero_or_pos k with rfl | h2; · simp at h; omega
                      ·exact h2
    rw [gT h10,fU,Cs hk h1,List.append_assoc,List.length_append]
    congr 2; simp
theorem aL4 (c:Nat):Lib.repeatL [48] c = List.replicate c 48:=by
 induction c with
 | zero=>rfl
 | succ c ih=>rw [Lib.repeatL,ih,List.replicate_succ]; rfl
theorem PG {d e:Nat} (hd:d < 10) (he:e < 10) (h:Nu d = Nu e):d = e:=by
 have:=congrArg UInt8.toNat h
 simp only [Nu,UInt8.toNat_ofNat'] at this
 omega
theorem zO {d:Nat} (hd:d < 10):(Nu d).toNat = 48 + d:=by
 simp only [Nu,UInt8.toNat_ofNat']; omega
theorem Eh:∀ (n:Nat),∀ c ∈ dec n,48 ≤ c.toNat ∧ c.toNat < 58:=by
 intro n
 induction n using Nat.strongRecOn with
 | ind n ih=>
   intro c hc
   by_cases h:n < 10
   ·rw [fF h] at hc
    simp only [List.mem_singleton] at hc
    subst hc
    rw [zO h]; omega
   ·rw [gT h] at hc
    rcases List.mem_append.1 hc with hc | hc
    ·exact ih _ (by omega) c hc
    ·simp only [List.mem_singleton] at hc
     subst hc
     rw [zO (by omega)]; omega
theorem Bk:∀ {m n:Nat},dec m = dec n → m = n:=by
 intro m
 induction m using Nat.strongRecOn with
 | ind m ih=>
   intro n h
   by_cases hm:m < 10
   ·by_cases hn:n < 10
    ·rw [fF hm,fF hn] at h
     simp only [List.cons.injEq,and_true] at h
     exact PG hm hn h
    ·rw [fF hm,gT hn] at h
     have:=congrArg List.length h
     have h2:=Bt (n / 10)
     simp only [List.length_append,List.length_cons,List.length_nil] at this; omega
   ·by_cases hn:n < 10
    ·rw [gT hm,fF hn] at h
     have:=congrArg List.length h
     have h2:=Bt (m / 10)
     simp only [List.length_append,List.length_cons,List.length_nil] at this; omega
    ·rw [gT hm,gT hn] at h
     obtain ⟨h1,h2⟩:=List.append_inj' h rfl
     simp only [List.cons.injEq,and_true] at h2
     have:=ih (m / 10) (by omega) h1
     have:=PG (Nat.mod_lt _ (by omega)) (Nat.mod_lt _ (by omega)) h2
     omega
theorem Oj:∀ (n:Nat),n ≠ 0 → ∀ c,(dec n).head? = some c → c ≠ 48:=by
 intro n
 induction n using Nat.strongRecOn with
 | ind n ih=>
   intro h0 c hc
   by_cases h:n < 10
   ·rw [fF h] at hc
    simp only [List.head?_cons,Option.some.injEq] at hc
    subst hc
    intro e
    have:=congrArg UInt8.toNat e
    rw [zO h] at this
    simp at this; omega
   ·rw [gT h] at hc
    have h2:=Bt (n / 10)
    rw [List.head?_append] at hc
    cases hd:(dec (n / 10)).head? with
    | none=>rw [List.head?_eq_none_iff] at hd; rw [hd] at h2; simp at h2
    | some d=>
      rw [hd] at hc
      simp only [Option.some_or,Option.some.injEq] at hc
      subst hc
      exact ih (n / 10) (by omega) (by omega) d hd
theorem KJ:dec 1 = [49]:=by rw [fF (by omega)]; rfl
theorem Ii:dec 0 = [48]:=by rw [fF (by omega)]; rfl
def oS (z:Int):List UInt8:=(if z < 0 then [45] else []) ++ dec z.natAbs
def wB (q:Rat):List UInt8:=oS q.num ++ if q.den = 1 then [] else 47 :: dec q.den
theorem La {z:Int}:∀ c ∈ oS z,c ≠ 47:=by
 intro c hc
 unfold oS at hc
 rcases List.mem_append.1 hc with hc | hc
 ·split at hc
  ·simp only [List.mem_singleton] at hc; subst hc; decide
  ·cases hc
 ·intro e; subst e
  have:=(Eh _ _ hc).1
  simp at this
theorem Qk {y z:Int} (h:oS y = oS z):y = z:=by
 have hh:∀ n:Nat,(dec n).head? ≠ some 45:=fun n e=>by
  have:=(Eh n 45 (List.mem_of_head? e)).1
  simp at this
 unfold oS at h
 split at h <;> split at h
 ·have:=Bk (List.append_cancel_left h); omega
 ·rename_i h1 h2
  rw [List.nil_append] at h
  exact (hh _ (by rw [← h]; rfl)).elim
 ·rename_i h1 h2
  rw [List.nil_append] at h
  exact (hh _ (by rw [h]; rfl)).elim
 ·have:=Bk (List.append_cancel_left h); omega
theorem as3 {a b a' b':List UInt8} (ha:∀ c ∈ a,c ≠ 47) (ha':∀ c ∈ a',c ≠ 47) (hb:b = [] ∨ b.head? = some 47) (hb':b' = [] ∨ b'.head? = some 47) (h:a ++ b = a' ++ b'):a = a' ∧ b = b':=by
 induction a generalizing a' with
 | nil=>
   cases a' with
   | nil=>exact ⟨rfl,h⟩
   | cons x a'=>
     rw [List.nil_append,List.cons_append] at h
     subst h
     rcases hb with hb | hb
     ·cases hb
     ·simp only [List.head?_cons,Option.some.injEq] at hb
      exact (ha' x List.mem_cons_self hb).elim
 | cons y a ih=>
   cases a' with
   | nil=>
     rw [List.nil_append,List.cons_append] at h
     subst h
     rcases hb' with hb | hb
     ·cases hb
     ·simp only [List.head?_cons,Option.some.injEq] at hb
      exact (ha y List.mem_cons_self hb).elim
   | cons x a'=>
     simp only [List.cons_append,List.cons.injEq] at h
     obtain ⟨rfl,h⟩:=h
     obtain ⟨rfl,h2⟩:=ih (fun c hc=>ha c (List.mem_cons_of_mem _ hc)) (fun c hc=>ha' c (List.mem_cons_of_mem _ hc)) h
     exact ⟨rfl,h2⟩
theorem Qg {p q:Rat} (h:wB p = wB q):p = q:=by
 unfold wB at h
 have hh:∀ r:Rat,(if r.den = 1 then [] else 47 :: dec r.den) = [] ∨ (if r.den = 1 then [] else 47 :: dec r.den:List UInt8).head? = some 47:=fun r=>by
  split
  ·exact .inl rfl
  ·exact .inr rfl
 obtain ⟨h1,h2⟩:=as3 (fun c=>La c) (fun c=>La c) (hh p) (hh q) h
 refine Rat.ext (Qk h1) ?_
 split at h2 <;> split at h2
 ·omega
 ·cases h2
 ·cases h2
 ·simp only [List.cons.injEq,true_and] at h2; exact Bk h2
theorem TK {p q:Rat}:wB p = wB q ↔ p = q:=⟨Qg,fun h=>by rw [h]⟩
end Go.Sy
namespace Go.Sy
open Go Go.Proofs Tryz Ord
abbrev sT (l:List UInt8):aI:=.str ⟨l.toArray⟩
abbrev bS (l:List UInt8):aH:=.one (sT l)
section
variable {P:Program} {T U ty:TypeId} {x y z:Operand}
theorem pZ {a b:List UInt8} (h:a.length + b.length ≤ 9223372036854775807):aV P (.binOp .add T x y U) ty [bS a,bS b] (bS (a ++ b)):=by
 have e:(⟨(a ++ b).toArray⟩:ByteArray) = ⟨a.toArray⟩ ++ ⟨b.toArray⟩:=by
  apply ByteArray.ext
  rw [ByteArray.data_append]
  simp
 show aV P _ ty _ (.one (.str ⟨(a ++ b).toArray⟩))
 rw [e]
 exact MB (by show ((a.toArray.size + b.toArray.size:Nat):Int) ≤ _; simp only [List.size_toArray]; omega)
theorem ab1 {s:List UInt8} {k:IntKind} {n:Int} {c:UInt8} (hu:P.underlying T = some .string) (h0:0 ≤ n) (hc:s[n.toNat]? = some c):aV P (.index T x y) ty [bS s, .one (.int k n)] (.one (.int .u8 c.toNat)):=by
 refine Nk hu h0 ?_
 obtain ⟨hlt,he⟩:=List.getElem?_eq_some_iff.1 hc
 have h1:n.toNat < (ByteArray.mk s.toArray).size:=by show _ < s.toArray.size; simpa using hlt
 rw [getElem?_pos (ByteArray.mk s.toArray) n.toNat h1,← he]
 rfl
theorem uP (s:List UInt8) (i j:Nat):(ByteArray.mk s.toArray).extract i j = ⟨((s.take j).drop i).toArray⟩:=by
 apply ByteArray.ext
 rw [ByteArray.data_extract]
 simp [List.extract_eq_take_drop,List.drop_take]
theorem Tf {s:List UInt8} {k:IntKind} {n:Int} (hu:P.underlying T = some .string) (h0:0 ≤ n) (hn:n.toNat ≤ s.length):aV P (.slice T x (some y) none none) ty [bS s, .one (.int k n)] (bS (s.drop n.toNat)):=by
 have hs:(ByteArray.mk s.toArray).size = s.length:=by show s.toArray.size = _; simp
 have:=Vb (P:=P) (x:=x) (y:=y) (ty:=ty) (s:=⟨s.toArray⟩) (k:=k) hu h0 (by rw [hs]; omega)
 rw [uP,hs,List.take_length] at this
 exact this
theorem VP {s:List UInt8} {k k':IntKind} {n m:Int} (hu:P.underlying T = some .string) (h0:0 ≤ n) (hn:n ≤ m) (hm:m.toNat ≤ s.length):aV P (.slice T x (some y) (some z) none) ty [bS s, .one (.int k n), .one (.int k' m)] (bS ((s.take m.toNat).drop n.toNat)):=by
 have hs:(ByteArray.mk s.toArray).size = s.length:=by show s.toArray.size = _; simp
 have:=NB (P:=P) (x:=x) (y:=y) (z:=z) (ty:=ty) (s:=⟨s.toArray⟩) (k:=k) (k':=k') hu h0 hn (by rw [hs]; omega)
 rw [uP] at this
 exact this
theorem Dc {a b:List UInt8}:aV P (.binOp .eql T x y U) ty [bS a,bS b] (.one (.bool (decide (a = b)))):=by
 have:decide (a = b) = decide ((ByteArray.mk a.toArray).data = (ByteArray.mk b.toArray).data):=by
  rw [decide_eq_decide]
  exact ⟨fun h=>by rw [h],fun h=>by simpa using congrArg Array.toList h⟩
 rw [this]; exact Zg
end
theorem Hn {d:Nat} (h:d < 10):(([48,49,50,51,52,53,54,55,56,57]:List UInt8).take (d + 1)).drop d = [Nu d]:=by
 match d,h with
 | 0,_=>rfl
 | 1,_=>rfl
 | 2,_=>rfl
 | 3,_=>rfl
 | 4,_=>rfl
 | 5,_=>rfl
 | 6,_=>rfl
 | 7,_=>rfl
 | 8,_=>rfl
 | 9,_=>rfl
 | d + 10,h=>omega
theorem QS {k H n:Nat} (h:n < 2 ^ H) (h0:n / 10 ^ k ≠ 0):k < H:=by
 have h1:10 ^ k ≤ n:=by
  rcases Nat.lt_or_ge n (10 ^ k) with h2 | h2
  ·rw [Nat.div_eq_of_lt h2] at h0; omega
  ·exact h2
 have h2:2 ^ k ≤ 10 ^ k:=Nat.pow_le_pow_left (by omega) k
 exact (Nat.pow_lt_pow_iff_right (a:=2) (by omega)).1 (by omega)
theorem MH (k n:Nat):fU 4 (n / 10 ^ (4 * k) % 10000) ++ fU (4 * k) n = fU (4 * (k + 1)) n:=by
 have:=BU 4 (n / 10 ^ (4 * k))
 rw [show (10:Nat) ^ 4 = 10000 by decide] at this
 rw [this,← CY,show 4 + 4 * k = 4 * (k + 1) by omega]
theorem GP (k n:Nat):n / 10 ^ (4 * k) / 10000 = n / 10 ^ (4 * (k + 1)):=by
 rw [Nat.div_div_eq_div_mul,show 4 * (k + 1) = 4 * k + 4 by omega,Nat.pow_add]
theorem JS (i r:Nat):[Nu (r / 10 ^ i % 10)] ++ fU i r = fU (i + 1) r:=by
 rw [show i + 1 = 1 + i by omega,CY]; rfl
theorem Ja (r i:Nat):r / 10 ^ i / 10 = r / 10 ^ (i + 1):=by rw [Nat.div_div_eq_div_mul,Nat.pow_succ]
def Zs:Tr:=aQ .rem 3 31 10 11 0 3 (aQ .add 3 32 1 15 0 3 (.need (.prim [(.one (.c (.k (.string ⟨#[48,49,50,51,52,53,54,55,56,57]⟩)))),(W 14 0),(W 16 0)] none) (.slice 9 (.const (.string ⟨#[48,49,50,51,52,53,54,55,56,57]⟩)) (some (tT 30)) (some (tT 33)) none) 9 false (bK .add 9 34 35 17 0 10 0 9 (aQ .quo 3 37 10 11 0 3 (aQ .add 3 27 1 12 0 3 (.back 1 [lV 18 0,lV 19 0,lV 20 0]))))))
def aq9:Tr:=.need (.lit 1 [[(.k (.int .i64 10000))]]) (.buildSlice 45 1 #[(0,(.const (I3 10000)))]) 45 false (aJ 213 [(W 3 0),(.one (.c (.sr 1 6)))] [none,none] [18,19] [45,45] 269 false (aJ 257 [(W 8 0)] [none] [23] [45] 3 true (.loop 1 [lV 2 0,lV 9 0,lK 0] (aQ .lss 3 25 4 12 0 4 (.split (.u 13 0) (aQ .rem 3 29 10 11 0 3 Zs) (.back 0 [lV 10 0,lV 7 0]))))))
def ah7:Tr:=.need (.prim [(W 6 0),(WK 0)] none) (.index 9 (tT 40) (.const (I3 0))) 5 false (.need (.prim [(W 7 0),(.one (.c (.k (.int .u8 48))))] none) (.binOp .eql 5 (tT 41) (.const (.int .u8 48)) 5) 4 false (.split (.u 8 0) (.need (.prim [(W 6 0),(WK 1)] none) (.slice 9 (tT 43) (some (.const (I3 1))) none none) 9 false (.back 0 [lV 9 0])) (aQ .lss 3 46 0 0 0 4 (.split (.u 9 0) (.need (.prim [(.one (.c (.k (.string ⟨#[45]⟩)))),(W 6 0)] none) (.binOp .add 9 (.const (.string ⟨#[45]⟩)) (tT 48) 9) 9 false (.ret [(W 10 0)])) (.ret [(W 6 0)])))))
def ay3:Tr:=aQ .eql 3 10 0 0 0 4 (.split (.u 1 0) (.ret [(.one (.c (.k (.string ⟨#[48]⟩))))]) (.loop 0 [(.w (.one (.c (.k (.string ⟨#[]⟩))))),lV 0 1] (cM 3 0 14 45 (aQ .gtr 3 15 0 4 0 4 (.split (.u 5 0) aq9 (.loop 0 [lV 2 0] ah7))))))
theorem PH:aN prog f206 (fun _=>none) [.v (some 2)] = ay3:=by kernel_rfl
def XE:Tr:=.ret [(W 4 0)]
def Qy:Tr:=.ret [(W 8 0)]
def au2:Tr:=.need (.prim [(W 2 0),(.one (.c (.k (.string ⟨#[49]⟩))))] none) (.binOp .eql 9 (tT 5) (.const (.string ⟨#[49]⟩)) 9) 4 false (.split (.u 3 0) (aJ 206 [(G2 0)] [none] [8] [47] 9 true XE) (aJ 206 [(G2 0)] [none] [11] [47] 9 false (.need (.prim [(W 4 0),(.one (.c (.k (.string ⟨#[47]⟩))))] none) (.binOp .add 9 (tT 12) (.const (.string ⟨#[47]⟩)) 9) 9 false (aJ 136 [(G4 0)] [(some 2)] [14] [49] 47 false (aJ 206 [(G2 6)] [none] [15] [47] 9 true (bK .add 9 13 16 5 0 7 0 9 Qy))))))
def ay4:Tr:=aJ 136 [(G4 0)] [(some 2)] [3] [49] 47 false (aJ 206 [(G2 1)] [none] [4] [47] 9 true au2)
theorem Uc:aN prog f128 (fun _=>none) [.v (some 4)] = ay4:=by kernel_rfl
def ax3:Tr:=aJ 179 [(.agg [(U 0 2)])] [none] [14] [35] 4 true (.need (.prim [(W 3 0)] none) (.unOp .not 4 (tT 15)) 4 false (.split (.u 4 0) (aJ 117 [(G3 0)] [(some 1)] [18] [39] 35 false (aJ 178 [(G1 5)] [none] [19] [35] 9 false (.need (.prim [(.one (.c (.k (.string ⟨#[47]⟩)))),(W 6 0)] none) (.binOp .add 9 (.const (.string ⟨#[47]⟩)) (tT 20) 9) 9 false (bK .add 9 17 21 2 0 7 0 9 Qy)))) (.ret [(W 2 0)])))
def Zf:Tr:=.need (.prim [(W 2 0)] none) (.unOp .not 4 (tT 15)) 4 false (.split (.u 3 0) (aJ 117 [(G3 0)] [(some 1)] [18] [39] 35 false (aJ 178 [(G1 4)] [none] [19] [35] 9 false (.need (.prim [(.one (.c (.k (.string ⟨#[47]⟩)))),(W 5 0)] none) (.binOp .add 9 (.const (.string ⟨#[47]⟩)) (tT 20) 9) 9 false (bK .add 9 17 21 1 0 6 0 9 (.ret [(W 7 0)]))))) (.ret [(W 1 0)]))
def aE7:Tr:=aJ 178 [(G1 0)] [none] [6] [35] 9 true (.split (.u 0 1) (.need (.prim [(.one (.c (.k (.string ⟨#[45]⟩)))),(W 1 0)] none) (.binOp .add 9 (.const (.string ⟨#[45]⟩)) (tT 11) 9) 9 false ax3) (aJ 179 [(.agg [(U 0 2)])] [none] [14] [35] 4 true Zf))
theorem Vn:aN prog f90 (fun _=>none) [.v (some 3)] = aE7:=by kernel_rfl
def aE6:Tr:=aJ 90 [(G3 0)] [none] [5] [39] 9 false (aJ 128 [(G4 1)] [none] [7] [49] 9 true (bK .eql 9 6 8 2 0 3 0 4 XE))
theorem Wm:aN prog f44 (fun _=>none) [.v (some 3), .v (some 4)] = aE6:=by kernel_rfl
set_option maxHeartbeats 1000000 in
theorem uL (z:Int) (H:Nat) (hz:z.natAbs < 2 ^ H) (hH:H ≤ 34359738360):aL prog 206 [(zT z:aH)] (.ret [bS (oS z)]):=by
 refine aD (args:=[.v (some 2)]) (ins:=[.v (zT z)]) (hints:=(fun _=>none)) fo (by kernel_rfl) func206 ⟨rfl,trivial⟩ ?_
 rw [PH]
 dsimp only [List.map,In.env,aB,aA]
 have hb:=fM hz
 have hb1:(bd 10000).length = 1:=by rw [Ir (by omega) (by omega)]; rfl
 obtain ⟨n,hn⟩:∃ n,z.natAbs = n:=⟨_,rfl⟩
 rw [hn] at hz hb
 rw [show zT z = .agg [.int .i64 z.sign,bT n] by rw [← hn]]
 refine vn bE rfl ?_
 dsimp only [aB,aA]
 refine vs _ rfl (fun h1=>?_) (fun h1=>?_)
 ·have hz0:z = 0:=Int.sign_eq_zero_iff_zero.1 h1
  subst hz0
  rw [show oS 0 = [48] by rw [oS,if_neg (by omega)]; exact Ii]
  exact aK rfl
 have hn0:n ≠ 0:=fun e=>h1 (by rw [Int.sign_eq_zero_iff_zero]; omega)
 refine bA {k:Nat // n / 10 ^ (4 * (k - 1)) ≠ 0} (fun g=>[bS (fU (4 * g.1) n), .one (bT (n / 10 ^ (4 * g.1)))]) (fun g=>n / 10 ^ (4 * g.1)) ⟨0,by simpa using hn0⟩ (show aM _ _ by rw [Nat.mul_zero,Nat.pow_zero,Nat.div_one]; exact aM.rfl) (fun _=>rfl) ?_
 rintro ⟨k,hk⟩
 dsimp only [aB,aA] at hk ⊢
 have hk4:4 * (k - 1) < H:=QS hz hk
 generalize hm:n / 10 ^ (4 * k) = m
 have hmn:m ≤ n:=by rw [← hm]; exact Nat.div_le_self _ _
 have hbm:=eK hmn
 refine vn (aO eI (List.length_map _)) rfl ?_
 dsimp only [aB,aA]
 refine vn cP rfl ?_
 dsimp only [aB,aA]
 refine vs _ rfl (fun h6=>?_) (fun h6=>?_)
 ·have hm0:m ≠ 0:=fun e=>by subst e; rw [Bv] at h6; simp at h6
  refine bL (us:=[[.int .i64 10000]]) rfl ?_
  dsimp only [aB,aA]
  have hover:=iV m 10000 (by omega) (by omega)
  rw [show bT 10000 = .slice 1 [[.int .i64 10000]] by rw [bT,Ir (by omega) (by omega)]; rfl] at hover
  refine aC hover rfl ?_
  dsimp only [aB,aA]
  refine aC (Dv (m % 10000) (by
   have:=iG (n:=m % 10000) (k:=1) (by omega)
   omega)) rfl ?_
  dsimp only [aB,aA]
  have hr:m % 10000 < 10000:=Nat.mod_lt _ (by omega)
  generalize hr':m % 10000 = r at hr ⊢
  refine bA {i:Nat // i ≤ 4} (fun g=>[bS (fU g.1 r ++ fU (4 * k) n), .one (.int .i64 ((r / 10 ^ g.1:Nat):Int)), .one (.int .i64 g.1)]) (fun g=>4 - g.1) ⟨0,by omega⟩ (show aM _ _ by rw [Nat.pow_zero,Nat.div_one]; exact aM.rfl) (fun _=>rfl) ?_
  rintro ⟨i,hi⟩
  dsimp only [aB,aA] at hi ⊢
  refine vn aY rfl ?_
  dsimp only [aB,aA]
  refine vs _ rfl (fun h12=>?_) (fun h12=>?_)
  ·have hri:r / 10 ^ i ≤ r:=Nat.div_le_self _ _
   generalize ht:r / 10 ^ i = t at hri ⊢
   have ht10:t % 10 < 10:=Nat.mod_lt _ (by omega)
   refine vn (eS (by omega) (by omega)) rfl ?_
   dsimp only [aB,aA]
   refine vn (eS (by omega) (by omega)) rfl ?_
   dsimp only [aB,aA]
   refine vn (aE (by omega) (by omega)) rfl ?_
   dsimp only [aB,aA]
   refine vn (VP un9 (by omega) (by omega) (by show _ ≤ 10; omega)) rfl ?_
   dsimp only [aB,aA]
   rw [show ((t:Int) % 10 + 1).toNat = t % 10 + 1 by omega,show ((t:Int) % 10).toNat = t % 10 by omega,Hn ht10]
   refine vn (pZ (by simp only [List.length_append,sC,List.length_cons,List.length_nil]; omega)) rfl ?_
   dsimp only [aB,aA]
   refine vn (gL (by omega) (by omega) (by omega)) rfl ?_
   dsimp only [aB,aA]
   refine vn (aE (by omega) (by omega)) rfl ?_
   dsimp only [aB,aA]
   exact aP rfl ⟨⟨i + 1,by omega⟩,aM.of_eq (show [bS ([Nu (t % 10)] ++ (fU i r ++ fU (4 * k) n)),(.one (.int .i64 ((t:Int) / 10)):aH), .one (.int .i64 ((i:Int) + 1))] = _ by
    dsimp only
    rw [← List.append_assoc,← ht,JS,← Ja]
    rfl),by show 4 - (i + 1) < 4 - i; omega⟩
  refine aP rfl ⟨⟨k + 1,by rw [Nat.add_sub_cancel,hm]; exact hm0⟩,?_,?_⟩
  ·dsimp only
   rw [show i = 4 by omega,← hr',← hm,MH,GP]
   exact aM.rfl
  ·show n / 10 ^ (4 * (k + 1)) < m
   rw [← GP,hm]
   exact Nat.div_lt_self (by omega) (by omega)
 have hm0:m = 0:=by
  have:bd m = []:=List.eq_nil_of_length_eq_zero (by omega)
  exact Dt.1 this
 have hlt:n < 10 ^ (4 * k):=by
  rcases Nat.lt_or_ge n (10 ^ (4 * k)) with h | h
  ·exact h
  ·have:=Nat.div_pos h (Nat.pow_pos (by omega)); omega
 have hk0:0 < 4 * k:=by
  rcases Nat.eq_zero_or_pos (4 * k) with h | h
  ·rw [h] at hlt; simp at hlt; omega
  ·exact h
 rw [Cs hk0 hlt]
 have hdl:=jQ hk0 hlt
 have hdp:=Bt n
 refine bA {c:Nat // c ≤ 4 * k} (fun g=>[bS (List.replicate g.1 48 ++ dec n)]) (fun g=>g.1) ⟨4 * k - (dec n).length,by omega⟩ aM.rfl (fun _=>rfl) ?_
 rintro ⟨c,hc⟩
 dsimp only [aB,aA] at hc ⊢
 obtain ⟨x,hx⟩:∃ x,(List.replicate c (48:UInt8) ++ dec n)[(0:Int).toNat]? = some x:=⟨_,List.getElem?_eq_getElem (by simp only [List.length_append]; show 0 < _; omega)⟩
 refine vn (ab1 un9 (by omega) hx) rfl ?_
 dsimp only [aB,aA]
 refine vn bE rfl ?_
 dsimp only [aB,aA]
 refine vs _ rfl (fun h25=>?_) (fun h25=>?_)
 ·obtain ⟨c',rfl⟩:∃ c',c = c' + 1:=by
   cases c with
   | succ c=>exact ⟨c,rfl⟩
   | zero=>
     rw [List.replicate_zero,List.nil_append] at hx
     have h1:=Oj n hn0 x (by rw [List.head?_eq_getElem?]; exact hx)
     exact (h1 (UInt8.toNat_inj.1 (by show x.toNat = 48; omega))).elim
  refine vn (Tf un9 (by omega) (by simp only [List.length_append,List.length_replicate]; omega)) rfl ?_
  dsimp only [aB,aA]
  exact aP rfl ⟨⟨c',by omega⟩,aM.rfl,by show c' < c' + 1; omega⟩
 obtain rfl:c = 0:=by
  cases c with
  | zero=>rfl
  | succ c=>
    rw [List.replicate_succ] at hx
    have:x = 48:=by simpa using hx.symm
    subst this
    exact (h25 rfl).elim
 rw [List.replicate_zero,List.nil_append]
 refine vn aY rfl ?_
 dsimp only [aB,aA]
 refine vs _ rfl (fun h29=>?_) (fun h29=>?_)
 ·refine vn (pZ (a:=[45]) (by simp only [List.length_cons,List.length_nil]; omega)) rfl ?_
  dsimp only [aB,aA]
  have hneg:z < 0:=by rcases cB z with ⟨h,e⟩ | ⟨h,e⟩ | ⟨h,e⟩ <;> omega
  rw [show oS z = [45] ++ dec n by rw [oS,if_pos hneg,hn]]
  exact aK rfl
 have hneg:¬ z < 0:=by rcases cB z with ⟨h,e⟩ | ⟨h,e⟩ | ⟨h,e⟩ <;> omega
 rw [show oS z = dec n by rw [oS,if_neg hneg,hn]; rfl]
 exact aK rfl
theorem CD (n:Nat):oS (n:Int) = dec n:=by rw [oS,if_neg (by omega),Int.natAbs_natCast]; rfl
theorem rH {n H:Nat} (h:n < 2 ^ H):(dec n).length ≤ H + 1:=
 jQ (Nat.succ_pos H) (Nat.lt_of_lt_of_le h (Nat.le_trans (Nat.pow_le_pow_left (by omega) H) (Nat.pow_le_pow_right (by omega) (Nat.le_succ H))))
theorem GW {z:Int} {H:Nat} (h:z.natAbs < 2 ^ H):(oS z).length ≤ H + 2:=by
 have:=rH h
 unfold oS
 rw [List.length_append]
 split <;> simp <;> omega
theorem Tu (a:RQ) (H:Nat) (hf:Fit H a.q) (hH:H ≤ 34359738360):aL prog 128 [(fB a:aH)] (.ret [bS (wB a.q)]):=by
 refine aD (args:=[.v (some 4)]) (ins:=[.v (fB a)]) (hints:=(fun _=>none)) fo (by kernel_rfl) func128 ⟨rfl,trivial⟩ ?_
 rw [Uc]
 dsimp only [List.map,In.env,aB,aA]
 have hd:=GW (z:=(a.q.den:Int)) hf.2
 have hn:=GW hf.1
 rw [show wB a.q = oS a.q.num ++ if a.q.den = 1 then [] else [47] ++ dec a.q.den from rfl]
 refine aC (jD a) rfl ?_
 dsimp only [aB,aA]
 refine aC (uL (a.q.den:Int) H hf.2 hH) rfl ?_
 dsimp only [aB,aA]
 refine vn (Dc (b:=[49])) rfl ?_
 dsimp only [aB,aA]
 refine vs _ rfl (fun h3=>?_) (fun h3=>?_)
 ·refine aC (uL a.q.num H hf.1 hH) rfl ?_
  dsimp only [aB,aA]
  have h1:a.q.den = 1:=Bk (by rw [← CD,h3,KJ])
  rw [if_pos h1,List.append_nil]; exact aK rfl
 refine aC (uL a.q.num H hf.1 hH) rfl ?_
 dsimp only [aB,aA]
 refine vn (pZ (b:=[47]) (by simp only [List.length_cons,List.length_nil]; omega)) rfl ?_
 dsimp only [aB,aA]
 refine aC (jD a) rfl ?_
 dsimp only [aB,aA]
 refine aC (uL (a.q.den:Int) H hf.2 hH) rfl ?_
 dsimp only [aB,aA]
 refine vn (pZ (by simp only [List.length_append,List.length_cons,List.length_nil]; omega)) rfl ?_
 dsimp only [aB,aA]
 have h1:a.q.den ≠ 1:=fun h=>h3 (by rw [CD,h,KJ])
 rw [if_neg h1,show oS a.q.num ++ 47 :: dec a.q.den = (oS a.q.num ++ [47]) ++ oS (a.q.den:Int) by rw [CD,List.append_assoc]; rfl]; exact aK rfl
end Go.Sy
