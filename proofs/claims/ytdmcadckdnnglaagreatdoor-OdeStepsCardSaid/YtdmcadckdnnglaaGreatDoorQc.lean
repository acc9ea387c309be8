/- Powers, falling factors, their sizes; the coefficients of a solution. The pieces of ode: falling factors, powers, quotients, the equation at a number.
-/
import Derived.Test.YtdmcadckdnnglaaGreatDoorQa
import Derived.Test.YtdmcadckdnnglaaGreatDoorQb
import Derived.Test.YtdmcadckdnnglaaGreatDoorOa
set_option linter.unusedVariables false
set_option linter.unusedSimpArgs false
namespace Ord
theorem Bd.pow {D S:Nat} (h0:D≠0) {x:Rat} (h:Bd D S x):∀ n:Nat,Bd (D^n) (S^n) (x^n)
 | 0=>by rw [Nat.pow_zero,Nat.pow_zero,Rat.pow_zero];exact Bd.one (Nat.le_refl 1)
 | n+1=>by
   rw [Nat.pow_succ,Nat.pow_succ,Rat.pow_succ];exact Bd.mul (fun e=>h0 (Nat.pow_eq_zero.1 e).1) h0 (Bd.pow h0 h n) h
def bG (z:Int):Nat→Int
 | 0=>1
 | i+1=>bG z i*(z-i)
theorem mH {z:Int} {N:Nat}:∀ i:Nat,z.natAbs+i≤N→(bG z i).natAbs≤N^i
 | 0,_=>by simp [bG]
 | i+1,h=>by
   rw [bG,Int.natAbs_mul,Nat.pow_succ];exact Nat.mul_le_mul (mH i (by omega)) (by omega)
def inner (p a:List Rat) (m n i:Nat) (x:Rat):Nat→Rat
 | 0=>x
 | k+1=>if i<m+k then inner p a m n i x k-p.getD k 0*((bG ((n:Int)-((m:Int)+k-i)) i:Int):Rat)*a.getD (n-(m+k-i)) 0 else inner p a m n i x k
def outer (q:List (List Rat)) (a:List Rat) (m n:Nat):Nat→Rat
 | 0=>0
 | i+1=>inner (q.getD i []) a m n i (outer q a m n i) (min (q.getD i []).length (n-m+1))
def gN (q:List (List Rat)) (m:Nat) (lead:Rat) (y:List Rat) (n:Nat) (a:List Rat):Rat:=
 if n<m then y.getD n 0/((bG n n:Int):Rat) else outer q a m n q.length/(lead*((bG n m:Int):Rat))
def aV (q:List (List Rat)) (m:Nat) (lead:Rat) (y:List Rat):Nat→List Rat
 | 0=>[]
 | n+1=>aV q m lead y n ++ [gN q m lead y n (aV q m lead y n)]
theorem bM (q:List (List Rat)) (m:Nat) (lead:Rat) (y:List Rat):∀ n,(aV q m lead y n).length=n
 | 0=>rfl
 | n+1=>by rw [aV,List.length_append,bM q m lead y n];rfl
theorem Hr (q:List (List Rat)) (m:Nat) (lead:Rat) (y:List Rat) {k n:Nat} (h:k≤n):(aV q m lead y n).take k=aV q m lead y k:=by
 induction n with
 | zero=>
   obtain rfl:k=0:=by omega
   rfl
 | succ n ih=>
   rcases Nat.lt_or_ge n k with h1 | h1
   ·obtain rfl:k=n+1:=by omega
    rw [List.take_of_length_le (by rw [bM];omega)]
   ·rw [aV,List.take_append_of_le_length (by rw [bM];exact h1),ih h1]
structure fU (B:Nat) (q:List (List Rat)) (m:Nat) (lead:Rat) (y:List Rat) (N:Nat):Prop where
 flead:Fit B lead
 fy:∀ x∈y,Fit B x
 fq:∀ p∈q,∀ x∈p,Fit B x
 ffall:∀ n i:Nat,n<N→i≤m→∀ z:Int,z.natAbs≤N→∀ j≤i,Fit B ((bG z j:Int):Rat)
 ffac:∀ n:Nat,n<m→∀ j≤n,Fit B ((bG n j:Int):Rat)
 fa:∀ n,n<N→Fit B (gN q m lead y n (aV q m lead y n))
 fx:∀ n i k,n<N→m≤n→i<q.length→k≤min (q.getD i []).length (n-m+1)→Fit B (inner (q.getD i []) (aV q m lead y n) m n i (outer q (aV q m lead y n) m n i) k)
end Ord
namespace Ord
theorem mC {z:Int}:∀ {i:Nat},(i:Int)≤z→bG z i≠0
 | 0,_=>by simp [bG]
 | i+1,h=>by
   rw [bG];exact Int.mul_ne_zero (mC (i:=i) (by omega)) (by omega)
end Ord
namespace Go.Sy
open Go Go.Proofs Tryz Ord
def aj5:Tr:=bJ .lss 3 9 8 3 0 1 0 4 (.split (.u 7 0) (bJ .sub 3 13 14 0 0 3 0 3 (aK 68 [(W 8 0)] [(some 3)] [15] [2] 39 true (aK 36 [(.agg [(U 4 0),(U 5 0),(U 6 0)]),(G3 9)] [(some 3)] [12,16] [39,39] 39 true (aU .add 3 9 1 3 0 3 (.back 0 [lV 11 0,lV 10 0,lV 10 1,lV 10 2]))))) (.ret [(.agg [(U 4 0),(U 5 0),(U 6 0)])]))
def af0:Tr:=.need (.call 68 [(WK 1)] [(some 3)]) (.call ⟨.value (.func 68),#[(.const (I3 1))],#[2]⟩) 39 true (.loop 0 [lK 0,lV 2 0,lV 2 1,lV 2 2] aj5)
theorem Lo:aN prog f209 (fun _=>none) [.v none, .v none]=af0:=by kernel_rfl
def ag9:Tr:=aU .rem 3 11 2 3 0 3 (aU .eql 3 12 1 11 0 4 (.split (.u 12 0) (aK 36 [(.agg [(U 7 0),(U 8 0),(U 9 0)]),(.agg [(U 4 0),(U 5 0),(U 6 0)])] [(some 3)] [14,15] [39,39] 39 true (aK 36 [(.agg [(U 4 0),(U 5 0),(U 6 0)]),(.agg [(U 4 0),(U 5 0),(U 6 0)])] [(some 3)] [17,18] [39,39] 39 true (aU .quo 3 9 2 3 0 3 (.back 0 [lV 15 0,lV 14 0,lV 14 1,lV 14 2,lV 13 0,lV 13 1,lV 13 2])))) (aK 36 [(.agg [(U 4 0),(U 5 0),(U 6 0)]),(.agg [(U 4 0),(U 5 0),(U 6 0)])] [(some 3)] [17,18] [39,39] 39 true (aU .quo 3 9 2 3 0 3 (.back 0 [lV 14 0,lV 13 0,lV 13 1,lV 13 2,lV 7 0,lV 8 0,lV 9 0])))))
def af5:Tr:=.need (.call 68 [(WK 1)] [(some 3)]) (.call ⟨.value (.func 68),#[(.const (I3 1))],#[2]⟩) 39 true (.loop 0 [lV 1 0,lV 0 0,lV 0 1,lV 0 2,lV 2 0,lV 2 1,lV 2 2] (aU .gtr 3 7 0 3 0 4 (.split (.u 10 0) ag9 (.ret [(.agg [(U 7 0),(U 8 0),(U 9 0)])]))))
theorem OH:aN prog f203 (fun _=>none) [.v (some 3), .v none]=af5:=by kernel_rfl
def ay0:Tr:=aK 200 [(G3 0),(G3 1)] [(some 3),none] [8,9] [39,39] 90 false (.ret [(G3 2)])
theorem Wb:aN prog f207 (fun _=>none) [.v (some 3), .v (some 3)]=ay0:=by kernel_rfl
def as4:Tr:=.split (.u 4 0) (eD 0 0 3 0 31 7 9 (dI 5 0 none 72 11 (aK 95 [(W 6 0)] [none] [14] [72] 3 true (.need (.prim [(W 2 0),(W 7 0)] none) (.call ⟨.builtin .max,#[(tT 13),(tT 15)],#[3,3]⟩) 3 false (aU .add 3 9 1 3 0 3 (.back 0 [lV 8 0,lV 9 0])))))) (bJ .add 3 19 20 0 1 2 0 3 (.ret [(W 5 0)]))
def au9:Tr:=cB 0 0 7 31 (.loop 0 [lK 0,lK 0] (bJ .lss 3 9 8 3 0 1 0 0 as4))
theorem Un:aN prog f204 (fun _=>none) [.v (some 5)]=au9:=by kernel_rfl
def ak3:Tr:=eD 0 0 5 0 32 12 14 (dI 12 0 none 72 16 (aK 31 [(W 13 0),(G3 1)] [none] [20,21] [72,39] 72 true (.need (.lit 1 [[(.u 14 0)]]) (.buildSlice 31 1 #[(0,(tT 22))]) 31 false (.need (.app 1 24 (some 6) none (some 15)) (.call ⟨.builtin .append,#[(tT 19),(tT 23)],#[31,31]⟩) 31 false (aU .add 3 14 1 5 0 3 (.back 0 [lV 17 0, .row 16,lV 7 0,lV 8 0,lV 9 0,lV 10 0]))))))
def ap1:Tr:=bJ .lss 3 14 13 5 0 4 0 0 (.split (.u 11 0) ak3 (.need (.idx 6 (.u 7 0)) (.indexAddr 31 (tT 28) (tT 30)) 0 false (.need (.ldrow 6 (.u 7 0) 0 1 false) (.load 72 (tT 31)) 72 false (.need (.prim [(W 12 0),(WK 0)] none) (.indexAddr 72 (tT 32) (.const (I3 0))) 0 false (dI 13 0 (some 3) 39 33 (.ret [(.agg [(.c (.sr 1 6)),(U 7 0),(U 14 0),(U 14 1),(U 14 2)])]))))))
def ZZ:Tr:=cB 0 0 8 32 (aU .sub 3 9 1 2 0 3 (cB 0 0 12 32 (.loop 0 [lK 0, .nilrow,lV 3 0,lN,(.w (.one (.c (.k (.bool false))))),lN] ap1)))
theorem aC9:aN prog f100 (fun _=>none) [.v none, .v (some 3)]=ZZ:=by kernel_rfl
def ZN:Tr:=.need (.call 158 [(WK 1)] [(some 2)]) (.call ⟨.value (.func 158),#[(.const (I3 1))],#[2]⟩) 37 false (aK 256 [(W 0 0)] [(some 1)] [4] [3] 35 true (aK 115 [(G2 1),(G1 2)] [(some 3)] [3,5] [37,35] 39 true (.ret [(G3 3)])))
theorem Sg:aN prog f202 (fun _=>none) [.v none]=ZN:=by kernel_rfl
def au7:Tr:=.need (.call 195 [(.one (.c (.k (.int .u64 2))))] [(some 1)]) (.call ⟨.value (.func 195),#[(.const (.int .u64 2))],#[254]⟩) 35 false (.need (.call 283 [(W 0 0),(WK 256)] [none]) (.call ⟨.value (.func 283),#[(tT 4),(.const (I3 256))],#[3,3]⟩) 3 true (aK 282 [(G1 1),(W 2 0)] [(some 1)] [3,5] [35,3] 35 true (.ret [(G1 3)])))
theorem Zo:aN prog f256 (fun _=>none) [.v none]=au7:=by kernel_rfl
theorem intCast_mul (a b:Int):((a:Rat)*(b:Rat))=((a*b:Int):Rat):=(Rat.intCast_mul a b).symm
theorem mB (z:Int) (i B:Nat) (hz1:-4611686018427387904≤z) (hz2:z<4611686018427387904) (hi:i<4611686018427387904) (hB:B≤17179869184) (h64:64≤B) (hf:∀ j,j≤i→Fit B ((bG z j:Int):Rat)):aM prog 209 [(.one (.int .i64 z):aF),(.one (.int .i64 i):aF)] (.ret [qT ((bG z i:Int):Rat)]):=by
 refine aD (args:=[.v none, .v none]) (ins:=[.v (.one (.int .i64 z)), .v (.one (.int .i64 i))]) (hints:=(fun _=>none)) fo (by kernel_rfl) func209 ⟨rfl,rfl,trivial⟩ ?_;rw [Lo];dsimp only [List.map,In.env,aB,aA];refine aC (jP 1 (by omega) (by omega)) rfl ?_;dsimp only [aB,aA];refine bC {j:Nat // j≤i} (fun g=>(.one (.int .i64 g.1):aF)::(qC ((bG z g.1:Int):Rat)).map .one) (fun g=>i-g.1) ⟨0,Nat.zero_le _⟩ aO.rfl (fun _=>rfl) ?_;rintro ⟨j,hj⟩;dsimp only [aB,aA,List.map] at hj ⊢;refine vn bB rfl ?_;dsimp only [aB,aA];refine vs _ rfl (fun h3=>?_) (fun h3=>?_)
 ·refine vn (aG (by omega) (by omega)) rfl ?_;dsimp only [aB,aA];refine aC (jP (z-j) (by omega) (by omega)) rfl ?_;dsimp only [aB,aA];refine aC (dF _ _ B 64 (hf j hj) (Fit.int (by omega) (by omega)) (by omega)) rfl ?_;rw [intCast_mul];dsimp only [aB,aA];refine vn (aE (by omega) (by omega)) rfl ?_;dsimp only [aB,aA];exact aR rfl ⟨⟨j+1,by omega⟩,aO.rfl,by show i-(j+1)<i-j;omega⟩
 rw [show i=j by omega];exact aL rfl
theorem Jf (x:Rat) (j:Nat):x^j*x^j=x^(2*j):=by rw [show 2*j=j+j by omega,lX]
theorem af9 {n i j k:Nat} (h1:i+j*k=n) (hm:k%2=1):i+j+2*j*(k/2)=n:=by
 have h:k=2*(k/2)+1:=by omega
 generalize k/2=t at *;subst h;subst h1;grind
theorem Ya {n i j k:Nat} (h1:i+j*k=n) (hm:k%2=0):i+2*j*(k/2)=n:=by
 have h:k=2*(k/2):=by omega
 generalize k/2=t at *;subst h;subst h1;grind
theorem iY (x:Rat) (n B:Nat) (hn:n<4611686018427387904) (hB:B≤17179869184) (hf:∀ j,j≤2*n+1→Fit B (x^j)):aM prog 203 [(qT x:aF),(.one (.int .i64 n):aF)] (.ret [qT (x^n)]):=by
 refine aD (args:=[.v (some 3), .v none]) (ins:=[.v (qT x), .v (.one (.int .i64 n))]) (hints:=(fun _=>none)) fo (by kernel_rfl) func203 ⟨rfl,rfl,trivial⟩ ?_;rw [OH];dsimp only [List.map,In.env,aB,aA];refine aC (jP 1 (by omega) (by omega)) rfl ?_;dsimp only [aB,aA]
 refine bC {g:Nat×Nat×Nat // g.2.1+g.2.2*g.1=n∧g.2.2≤2*n+1∧g.1≤n} (fun g=>(.one (.int .i64 g.1.1):aF)::((qC (x^g.1.2.2)).map .one++(qC (x^g.1.2.1)).map .one)) (fun g=>g.1.1) ⟨(n,0,1),by show 0+1*n=n;omega,by show 1≤_;omega,Nat.le_refl n⟩ (show aO _ _ by
  dsimp only;rw [Rat.pow_zero,show x^1=x by rw [Rat.pow_succ,Rat.pow_zero];grind];exact aO.rfl) (fun _=>rfl) ?_
 rintro ⟨⟨k,i,j⟩,h1,h2,hkn⟩;dsimp only [aB,aA,List.map] at h1 h2 hkn ⊢;refine vn dB rfl ?_;dsimp only [aB,aA];refine vs _ rfl (fun h3=>?_) (fun h3=>?_)
 ·have hk:0<k:=by omega
  have hjk:j≤j*k:=Nat.le_mul_of_pos_right _ hk
  have hj2:2*j≤2*n+1:=by
   generalize j*k=u at h1 hjk;omega
  refine vn (fL (by omega) (by omega)) rfl ?_;dsimp only [aB,aA];refine vn bL rfl ?_;dsimp only [aB,aA];refine vs _ rfl (fun h6=>?_) (fun h6=>?_)
  ·refine aC (dF _ _ B B (hf i (by omega)) (hf j (by omega)) (by omega)) rfl ?_;rw [←lX];dsimp only [aB,aA];refine aC (dF _ _ B B (hf j (by omega)) (hf j (by omega)) (by omega)) rfl ?_;rw [Jf];dsimp only [aB,aA];refine vn (gM (by omega) (by omega) (by omega)) rfl ?_;dsimp only [aB,aA];have hm:k%2=1:=by omega
   exact aR rfl ⟨⟨(k/2,i+j,2*j),af9 h1 hm,hj2,Nat.le_trans (Nat.div_le_self _ _) hkn⟩,aO.rfl,by show k/2<k;omega⟩
  refine aC (dF _ _ B B (hf j (by omega)) (hf j (by omega)) (by omega)) rfl ?_;rw [Jf];dsimp only [aB,aA];refine vn (gM (by omega) (by omega) (by omega)) rfl ?_;dsimp only [aB,aA];have hm:k%2=0:=by omega
  exact aR rfl ⟨⟨(k/2,i,2*j),Ya h1 hm,hj2,Nat.le_trans (Nat.div_le_self _ _) hkn⟩,aO.rfl,by show k/2<k;omega⟩
 have hk:k=0:=by omega
 subst hk;rw [show n=i by omega];exact aL rfl
theorem qN (a b:Rat) (A B:Nat) (hb0:b≠0) (ha:Fit A a) (hb:Fit B b) (h:A+B≤34359738368):aM prog 207 [(qT a:aF),(qT b:aF)] (.ret [qT (a/b)]):=by
 refine aD (args:=[.v (some 3), .v (some 3)]) (ins:=[.v (qT a), .v (qT b)]) (hints:=(fun _=>none)) fo (by kernel_rfl) func207 ⟨rfl,rfl,trivial⟩ ?_;rw [Wb];dsimp only [List.map,In.env,aB,aA];have hd:=QA a b A B ha hb h;rw [if_neg hb0,if_neg hb0] at hd;refine aC hd rfl ?_;exact aL rfl
abbrev xA (q:List (List Rat)) (m:Nat) (lead:Rat):aF:=.agg ([eQ q, .int .i64 m]++qC lead)
def bA (q:List (List Rat)):Nat:=q.foldl (fun d p=>max d (dH zr p-1)) 0
theorem Am (q:List (List Rat)) (p:List Rat):bA (q ++ [p])=max (bA q) (dH zr p-1):=by simp [bA]
theorem pN {N:Nat}:∀ (q:List (List Rat)),(∀ p∈q,p.length≤N)→bA q≤N:=by
 have key:∀ (q:List (List Rat)) (d:Nat),d≤N→(∀ p∈q,p.length≤N)→q.foldl (fun d p=>max d (dH zr p-1)) d≤N:=by
  intro q
  induction q with
  | nil=>intro d h _;exact h
  | cons p q ih=>
    intro d h hp;have:=gL (z:=zr) p;have:=hp p List.mem_cons_self;exact ih _ (show max d (dH zr p-1)≤N by omega) fun r hr=>hp r (List.mem_cons_of_mem _ hr)
 exact fun q h=>key q 0 (Nat.zero_le _) h
theorem Hz (q:List (List Rat)) (m:Nat) (lead:Rat) (hq:∀ p∈q,p.length<1099511627776) (hql:q.length<1099511627776) (hm:m<1099511627776):aM prog 204 [(xA q m lead:aF)] (.ret [.one (.int .i64 ((m+bA q:Nat):Int))]):=by
 refine aD (args:=[.v (some 5)]) (ins:=[.v (xA q m lead)]) (hints:=(fun _=>none)) fo (by kernel_rfl) func204 ⟨rfl,trivial⟩ ?_;rw [Un];dsimp only [List.map,In.env,aB,aA];refine vn (aP Kb (List.length_map _)) rfl ?_;dsimp only [aB,aA];refine bC {i:Nat // i≤q.length} (fun g=>[.one (.int .i64 ((bA (q.take g.1):Nat):Int)), .one (.int .i64 g.1)]) (fun g=>q.length-g.1) ⟨0,Nat.zero_le _⟩ aO.rfl (fun _=>rfl) ?_;rintro ⟨i,hi⟩;dsimp only [aB,aA] at hi ⊢;have hd:=pN (N:=1099511627776) (q.take i) fun p hp=>Nat.le_of_lt (hq p (List.mem_of_mem_take hp));refine vn bB rfl ?_;dsimp only [aB,aA];refine vs _ rfl (fun h3=>?_) (fun h3=>?_)
 ·obtain ⟨p,hp⟩:∃ p,q[i]? = some p:=⟨_,List.getElem?_eq_getElem (by omega)⟩
  have hpl:=hq p (List.mem_of_getElem? hp);refine vn (aW Kb (by omega) (by omega) hp) rfl ?_;dsimp only [aB,aA];refine vn (bF JE) rfl ?_;dsimp only [aB,aA];refine aC (yU p hpl) rfl ?_;dsimp only [aB,aA];refine vn PC rfl ?_;dsimp only [aB,aA];refine vn (aE (by omega) (by omega)) rfl ?_;dsimp only [aB,aA]
  have e:max ((bA (q.take i):Nat):Int) ((dH zr p:Int)-1)=((bA (q.take (i+1)):Nat):Int):=by
   rw [List.take_add_one,hp,Option.toList_some,Am];omega
  exact aR rfl ⟨⟨i+1,by omega⟩,aO.of_eq (by rw [List.map_cons,List.map_cons,List.map_nil];dsimp only;rw [←e];rfl),by show q.length-(i+1)<q.length-i;omega⟩
 rw [show i=q.length by omega,List.take_length] at hd ⊢;refine vn (aE (by omega) (by omega)) rfl ?_;dsimp only [aB,aA];rw [show ((m+bA q:Nat):Int)=(m:Int)+(bA q:Int) by omega];exact aL rfl
theorem KU {α:Type} {l:List α} {i:Nat} {x:α} (h:l[i]? = some x):l.take i ++ [x]=l.take (i+1):=by
 rw [List.take_add_one,h];rfl
def aQ (e:List (List Rat)) (c:Rat):Rat:=(dP (e.getD (e.length-1) []) c).getD 0 0
theorem aU3 (e:List (List Rat)) (c:Rat) (D E S T K B:Nat) (h0:D≠0) (h1:E≠0) (hp:∀ p∈e,(∀ a∈p,Bd D S a)∧p.length≤K) (hc:Bd E T c) (hT:1≤T) (hK:K≤1073741824) (hB:B≤8589934592) (hX:xJ D E S T K<2^B) (he:0<e.length) (hel:e.length<1099511627776) (hne:dP (e.getD (e.length-1) []) c ≠ []):aM prog 100 [(.one (eQ e):aF),(qT c:aF)] (.ret [xA (e.map (dP · c)) (e.length-1) (aQ e c)]):=by
 refine aD (args:=[.v none, .v (some 3)]) (ins:=[.v (.one (eQ e)), .v (qT c)]) (hints:=(fun _=>none)) fo (by kernel_rfl) func100 ⟨rfl,rfl,trivial⟩ ?_;rw [aC9];dsimp only [List.map,In.env,aB,aA];have e1:(e.length:Int)-1=((e.length-1:Nat):Int):=by omega
 refine vn (aP Ar (List.length_map _)) rfl ?_;dsimp only [aB,aA];refine vn (aG (by omega) (by omega)) rfl ?_;rw [e1];dsimp only [aB,aA];refine vn (aP Ar (List.length_map _)) rfl ?_;dsimp only [aB,aA];refine bC {i:Nat // i≤e.length} (fun g=>[.one (.int .i64 g.1), .rows ((e.take g.1).map fun p=>cQ (dP p c)), .one (.int .i64 ((e.length-1:Nat):Int)), .one (.exact (.slice none 0 0)), .one (.bool false), .one (.exact (.slice none 0 0))]) (fun g=>e.length-g.1) ⟨0,Nat.zero_le _⟩ aO.rfl (fun _=>rfl) ?_;rintro ⟨i,hi⟩;dsimp only [aB,aA] at hi ⊢;refine vn bB rfl ?_;dsimp only [aB,aA];refine vs _ rfl (fun h5=>?_) (fun h5=>?_)
 ·obtain ⟨p,hpi⟩:∃ p,e[i]? = some p:=⟨_,List.getElem?_eq_getElem (by omega)⟩
  obtain ⟨hpb,hpk⟩:=hp p (List.mem_of_getElem? hpi);have hti:(e.take i).length≤i:=by rw [List.length_take];omega
  refine vn (aW Ar (by omega) (by omega) hpi) rfl ?_;dsimp only [aB,aA];refine vn (bF JE) rfl ?_;dsimp only [aB,aA];refine aC (Po p c D E S T K B h0 h1 hpb hc hT hpk hK hB hX) rfl ?_;dsimp only [aB,aA];refine cL (us:=[cQ (dP p c)]) rfl ?_;dsimp only [aB,aA];refine jQ (xs:=e.take i) (x:=p) (f:=fun p=>cQ (dP p c)) rfl rfl (by omega) (by simp only [maxLen];omega) ?_;rw [KU hpi];dsimp only [aB,aA];refine vn (aE (by omega) (by omega)) rfl ?_;dsimp only [aB,aA];exact aR rfl ⟨⟨i+1,by omega⟩,aO.rfl,by show e.length-(i+1)<e.length-i;omega⟩
 have hie:i=e.length:=by omega
 subst hie;rw [List.take_length];obtain ⟨p,hpi⟩:∃ p,e[e.length-1]? = some p:=⟨_,List.getElem?_eq_getElem (by omega)⟩
 have hgd:e.getD (e.length-1) []=p:=by rw [List.getD_eq_getElem?_getD,hpi];rfl
 rw [hgd] at hne;have hlen:0<(dP p c).length:=List.length_pos_iff.2 hne;refine cV rfl rfl (by omega) (by first | omega | (rw [List.length_set];omega)) ?_;refine pQ rfl rfl (by omega) (Int.toNat_natCast _) hpi rfl ?_;dsimp only [aB,aA];refine vn (aW jF (by omega) rfl (cW (l:=dP p c) hlen)) rfl ?_;dsimp only [aB,aA];refine vn (bO sS (by decide) (by simp) (.inl rfl)) rfl ?_;dsimp only [aB,aA];rw [show aQ e c=(dP p c).getD 0 0 by rw [aQ,hgd],show (e.map fun p=>cQ (dP p c))=(e.map (dP · c)).map cQ by rw [List.map_map];rfl];exact aL rfl
theorem aM1 (k:Nat) (hk:k≤256):aM prog 256 [(.one (.int .i64 k):aF)] (.ret [mT (2^k)]):=by
 refine aD (args:=[.v none]) (ins:=[.v (.one (.int .i64 k))]) (hints:=(fun _=>none)) fo (by kernel_rfl) func256 ⟨rfl,trivial⟩ ?_;rw [Zo];dsimp only [List.map,In.env,aB,aA];refine aC (iE 2 (by omega)) rfl ?_;dsimp only [aB,aA];refine aC (IW k 256) rfl ?_;rw [show max (0:Int) (min (k:Int) 256)=(k:Int) by omega];dsimp only [aB,aA];refine aC (Mf 2 k 2 (by omega) (by omega) (by omega) (by omega)) rfl ?_;exact aL rfl
theorem aB5 (k:Nat) (hk:k≤256):aM prog 202 [(.one (.int .i64 k):aF)] (.ret [qT (mkRat 1 (2^k))]):=by
 refine aD (args:=[.v none]) (ins:=[.v (.one (.int .i64 k))]) (hints:=(fun _=>none)) fo (by kernel_rfl) func202 ⟨rfl,trivial⟩ ?_;rw [Sg];dsimp only [List.map,In.env,aB,aA];refine aC (GY 1 (by omega) (by omega)) rfl ?_;dsimp only [aB,aA];refine aC (aM1 k hk) rfl ?_;dsimp only [aB,aA]
 refine aC (vZ 1 (2^k) (Nat.pow_pos (by omega)) (by
  obtain ⟨H,hH⟩:∃ H,H=257:=⟨_,rfl⟩
  have h1:(dg (2^k)).length≤H:=fJ (Nat.pow_lt_pow_right (by omega) (by omega));have h2:(dg (1:Int).natAbs).length=1:=by rw [show (1:Int).natAbs=1 from rfl,oW (by omega) (by omega)];rfl
  omega)) rfl ?_
 exact aL rfl
end Go.Sy
