/- Part. -/
import Derived.Test.YtdmcadckdnnglaaGreatDoorHa
set_option linter.all false
namespace Go.Sy
open Go Go.Proofs Go.RowKit Tryz Ord
attribute [local go_sem] Oper.semAt_some
def Du:Tr:=.back 2 [(.w (W 30 0)),(.w (W 29 0)),(.w (W 29 1)),(.w (W 29 2))]
def Dj:Tr:=.need (.prim [(W 16 0),(WK (1))] none) (.binOp .sub 3 (.tmp 46) (.const (I3 (1))) 3) 3 false Du
def DG:Tr:=.need (.call 64 [(.agg [(U 21 0),(U 21 1),(U 21 2)]),(.agg [(U 28 0),(U 28 1),(U 28 2)])] [(some 3)]) (.call ⟨.value (.func 64),#[(.tmp 50),(.tmp 61)],#[39,39]⟩) 39 true Dj
def Cv:Tr:=.need (.call 36 [(.agg [(U 26 0),(U 26 1),(U 26 2)]),(.agg [(U 27 0),(U 27 1),(U 27 2)])] [(some 3)]) (.call ⟨.value (.func 36),#[(.tmp 57),(.tmp 60)],#[39,39]⟩) 39 true DG
def DF:Tr:=.need (.call 209 [(W 16 0),(W 6 0)] [(some 3)]) (.call ⟨.value (.func 209),#[(.tmp 58),(.tmp 59)],#[3,3]⟩) 39 false Cv
def BX:Tr:=.need (.prim [(W 25 0)] (some 3)) (.load 39 (.tmp 56)) 39 false DF
def DH:Tr:=.need (.prim [(W 24 0),(W 16 0)] none) (.indexAddr 40 (.tmp 54) (.tmp 55)) 0 false BX
def Dy:Tr:=.need (.prim [(W 23 0)] none) (.load 40 (.tmp 53)) 40 false DH
def Ds:Tr:=.need (.prim [(W 22 0)] none) (.fieldAddr 266 (.tmp 52) 2) 0 false Dy
def BZ:Tr:=.need (.prim [(W 14 0)] none) (.nilCheck (.tmp 51)) 0 false Ds
def Ca:Tr:=.need (.call 36 [(.agg [(U 17 0),(U 18 0),(U 19 0)]),(.agg [(U 2 0),(U 2 1),(U 2 2)])] [(some 3)]) (.call ⟨.value (.func 36),#[(.tmp 48),(.tmp 49)],#[39,39]⟩) 39 false BZ
def CT:Tr:=.back 1 [(.w (W 28 0)),(.row 27)]
def BP:Tr:=.need (.prim [(W 10 0),(WK (1))] none) (.binOp .add 3 (.tmp 37) (.const (I3 (1))) 3) 3 false CT
def Dc:Tr:=.need (.app 6 112 (some 11) none (some 26)) (.call ⟨.builtin .append,#[(.tmp 63),(.tmp 75)],#[118,118]⟩) 118 false BP
def Dp:Tr:=.need (.lit 6 [[(.u 25 0),(.u 25 1),(.u 25 2),(.u 25 3),(.u 25 4),(.u 25 5)]]) (.buildSlice 118 1 #[(0,(.tmp 74))]) 118 false Dc
def Dk:Tr:=.need (.call 229 [(.agg [(U 24 0),(U 24 1),(U 24 2),(U 24 3),(U 24 4),(U 24 5)]),(W 0 0)] [(some 6)]) (.call ⟨.value (.func 229),#[(.tmp 72),(.tmp 73)],#[123,3]⟩) 123 true Dp
def DQ:Tr:=.need (.call 66 [(.agg [(U 21 0),(U 21 1),(U 21 2),(U 21 3),(U 21 4),(U 21 5)]),(.agg [(U 23 0),(U 23 1),(U 23 2),(U 23 3),(U 23 4),(U 23 5)])] [(some 6)]) (.call ⟨.value (.func 66),#[(.tmp 65),(.tmp 71)],#[123,123]⟩) 123 false Dk
def CN:Tr:=.need (.call 228 [(.agg [(U 22 0),(U 22 1),(U 22 2)])] [(some 6)]) (.call ⟨.value (.func 228),#[(.tmp 70)],#[39]⟩) 123 false DQ
def CL:Tr:=.need (.call 133 [(W 14 0),(W 5 0),(W 6 0),(.agg [(U 4 0),(U 4 1),(U 4 2)])] [(some 3)]) (.call ⟨.value (.func 133),#[(.tmp 66),(.tmp 67),(.tmp 68),(.tmp 69)],#[194,3,3,39]⟩) 39 false CN
def Db:Tr:=.need (.call 227 [(.agg [(U 17 0),(U 18 0),(U 19 0)])] [(some 6)]) (.call ⟨.value (.func 227),#[(.tmp 64)],#[39]⟩) 123 false CL
def DW:Tr:=.split (.u 20 0) Ca Db
def Cr:Tr:=.need (.prim [(W 16 0),(W 6 0)] none) (.binOp .geq 3 (.tmp 43) (.tmp 44) 3) 4 false DW
def DM:Tr:=.loop 2 [(.w (W 15 0)),(.w (.one (.c (.k (.slice none 0 0))))),(.w (.one (.c (.k (.bool false))))),(.w (.one (.c (.k (.slice none 0 0)))))] Cr
def EP:Tr:=.need (.prim [(W 5 0),(WK (1))] none) (.binOp .sub 3 (.tmp 41) (.const (I3 (1))) 3) 3 false DM
def EN:Tr:=.need (.prim [(W 13 0)] none) (.load 194 (.tmp 39)) 194 false EP
def Ei:Tr:=.need (.prim [(W 3 0),(W 10 0)] none) (.indexAddr 276 (.tmp 35) (.tmp 37)) 0 false EN
def DX:Tr:=.back 0 [(.w (W 15 0)),(.row 14)]
def DI:Tr:=.need (.prim [(W 6 0),(WK (1))] none) (.binOp .add 3 (.tmp 32) (.const (I3 (1))) 3) 3 false DX
def CG:Tr:=.need (.app 1 24 (some 7) none (some 13)) (.call ⟨.builtin .append,#[(.tmp 78),(.tmp 80)],#[109,109]⟩) 109 false DI
def Di:Tr:=.need (.lit 1 [[(.sr 6 11)]]) (.buildSlice 109 1 #[(0,(.tmp 79))]) 109 false CG
def Ef:Tr:=.split (.u 12 0) Ei Di
def EC:Tr:=.need (.prim [(W 10 0),(W 9 0)] none) (.binOp .lss 3 (.tmp 37) (.tmp 36) 3) 0 false Ef
def Ev:Tr:=.loop 1 [(.w (WK (0))), .nilrow] EC
def Ej:Tr:=.need (.prim [(W 3 0)] none) (.call ⟨.builtin .len,#[(.tmp 35)],#[276]⟩) 3 false Ev
def Cu:Tr:=.ret [(.one (.c (.sr 1 7)))]
def EH:Tr:=.split (.u 8 0) Ej Cu
def EI:Tr:=.need (.prim [(W 6 0),(W 1 1)] none) (.binOp .lss 3 (.tmp 32) (.tmp 31) 3) 4 false EH
def Et:Tr:=.loop 0 [(.w (WK (0))), .nilrow] EI
theorem JA:FZ prog 84 (fun _=>none) (jG [1,1,1,1] (tB f147)) [(2, .v none),(3, .ref 9),(4, .ref 3),(7, .v none),(8, .ref 3),(9, .v none)] f147.results.toList none true=Et:=by kernel_rfl
def iU (t:Rat) (a:List Rat) (d n:Nat):Nat→Rat
 | 0=>0
 | c+1=>iU t a d n c*t+a.getD (n-1-c) 0*((cF ((n-1-c:Nat):Int) d:Int):Rat)
def aE4 (q:List (List Rat)) (m:Nat) (lead:Rat) (t:Rat) (n d l:Nat):Rat:=iU t (bC q m lead (bU m l) n) d n (n-d)
def AW (q:List (List Rat)) (m:Nat) (lead aH:Rat) (st:Nat) (t:Rat) (n d l:Nat):Rat:=qR (Ew q m lead aH st l) aH n d t.abs
def Lq (q:List (List Rat)) (m:Nat) (lead aH:Rat) (st:Nat) (t:Rat) (k:Int) (n d l:Nat):Rat:=pB (aE4 q m lead t n d l + -(AW q m lead aH st t n d l)) k.toNat
def KB (q:List (List Rat)) (m:Nat) (lead aH:Rat) (st:Nat) (t:Rat) (k:Int) (n d l:Nat):Rat:=PS (aE4 q m lead t n d l+AW q m lead aH st t n d l) k.toNat
abbrev Yu (q:List (List Rat)) (m:Nat) (lead aH:Rat) (st:Nat) (t:Rat) (k:Int) (n d j:Nat):List (List aE):=(List.range j).map fun l=>PU (Lq q m lead aH st t k n d l) (KB q m lead aH st t k n d l)
abbrev OU (q:List (List Rat)) (m:Nat) (lead aH:Rat) (st:Nat) (t:Rat) (k:Int) (n i:Nat):List (List aE):=(List.range i).map fun d=>[.slice 6 (Yu q m lead aH st t k n d m)]
structure Ye (q:List (List Rat)) (m:Nat) (lead aH:Rat) (st:Nat) (t:Rat) (n B BS G:Nat):Prop where
 Oo:∀ d,d<m→qS B aH n d t.abs
 sh:∀ d,d<m→eC aH n d t.abs<1
 fb:∀ l,l<m→Fit B (Ew q m lead aH st l)
 ft:∀ l,l<m→∀ d,d<m→Fit G (AW q m lead aH st t n d l)
 fc:∀ l,l<m→∀ x∈bC q m lead (bU m l) n,Fit BS x
 fs:∀ l,l<m→∀ d,d<m→∀ c,c≤n-d→Fit BS (iU t (bC q m lead (bU m l) n) d n c)
 ff:∀ i,i<n→∀ d,d<m→∀ j,j≤d→Fit B ((cF (i:Int) j:Int):Rat)
 h0:aH≠0
 hB:B≤1073741824
 h64:64≤B
 hBS:BS≤1073741824
 hG:G≤1073741824
 n15:n≤1073741824
 mn:m≤n
 ft1:Fit B t
set_option maxHeartbeats 2000000 in
theorem aC0 (q:List (List Rat)) (m:Nat) (lead aH:Rat) (st:Nat) (t:Rat) (k:Int) (n B BS G:Nat) (C:Ye q m lead aH st t n B BS G) (hm:m≤64) (hk:k≤256):vc prog (fun o=>jX o (.ret [.one (.slice 1 (OU q m lead aH st t k n m))])) (FZ prog 84 (fun _=>none) (jG [1,1,1,1] (tB f147)) [(2, .v none),(3, .ref 9),(4, .ref 3),(7, .v none),(8, .ref 3),(9, .v none)] f147.results.toList none true) ([.v (.one (.int .i64 k)), .ref (Bn q m lead aH (st:Nat)), .ref (qC t), .v (.one (.slice 1 ((List.range m).map fun l=>[.bK (lE q m lead aH st n l)]))), .ref (qC t.abs), .v (.one (.int .i64 n))].map In.env) []:=by
 rw [JA];dsimp only [List.map,In.env,aA,aB];obtain ⟨hmn,hn15,hB,h64,hBS,hG,h0⟩:=(⟨C.mn,C.n15,C.hB,C.h64,C.hBS,C.hG,C.h0⟩:m≤n∧n≤1073741824∧B≤1073741824∧64≤B∧BS≤1073741824∧G≤1073741824∧aH≠0)
 refine bF {d:Nat // d≤m} (fun g=>[.one (.int .i64 g.1), .rows (OU q m lead aH st t k n g.1)]) (fun g=>m-g.1) ⟨0,bR _⟩ aO.rfl (fun _=>rfl) ?_;rintro ⟨d,hd⟩;dsimp only [aA,aB] at hd ⊢;apply vn bE rfl;dsimp only [aA,aB];refine vs _ rfl ?_ ?_<;>intro h2
 ·apply vn (aQ Zn (aP _)) rfl;rw [uG];dsimp only [aA,aB];have hdm:d<m:=by omega
  refine bF {l:Nat // l≤m} (fun g=>[.one (.int .i64 g.1), .rows (Yu q m lead aH st t k n d g.1)]) (fun g=>m-g.1) ⟨0,bR _⟩ aO.rfl (fun _=>rfl) ?_;rintro ⟨l,hl⟩;dsimp only [aA,aB] at hl ⊢;apply vn bE rfl;dsimp only [aA,aB];refine vs _ rfl ?_ ?_<;>intro h6
  ·have hlm:l<m:=by omega
   have hrl:(List.range m)[l]? = some l:=List.getElem?_range hlm;apply vn (aW Zn hrl (Int.toNat_natCast l)) rfl;dsimp only [aA,aB];apply vn (bG aU3) rfl;dsimp only [aA,aB];apply vn (aI) rfl;dsimp only [aA,aB];have hal:=cZ q m lead (bU m l) n;have hfs:=C.fs l hlm d hdm;have hfc:=C.fc l hlm
   refine bF {c:Nat // c≤n-d} (fun g=>(.one (.int .i64 ((n:Int)-1-(g.1:Int))):aF)::(qC (iU t (bC q m lead (bU m l) n) d n g.1)).map .one) (fun g=>n-d-g.1) ⟨0,bR _⟩ (by
    rw [show (n:Int)-1-((0:Nat):Int)=(n:Int)-1 by omega];exact ⟨aF.Sub.same,qP⟩) (fun _=>rfl) ?_
   rintro ⟨c,hc⟩;dsimp only [aA,aB,List.map] at hc ⊢;apply vn fJ rfl;dsimp only [aA,aB];refine vs _ rfl ?_ ?_<;>intro h12
   ·have hci:c<n-d:=by omega
    obtain ⟨i,hi⟩:∃ i,n-1-c=i:=⟨_,rfl⟩
    have hii:(n:Int)-1-(c:Int)=(i:Int):=by omega
    have hia:i<(bC q m lead (bU m l) n).length:=by omega
    have hfx:=hfc _ (cS (cG hia));have hff:=C.ff i (by omega) d hdm;apply aC (cY _ _ BS B (hfs c hc) C.ft1) rfl;dsimp only [aA,aB];apply vn NU rfl;dsimp only [aA,aB];apply vn (rH Vy (by decide)) rfl;dsimp only [aA,aB];apply vn (t:=.one (sQ (bC q m lead (bU m l) n))) (bO ba3 (by decide) (by exact Nat.succ_le_succ (bR _)) (.inr rfl)) rfl;dsimp only [aA,aB];apply vn (aW rL (cG hia) (show ((n:Int)-1-(c:Int)).toNat=i by omega)) rfl;dsimp only [aA,aB];apply vn (bO pO (by decide) (by simp) (.inl rfl)) rfl;dsimp only [aA,aB];rw [hii];apply aC (mH (i:Int) d B h64 hff) rfl;dsimp only [aA,aB];apply aC (cY _ _ BS B hfx (hff d (bB _))) rfl;dsimp only [aA,aB];apply aC (kA _ _ (BS+B) (BS+B) ((hfs c hc).mul C.ft1) (hfx.mul (hff d (bB _)))) rfl;rw [show iU t (bC q m lead (bU m l) n) d n c*t+((bC q m lead (bU m l) n)).getD i 0*((cF (i:Int) d:Int):Rat)=iU t (bC q m lead (bU m l) n) d n (c+1) by rw [iU,hi]];dsimp only [aA,aB];apply vn (aI) rfl;dsimp only [aA,aB];exact aR rfl ⟨⟨c+1,by omega⟩,aO.of_eq (by dsimp only;rw [show (n:Int)-1-((c+1:Nat):Int)=(i:Int)-1 by omega];rfl),by show n-d-(c+1)<n-d-c;omega⟩
   have hcd:c=n-d:=by omega
   subst hcd;apply aC (aG8 (iU t (bC q m lead (bU m l) n) d n (n-d))) rfl;dsimp only [aA,aB];apply aC (Mk (eQ q) (.int .i64 m) (dT lead.num.natAbs) (.bool (decide (lead.num<0))) (dT (lead.den-1)) aH st (bU m l) (bC q m lead (bU m l) n) (Ew q m lead aH st l) n d t.abs B (C.Oo d hdm) h0 (C.fb l hlm) (C.sh d hdm)) rfl;dsimp only [aA,aB];apply aC (Ph (qR (Ew q m lead aH st l) aH n d t.abs)) rfl;dsimp only [aA,aB];have hft:=C.ft l hlm d hdm;apply aC (LI (iU t (bC q m lead (bU m l) n) d n (n-d)) (iU t (bC q m lead (bU m l) n) d n (n-d)) (-(AW q m lead aH st t n d l)) (AW q m lead aH st t n d l) BS G (hfs _ (bB _)) (hfs _ (bB _)) hft.neg hft) rfl;dsimp only [aA,aB];apply aC (Ql _ _ k (BS+G+1) hk ((hfs _ (bB _)).add hft.neg) ((hfs _ (bB _)).add hft)) rfl;rw [show pB (iU t (bC q m lead (bU m l) n) d n (n-d) + -(AW q m lead aH st t n d l)) k.toNat=Lq q m lead aH st t k n d l from rfl,show PS (iU t (bC q m lead (bU m l) n) d n (n-d)+AW q m lead aH st t n d l) k.toNat=KB q m lead aH st t k n d l from rfl];dsimp only [aA,aB];apply bL (us:=[PU (Lq q m lead aH st t k n d l) (KB q m lead aH st t k n d l)]) rfl;dsimp only [aA,aB];refine oV (xs:=List.range l) (x:=l) (f:=fun l=>PU (Lq q m lead aH st t k n d l) (KB q m lead aH st t k n d l)) rfl rfl (by rw [uG];omega) (by rw [uG];simp only [maxLen];omega) ?_;rw [←List.range_succ];dsimp only [aA,aB];apply vn (aD) rfl;dsimp only [aA,aB];exact aR rfl ⟨⟨l+1,by omega⟩,aO.rfl,by show m-(l+1)<m-l;omega⟩
  obtain rfl:l=m:=by omega
  apply bL (us:=[[.slice 6 (Yu q l lead aH st t k n d l)]]) rfl;dsimp only [aA,aB];refine oV (xs:=List.range d) (x:=d) (f:=fun d=>[.slice 6 (Yu q l lead aH st t k n d l)]) rfl rfl (by rw [uG];omega) (by rw [uG];simp only [maxLen];omega) ?_;rw [←List.range_succ];dsimp only [aA,aB];apply vn (aD) rfl;dsimp only [aA,aB];exact aR rfl ⟨⟨d+1,by omega⟩,aO.rfl,by show l-(d+1)<l-d;omega⟩
 obtain rfl:d=m:=by omega
 exact aK rfl
def Halt (p:Prop):Prop:=p
theorem halt {p:Prop} (h:Halt p):p:=h
theorem Ou {M:Nat→Prop} {n0 m:Nat} {W:World} {C:Nat→List aE} {bv:Value} {ps:List Nat} (I:mU M n0 W C bv ps) (hpl:ps.length=m) (hM:∀ k,M k→k<n0):(aE.slice 1 ((List.range m).map fun l=>[aE.bK (C l)])).rep M W bv:=by
 have hkM:cD (tS M ps bv) W M W:=fun b o hb ho _=>⟨fun h=>hb (.inl (.inl h)),ho⟩
 rcases I.sl.2 with ⟨rfl,h⟩ | ⟨g,cap,cur,rfl,h2,h3,h4,h5,h6,h7⟩
 ·obtain rfl:m=0:=by omega
  exact ⟨none,0,rfl,bB _,by simp [maxLen], .inl rfl⟩
 ·rw [hpl,Nat.mul_one] at h7;refine ⟨some ⟨g,0,none⟩,cap,by rw [aP,uG,hpl],by rw [aP,uG];omega,h5, .inr ⟨g,0,cur,194,(0,0),rfl,fun h=>by have:=hM g h;omega,h3,fun i t ht=>?_⟩⟩;rw [cU] at ht
  have hi:i<m:=by
   rcases Nat.lt_or_ge i m with h | h
   ·exact h
   ·rw [List.getElem?_eq_none (by rw [uG];exact h)] at ht;cases ht
  rw [List.getElem?_range hi] at ht;simp only [Option.map_some,aJ] at ht;subst ht;obtain ⟨b,hb⟩:∃ b,ps[i]? = some b:=⟨_,bI (by omega)⟩
  have hc:cur.toList[i]? = some (.pointer (some ⟨b,0,none⟩)):=by
   have h:(cur.toList.take m)[i]? = some (.pointer (some ⟨b,0,none⟩)):=by rw [h7,cU,hb];rfl
   rwa [List.getElem?_take,if_pos hi] at h
  have hd:(cur.toList.drop (0+i*1)).take 1 = [.pointer (some ⟨b,0,none⟩)]:=by
   obtain ⟨h8,h9⟩:=dS.1 hc;rw [Nat.zero_add,Nat.mul_one,List.drop_eq_getElem_cons h8,h9];rfl
  obtain ⟨us,hu,hr⟩:=I.cells i b hb;refine ⟨rfl,?_⟩;rw [hd];refine ⟨⟨b,0,us,266,(0,0),rfl,fun h=>by have:=hM b h;have:=(I.lo b (cS hb)).1;omega,hu,?_⟩,trivial⟩;rw [List.drop_zero,List.take_of_length_le (Nat.le_of_eq hr.length.symm)];exact hr.mono hkM
set_option maxRecDepth 100000 in
set_option maxHeartbeats 1000000 in
theorem Ov (M:Nat→Prop) (w:World) (hM:eF M w) (q:List (List Rat)) (m:Nat) (lead aH:Rat) (st:Nat) (t:Rat) (k:Int) (Ns Bs B G:Nat) (hm1:1≤m) (hk:k≤256) (goal:Rat) (hgq:mkRat 1 (2^k.toNat)*mkRat 1 (2^2)=goal)
  (T:IC q m lead aH st t.abs goal (m-1) B G) (out:Option Nat) (L:BH (Ru q m lead aH st t.abs goal (m-1)) m st out) (BS:Nat) (MC:∀ N,out=some N→Ye q m lead aH st t N B BS G)
  (hst15:st≤Ns) (SC:∀ l,l<m→gZ Bs q m lead (bU m l) Ns) (hNs:Ns≤1073741824) (hN15:1500≤Ns) (hm:m≤64) (hBs:Bs≤4294967296) (h64:64≤Bs) (hql:q.length=m+1) (hp:∀ p∈q,p.length<1048576) (hl0:lead≠0) (hw:m+bD q≤st) (hrho:∀ j,j≤2*st+1→Fit Bs (aH^j))
  (u0 u1 u2 u3 u4 u5 u6 u7 u8:Value) (ha:aX M w (Bn q m lead aH (st:Nat)) [u0,u1,u2,u3,u4,u5,u6,u7,u8]) (t0 t1 t2:Value) (ht:aX M w (qC t) [t0,t1,t2]) :
  Calls prog 147 #[.agg #[u0,u1,u2,u3,u4,u5,u6,u7,u8], .agg #[t0,t1,t2], .int .i64 k] w fun e w'=>Below w.heap.size w w'∧match out with
   | some n=>∃ v,e = .returned v∧(aE.slice 1 (OU q m lead aH st t k n m)).rep M w' v
   | none=>e = .panicked [{ v:=UW 5,recovered:=false }]:=by
 obtain ⟨o0,o1,o2,o3,o4,o5,o6,o7,o8⟩:u0.oneCell'=true∧u1.oneCell'=true∧u2.oneCell'=true∧u3.oneCell'=true∧u4.oneCell'=true∧u5.oneCell'=true∧u6.oneCell'=true∧u7.oneCell'=true∧u8.oneCell'=true:=by
  have:=ha.one;exact ⟨this _ (by simp),this _ (by simp),this _ (by simp),this _ (by simp),this _ (by simp),this _ (by simp),this _ (by simp),this _ (by simp),this _ (by simp)⟩
 obtain ⟨p0,p1,p2⟩:t0.oneCell'=true∧t1.oneCell'=true∧t2.oneCell'=true:=by have:=ht.one;exact ⟨this _ (by simp),this _ (by simp),this _ (by simp)⟩
 have e1:u1 = .int .i64 m:=ha.2.1.1;subst e1;refine calls_of_wp func147 rfl ?_;simp only [ntmps147,List.size_toArray,List.length_cons,List.length_nil,Nat.reduceAdd,Nat.reduceSub,Array.replicate_succ,Array.replicate_zero,List.push_toArray,List.append_toArray,List.nil_append,List.cons_append];obtain ⟨n0,hn0⟩:∃ n0,w.heap.size=n0:=⟨_,rfl⟩
 obtain ⟨W1,hW1⟩:∃ W1,(w.alloc (.cells #[u0, .int .i64 m,u2,u3,u4,u5,u6,u7,u8] 185)).alloc (.cells #[t0,t1,t2] 39)=W1:=⟨_,rfl⟩
 have hs1:W1.heap.size=n0+2:=by rw [←hW1];simp [hn0]
 have hB1:Below w.heap.size w W1:=by rw [←hW1];exact ((Below.refl _ w).alloc (bB _) _).alloc (by simp) _
 have hA1:W1.heap[n0]? = some (.cells #[u0, .int .i64 m,u2,u3,u4,u5,u6,u7,u8] 185 (0,0)):=by rw [←hW1,heap_alloc_old _ _ _ (by simp;omega),←hn0];exact heap_alloc_new w _
 have hT1:W1.heap[n0+1]? = some (.cells #[t0,t1,t2] 39 (0,0)):=by
  rw [←hW1];have:=heap_alloc_new (w.alloc (.cells #[u0, .int .i64 m,u2,u3,u4,u5,u6,u7,u8] 185)) (.cells #[t0,t1,t2] 39)
  rwa [World.size_alloc,hn0] at this
 have hM1:eF M W1:=⟨fun b hb=>Nat.lt_of_lt_of_le (hM.1 b hb) hB1.size,hM.2.below rfl hB1⟩
 have ha1:=ha.mono (cD.below hB1);have hbas:=Ri M W1 hM1 q m lead aH st Ns Bs SC hNs hm hBs h64 hql hp hl0 hw hrho u0 (.int .i64 m) u2 u3 u4 u5 u6 u7 u8 ha1;have c0:W1.cell? ⟨n0,0,none⟩=some u0:=aG hA1 rfl;have c1:W1.cell? ⟨n0,1,none⟩=some (.int .i64 m):=aG hA1 rfl;have c2:W1.cell? ⟨n0,2,none⟩=some u2:=aG hA1 rfl;have c3:W1.cell? ⟨n0,3,none⟩=some u3:=aG hA1 rfl;have c4:W1.cell? ⟨n0,4,none⟩=some u4:=aG hA1 rfl;have c5:W1.cell? ⟨n0,5,none⟩=some u5:=aG hA1 rfl;have c6:W1.cell? ⟨n0,6,none⟩=some u6:=aG hA1 rfl;have c7:W1.cell? ⟨n0,7,none⟩=some u7:=aG hA1 rfl;have c8:W1.cell? ⟨n0,8,none⟩=some u8:=aG hA1 rfl
 go_wp2_with (go_at_call 225;refine hbas.mono ?_)
 rintro e w2 ⟨bv,ps,rfl,hpl,hb2,I⟩;have hB2:Below w.heap.size w w2:=hB1.trans (hb2.mono hB1.size);have hf2:=I.GA hM1 (bB _) hb2;have hw2:=hb2.size
 have hlt:∀ b,tS M ps bv b→M b∨n0+2≤b:=by
  rintro b ((h | h) | h)
  ·exact .inl h
  ·exact .inr (by have:=(I.lo b h).1;omega)
  ·exact .inr (by have:=(I.sl.lt b h).1;omega)
 have hk2:cD M w (tS M ps bv) w2:=fun b o hb ho _=>by
  have hl:=(dH.1 ho).1;exact ⟨fun h=>(hlt b h).elim hb (by omega),(hB2.block b hl).trans ho⟩
 have hA2:w2.heap[n0]? = some (.cells #[u0, .int .i64 m,u2,u3,u4,u5,u6,u7,u8] 185 (0,0)):=(hb2.block n0 (by omega)).trans hA1;have hT2:w2.heap[n0+1]? = some (.cells #[t0,t1,t2] 39 (0,0)):=(hb2.block (n0+1) (by omega)).trans hT1
 have hba:Calls prog 146 #[.agg #[t0,t1,t2]] w2 fun e w'=>Below w2.heap.size w2 w'∧∃ r0 r1 r2,e = .returned (.agg #[r0,r1,r2])∧aX (tS M ps bv) w' (qC t.abs) [r0,r1,r2]:=by
  refine ((zH t).2 (tS M ps bv) w2 [.agg #[t0,t1,t2]] hf2 ⟨⟨_,rfl,ht.mono hk2⟩,trivial⟩).mono ?_;rintro e w' ⟨hb,vs,rfl,hvs⟩;obtain ⟨us,e1,hus⟩:=ay8 hvs;obtain ⟨g0,g1,g2,rfl⟩:=Xb hus;exact ⟨hb,g0,g1,g2,by rw [e1],hus⟩
 have d0:w2.cell? ⟨n0+1,0,none⟩=some t0:=aG hT2 rfl;have d1:w2.cell? ⟨n0+1,1,none⟩=some t1:=aG hT2 rfl;have d2:w2.cell? ⟨n0+1,2,none⟩=some t2:=aG hT2 rfl
 go_wp2_with (go_at_call 146;refine hba.mono ?_)
 rintro e w3 ⟨hb3,r0,r1,r2,rfl,hr3⟩;obtain ⟨x0,x1,x2⟩:r0.oneCell'=true∧r1.oneCell'=true∧r2.oneCell'=true:=by have:=hr3.one;exact ⟨this _ (by simp),this _ (by simp),this _ (by simp)⟩
 have hA3:w3.heap[n0]? = some (.cells #[u0, .int .i64 m,u2,u3,u4,u5,u6,u7,u8] 185 (0,0)):=(hb3.block n0 (by omega)).trans hA2
 go_wp2
 have hnew:=heap_alloc_new w3 (.cells #[.slice none 0 0, .bool false, .slice none 0 0] 39);rw [vU hnew x0 x1 x2];obtain ⟨w4,hw4⟩:∃ w4,(w3.alloc (.cells #[.slice none 0 0, .bool false, .slice none 0 0] 39)).setRow w3.heap.size #[r0,r1,r2]=w4:=⟨_,rfl⟩
 have hB34:Below w3.heap.size w3 w4:=by rw [←hw4];exact below_setRow ((Below.refl _ w3).alloc (bB _) _) _ (bB _)
 have hR4:w4.heap[w3.heap.size]? = some (.cells #[r0,r1,r2] 39 (0,0)):=by rw [←hw4];exact setRow_heap _ _ _ _ _ _ hnew
 have hw3:=hb3.size;have hA4:w4.heap[n0]? = some (.cells #[u0, .int .i64 m,u2,u3,u4,u5,u6,u7,u8] 185 (0,0)):=(hB34.block n0 (by omega)).trans hA3;have hT4:w4.heap[n0+1]? = some (.cells #[t0,t1,t2] 39 (0,0)):=(hB34.block (n0+1) (by omega)).trans ((hb3.block (n0+1) (by omega)).trans hT2);have hB24:Below w2.heap.size w2 w4:=hb3.trans (hB34.mono hb3.size);have hB14:Below W1.heap.size W1 w4:=hb2.trans (hB24.mono hb2.size);have hter:=Sn Ns Bs M W1 w4 hM1 hB14 q m lead aH st t.abs (m-1) k B G bv ps hm1 hk goal hgq T out L ((I.grow hb3).grow hB34) hpl hst15 SC hNs hN15 hm hBs h64 hql hp hl0 r0 r1 r2 (hr3.mono (cD.below hB34));rw [show (((m-1:Nat)):Int)=(m:Int)-1 by omega] at hter;have q0:w4.cell? ⟨w3.heap.size,0,none⟩=some r0:=aG hR4 rfl;have q1:w4.cell? ⟨w3.heap.size,1,none⟩=some r1:=aG hR4 rfl;have q2:w4.cell? ⟨w3.heap.size,2,none⟩=some r2:=aG hR4 rfl;have q3:w4.cell? ⟨n0,1,none⟩=some (.int .i64 m):=aG hA4 rfl;rw [hw4]
 go_wp2_with (go_at_call 226;refine hter.mono ?_)
 ·rename_i KK K2 out1 L1 N L2 QQ hKK hK2;rintro e w5 rfl tu I5;have hww4:=hB24.size;have hps:∀ b∈ps,n0+2≤b:=fun b hb=>by have:=(I.lo b hb).1;omega
  have hB5:Below w.heap.size w w5:=tu.low (hB1.trans (hB14.mono hB1.size)) (by omega) (fun b hb=>by have:=hps b hb;omega);have hM5:eF M w5:=⟨fun b hb=>Nat.lt_of_lt_of_le (hM.1 b hb) hB5.size,hM.2.below rfl hB5⟩
  have hn5:∀ j,j<n0+2→j ∉ ps:=fun j hj h=>by have:=hps j h;omega
  have hA5:w5.heap[n0]? = some (.cells #[u0, .int .i64 m,u2,u3,u4,u5,u6,u7,u8] 185 (0,0)):=(tu.block n0 (by omega) (hn5 _ (by omega))).trans hA4;have hT5:w5.heap[n0+1]? = some (.cells #[t0,t1,t2] 39 (0,0)):=(tu.block (n0+1) (by omega) (hn5 _ (by omega))).trans hT4;have hR5:w5.heap[w3.heap.size]? = some (.cells #[r0,r1,r2] 39 (0,0)):=(tu.block w3.heap.size (by rw [←hw4];simp [World.setRow]) (fun h=>by have:=(I.lo _ h).2;omega)).trans hR4;have hr4:=hr3.mono (cD.below hB34);have hk45:cD (tS M ps bv) w4 M w5:=fun b o hb ho _=>⟨fun h=>hb (.inl (.inl h)),(tu.block b (dH.1 ho).1 (fun h=>hb (.inl (.inr h)))).trans ho⟩
  have hKH:Halt _:=hKK;clear hKK
  go_wp2
  refine hKH _ _ ?_
  refine XX (N:=84) (ins:=[(2, .v none),(3, .ref 9),(4, .ref 3),(7, .v none),(8, .ref 3),(9, .v none)]) (xs:=[.v (.one (.int .i64 k)), .ref (Bn q m lead aH (st:Nat)), .ref (qC t), .v (.one (.slice 1 ((List.range m).map fun l=>[.bK (lE q m lead aH st N l)]))), .ref (qC t.abs), .v (.one (.int .i64 N))]) fo ⟨rfl,rfl,rfl,rfl,rfl,rfl,trivial⟩
   (aC0 q m lead aH st t k N B BS G (MC N rfl) hm hk) (by kernel_rfl) hM5 rfl rfl
   ⟨⟨rfl,rfl⟩,⟨n0,0,_,_,_,rfl,fun h=>by have:=hM.1 _ h;omega,hA5,ha.mono (cD.below hB5)⟩,⟨n0+1,0,_,_,_,rfl,fun h=>by have:=hM.1 _ h;omega,hT5,ht.mono (cD.below hB5)⟩,Ou I5 hpl (fun k h=>by have:=hM.1 k h;omega),⟨w3.heap.size,0,_,_,_,rfl,fun h=>by have:=hM.1 _ h;omega,hR5,hr4.mono hk45⟩,⟨rfl,rfl⟩,trivial⟩ ?_ (by intro c v a' w' h;cases h)
  intro e a' w' rs us hrs hex hB hsz hdf hrun hus;cases hrs
  have key:a'.defers = []∧∃ v,(results f147 a'.tmps).run prog w' = .ok v w'∧(Below w.heap.size w w'∧∃ v',Ending.returned v = .returned v'∧(aE.slice 1 (OU q m lead aH st t k N m)).rep M w' v'):=by
   obtain ⟨v,hv,hrep⟩:=Ps hus;exact ⟨hdf,_,iW f147 a'.tmps us hrun,hB5.trans (hB.mono hB5.size),v,by rw [hv],hrep⟩
  cases e with
  | normal=>exact key
  | ret=>exact key
  | exit id=>cases hex
 ·rintro e w5 rfl hb5;exact ⟨rfl,hB1.trans (hb5.mono (by omega)),rfl⟩
end Go.Sy
namespace Go.Sy
open Go Go.Proofs Tryz Ord
theorem WD {q:Rat} {S k:Nat} (h:q.num.natAbs≤S*q.den):(MS (q*qH k)).natAbs≤S*2^k:=by
 rw [Xt];obtain ⟨p,hp⟩:∃ p:Nat,2^k=p:=⟨_,rfl⟩
 rw [hp];have hd:(0:Int)<(q.den:Int):=by have:=q.den_pos;omega
 have h1:q.num≤(S:Int)*(q.den:Int):=by have:(q.num.natAbs:Int)≤((S*q.den:Nat):Int):=by exact_mod_cast h
                                       rw [Int.natCast_mul] at this;omega
 have h2:-((S:Int)*(q.den:Int))≤q.num:=by have:(q.num.natAbs:Int)≤((S*q.den:Nat):Int):=by exact_mod_cast h
                                          rw [Int.natCast_mul] at this;omega
 have hp0:(0:Int)≤(p:Int):=Int.natCast_nonneg _
 have h3:q.num*(p:Int)≤(S:Int)*(p:Int)*(q.den:Int):=by
  have:=Int.mul_le_mul_of_nonneg_right h1 hp0;rw [Int.mul_right_comm] at this;exact this
 have h4:-((S:Int)*(p:Int))*(q.den:Int)≤q.num*(p:Int):=by
  have:=Int.mul_le_mul_of_nonneg_right h2 hp0;rw [Int.neg_mul,Int.mul_right_comm] at this;rw [Int.neg_mul];exact this
 have h5:q.num*(p:Int)/(q.den:Int)≤(S:Int)*(p:Int):=by
  have:=Int.ediv_le_ediv hd h3
  rwa [Int.mul_ediv_cancel _ (by omega)] at this
 have h6:-((S:Int)*(p:Int))≤q.num*(p:Int)/(q.den:Int):=by
  have:=Int.ediv_le_ediv hd h4
  rwa [Int.mul_ediv_cancel _ (by omega)] at this
 have h7:(((S*p:Nat)):Int)=(S:Int)*(p:Int):=Int.natCast_mul _ _;omega
theorem Ac {q:Rat} {S k H:Nat} (h:q.num.natAbs≤S*q.den) (h1:S*2^k<2^H) (h2:2^k<2^H):Fit H (pB q k):=by
 have e:pB q k=mkRat (MS (q*qH k)) (2^k):=by rw [pB,Rat.mkRat_eq_div,Rat.mkRat_eq_div];grind
 rw [e];exact Fit.mkRat (Nat.lt_of_le_of_lt (WD h) h1) h2 (Nat.pos_iff_ne_zero.1 (Nat.pow_pos (by omega)))
theorem NL {q:Rat} {S k H:Nat} (h:q.num.natAbs≤S*q.den) (h1:S*2^k<2^H) (h2:2^k<2^H):Fit H (PS q k):=by
 rw [←Zp];exact (Ac (q:=-q) (by show (-q.num).natAbs≤S*q.den;rw [Int.natAbs_neg];exact h) h1 h2).neg
theorem Je {t:Rat} {a:List Rat} {d n D S E T F:Nat} (h0:D≠0) (h1:E≠0) (ha:∀ x∈a,Bd D S x) (ht:Bd E T t) (hT:1≤T) (hF:∀ i:Nat,i<n→(cF (i:Int) d).natAbs≤F) (hn:0<n):∀ c,Bd (D*E^c) (c*(S*F*T^c)) (iU t a d n c)
 | 0=>Bd.zero
 | c+1=>by
   have ih:=Je h0 h1 ha ht hT hF hn c;have hE:E^c≠0:=Nat.pos_iff_ne_zero.1 (Nat.pow_pos (Nat.pos_of_ne_zero h1));have hm:=ih.mul (Nat.mul_ne_zero h0 hE) h1 ht;have hx:=(iE ha (n-1-c)).mul h0 (E:=1) (by omega) (Bd.int (hF (n-1-c) (by omega)));rw [iU];have e1:D*E^c*E=D*E^(c+1):=by rw [Nat.pow_succ,Nat.mul_assoc]
   have e2:c*(S*F*T^c)*T=c*(S*F*T^(c+1)):=by rw [Nat.pow_succ,Nat.mul_assoc,Nat.mul_assoc (S*F)]
   rw [e1,e2] at hm;have hx':=hx.mono (E:=D*E^(c+1)) (T:=S*F*T^(c+1)) (by rw [Nat.mul_one];exact Nat.dvd_mul_right _ _) (Nat.le_mul_of_pos_right _ (Nat.pow_pos hT));have:=hm.add (Nat.mul_ne_zero h0 (Nat.pos_iff_ne_zero.1 (Nat.pow_pos (Nat.pos_of_ne_zero h1)))) hx';rw [Nat.add_mul,Nat.one_mul];exact this
theorem LK {D E c n a e:Nat} (hD:D≤2^a) (hE:E≤2^e) (hc:c≤n):D*E^c≤2^(a+e*n):=by
 rw [Nat.pow_add,Nat.pow_mul];exact Nat.mul_le_mul hD (Nat.le_trans (Nat.pow_le_pow_left hE c) (Nat.pow_le_pow_right (Nat.pow_pos (by omega)) hc))
theorem KN {S T F c n b f g:Nat} (hS:S≤2^b) (hT:T≤2^f) (hF:F≤2^g) (hc:c≤n) (hn:n≤2^11):c*(S*F*T^c)≤2^(11+(b+g+f*n)):=by
 rw [Nat.pow_add 2 11,Nat.pow_add 2 (b+g),Nat.pow_add 2 b,Nat.pow_mul];exact Nat.mul_le_mul (Nat.le_trans hc hn) (Nat.mul_le_mul (Nat.mul_le_mul hS hF) (Nat.le_trans (Nat.pow_le_pow_left hT c) (Nat.pow_le_pow_right (Nat.pow_pos (by omega)) hc)))
theorem SK {x y B:Nat} (h:x≤2^y) (hB:y<B:=by omega):x<2^B:=Nat.lt_of_le_of_lt h (Nat.pow_lt_pow_right (by omega) hB)
theorem Vg (a b:Rat):a≤iK [a,b] 2:=by
 have h1:iK [a,b] 1=a:=by rw [iK,if_pos (.inl rfl)];rfl
 rw [iK,h1];split
 ·rename_i h;rcases h with h | h
  ·omega
  ·exact Rat.le_of_lt h
 ·exact Rat.le_refl
theorem Kn (a:List Rat) (aH:Rat) (n0:Nat):∀ k,0≤Ox a aH n0 k
 | 0=>by show (0:Rat)≤0;grind
 | k+1=>by
   have ih:=Kn a aH n0 k;rw [Ox];exact Rat.le_trans ih (Vg _ _)
theorem UB {b aH r:Rat} {n d:Nat} (hb:0≤b) (h0:0<aH) (hr:0≤r) (h1:eC aH n d r<1) (hd:d≤n:=by omega):0≤qR b aH n d r:=by
 have hu0:0≤Yt aH n d r:=uF (Rat.mul_nonneg (Rat.intCast_nonneg.2 (Gw d hd)) (Rat.pow_nonneg hr)) (Rat.pow_pos h0);have one:((1:Int):Rat)=1:=by decide +kernel
 show 0≤b*Yt aH n d r/(((1:Int):Rat)-eC aH n d r);rw [one];exact uF (Rat.mul_nonneg hb hu0) (by grind)
theorem QT {aH r:Rat} {n d:Nat} (h0:0<aH) (hr:0≤r) (h2:r+r≤aH) (hd:2*d<n+1:=by omega):eC aH n d r<1:=by
 unfold eC;have hz:(0:Rat)<(((n:Int)+1-d:Int):Rat):=Rat.intCast_pos.2 (by omega);have hw:(0:Rat)<(((n:Int)+1:Int):Rat):=Rat.intCast_pos.2 (by omega)
 have hlt:(((n:Int)+1:Int):Rat)<(((n:Int)+1-d:Int):Rat)+(((n:Int)+1-d:Int):Rat):=by
  rw [←Rat.intCast_add];exact Rat.intCast_lt_intCast.2 (by omega)
 generalize (((n:Int)+1-d:Int):Rat)=z at *;generalize (((n:Int)+1:Int):Rat)=w at *;have hz0:z≠0:=by grind
 have hr0:aH≠0:=by grind
 have e:w/z*(r/aH)=(w*r)/(z*aH):=by
  have h1:w/z*z=w:=Rat.div_mul_cancel hz0;have h2:r/aH*aH=r:=Rat.div_mul_cancel hr0;have hzr:z*aH≠0:=fun e=>(Rat.mul_eq_zero.1 e).elim hz0 hr0;have h3:w*r/(z*aH)*(z*aH)=w*r:=Rat.div_mul_cancel hzr;have h4:w/z*(r/aH)*(z*aH)=w*r:=by rw [show w/z*(r/aH)*(z*aH)=(w/z*z)*(r/aH*aH) by grind,h1,h2]
  have h5:(w/z*(r/aH)-w*r/(z*aH))*(z*aH)=0:=by grind
  rcases Rat.mul_eq_zero.1 h5 with h6 | h6
  ·grind
  ·exact (hzr h6).elim
 rw [e];have hzr:0<z*aH:=Rat.mul_pos hz h0
 have key:w*r<z*aH:=by
  have k1:w*r≤w*(r+r)/2:=by grind
  rcases Classical.em (r=0) with h | h
  ·subst h;grind
  ·have hrp:0<r:=by grind
   have k2:=Rat.mul_lt_mul_of_pos_right hlt hrp;have k3:z*(r+r)≤z*aH:=Rat.mul_le_mul_of_nonneg_left h2 (by grind)
   grind
 have h7:w*r/(z*aH)*(z*aH)=w*r:=Rat.div_mul_cancel (by grind);rcases Classical.em (w*r/(z*aH)<1) with h | h
 ·exact h
 ·have h8:1≤w*r/(z*aH):=by grind
  have h9:=Rat.mul_le_mul_of_nonneg_right h8 (by grind:0≤z*aH)
  grind
theorem Kf (t:Rat):0≤t.abs:=by
 obtain ⟨h1,h2⟩:=lM t;refine Rat.num_nonneg.1 ?_;rw [h1];omega
open Go Go.Proofs Go.RowKit Tryz Ord
attribute [local go_sem] Oper.semAt_some
theorem aG3 {M:Nat→Prop} {w:World} {q:List (List Rat)} {m:Nat} {lead aH:Rat} {st:Int} {vs:List Value} (h:aX M w (Bn q m lead aH st) vs):∃ u0 u1 u2 u3 u4 u5 u6 u7 u8,vs = [u0,u1,u2,u3,u4,u5,u6,u7,u8]:=aG5 h
section
variable (q:List (List Rat)) (m:Nat) (lead aH:Rat) (st:Nat) (t:Rat) (k:Int) (Ns Bs B G BS:Nat) (goal:Rat) (out:Option Nat)
structure ZB:Prop where
 hm1:1≤m
 hk:k≤256
 hgq:mkRat 1 (2^k.toNat)*mkRat 1 (2^2)=goal
 T:IC q m lead aH st t.abs goal (m-1) B G
 L:BH (Ru q m lead aH st t.abs goal (m-1)) m st out
 MC:∀ N,out=some N→Ye q m lead aH st t N B BS G
 hst15:st≤Ns
 SC:∀ l,l<m→gZ Bs q m lead (bU m l) Ns
 hNs:Ns≤1073741824
 hN15:1500≤Ns
 hm:m≤64
 hBs:Bs≤4294967296
 h64:64≤Bs
 hql:q.length=m+1
 hp:∀ p∈q,p.length<1048576
 hl0:lead≠0
 hw:m+bD q≤st
 hrho:∀ j,j≤2*st+1→Fit Bs (aH^j)
def KJ (out:Option Nat):Out:=match out with
 | some n=>.ret [.one (.slice 1 (OU q m lead aH st t k n m))]
 | none=>.pan (Qf 5)
end
theorem FN {q:List (List Rat)} {m:Nat} {lead aH:Rat} {st:Nat} {t:Rat} {k:Int} {Ns Bs B G BS:Nat} {goal:Rat} {out:Option Nat} (C:ZB q m lead aH st t k Ns Bs B G BS goal out) :
  aN prog 147 [.agg (Bn q m lead aH (st:Nat)),qT t, .one (.int .i64 k)] (KJ q m lead aH st t k out):=by
 refine ⟨cB (by kernel_rfl),fun M w vs hM hv=>?_⟩
 match vs,hv with
 | [a,tv,kv],hv=>
   obtain ⟨us,rfl,hus⟩:=hv.1;obtain ⟨u0,u1,u2,u3,u4,u5,u6,u7,u8,rfl⟩:=aG3 hus;obtain ⟨ts,rfl,hts⟩:=hv.2.1;obtain ⟨t0,t1,t2,rfl⟩:=Xb hts;have hk:kv = .int .i64 k:=hv.2.2.1.1;subst hk;refine (Ov M w hM q m lead aH st t k Ns Bs B G C.hm1 C.hk goal C.hgq C.T out C.L BS C.MC C.hst15 C.SC C.hNs C.hN15 C.hm C.hBs C.h64 C.hql C.hp C.hl0 C.hw C.hrho u0 u1 u2 u3 u4 u5 u6 u7 u8 hus t0 t1 t2 hts).mono ?_;rintro e w' ⟨hb,h⟩;refine ⟨hb,?_⟩;cases out with
   | some n=>
     obtain ⟨v,rfl,hr⟩:=h;exact ⟨[v],rfl,hr,trivial⟩
   | none=>
     subst h;exact ⟨UW 5,rfl,⟨rfl,rfl⟩⟩
 | [],hv=>exact hv.elim
 | [_],hv=>exact hv.2.elim
 | [_,_],hv=>exact hv.2.2.elim
 | _::_::_::_::_,hv=>exact hv.2.2.2.elim
end Go.Sy
namespace Go.Sy
open Go Go.Proofs Tryz Ord
theorem Bd.abs {D S:Nat} {q:Rat} (h:Bd D S q):Bd D S q.abs:=by
 obtain ⟨h1,h2⟩:=lM q;exact ⟨by rw [h2];exact h.1,by rw [h1,h2,Int.natAbs_natCast];exact h.2⟩
theorem Po {t:Rat} {a:List Rat} {d n N D S E T F c p b e f g B y:Nat} (hy:11+(b+g+f*N)≤y) (h0:D≠0) (h1:E≠0) (ha:∀ x∈a,Bd D S x) (ht:Bd E T t) (hT:1≤T) (hF:∀ i:Nat,i<n→(cF (i:Int) d).natAbs≤F) (hn:0<n) (hc:c≤N) (hN:N≤2^11)
  (hD:D≤2^p) (hS:S≤2^b) (hE:E≤2^e) (hTT:T≤2^f) (hFF:F≤2^g) (hB:p+e*N+(11+(b+g+f*N))<B:=by omega) :
  Fit B (iU t a d n c)∧(iU t a d n c).num.natAbs≤2^y*(iU t a d n c).den:=by
 have h:=Je h0 h1 ha ht hT hF hn c;have r1:=LK hD hE hc;have r2:=KN hS hTT hFF hc hN;refine ⟨h.fit (Nat.mul_ne_zero h0 (Nat.pos_iff_ne_zero.1 (Nat.pow_pos (Nat.pos_of_ne_zero h1)))) (SK r1) ?_,Nat.le_trans h.2 (Nat.mul_le_mul_right _ (Nat.le_trans r2 (Nat.pow_le_pow_right (by omega) hy)))⟩;refine SK (y:=(11+(b+g+f*N))+(p+e*N)) ?_;rw [Nat.pow_add];exact Nat.mul_le_mul r2 r1
theorem Pf {b aH r:Rat} {n d B Bm:Nat} (C:qS Bm aH n d r) (hb:Fit B b) (h64:64≤Bm:=by omega) (hn:n<1099511627776:=by omega) (hd:d≤n:=by omega):Fit (B+(Bm+Bm+Bm)+(64+(128+(Bm+Bm))+1)) (qR b aH n d r):=by
 have hff:=C.ff d (bB _);have hfr:=C.fr (n-d) (by omega);have hfo:=C.fo n (by omega);have hsh:=C.sh (by omega) (by omega);exact (hb.mul ((hff.mul hfr).div hfo)).div ((Fit.int (by omega) (by omega)).sub hsh)
theorem qO (h:Nat):0<aY h:=by
 have h1:=Ce h
 have h2:0≤aY h:=by
  unfold aY;refine Rat.mul_nonneg (by decide +kernel) ?_;rw [Rat.mkRat_eq_div]
  exact uF (Rat.intCast_nonneg.2 (by omega)) (by
   have:=Nat.pow_pos (n:=h) (show 0<2 by omega);exact Rat.intCast_pos.2 (by omega))
 grind
theorem MU {x y:Rat} {S:Nat} (hx:x.num.natAbs≤S*x.den) (hy:y.num.natAbs≤S*y.den):(x+y).num.natAbs≤(S+S)*(x+y).den:=by
 have h1:Bd (x.den*y.den) S x:=⟨Nat.dvd_mul_right _ _,hx⟩
 have h2:Bd (x.den*y.den) S y:=⟨Nat.dvd_mul_left _ _,hy⟩
 exact (h1.add (Nat.mul_ne_zero (Nat.pos_iff_ne_zero.1 x.den_pos) (Nat.pos_iff_ne_zero.1 y.den_pos)) h2).2
def Fz (en:Nat→Nat→Bool) (m n:Nat):Bool:=(List.range m).all fun l=>en l n
theorem Fo {en:Nat→Nat→Bool} {m n:Nat}:Fz en m n=true↔∀ l,l<m→en l n=true:=by
 rw [Fz,List.all_eq_true];exact ⟨fun h l hl=>h l (List.mem_range.2 hl),fun h l hl=>h l (List.mem_range.1 hl)⟩
def KI (en:Nat→Nat→Bool) (m st:Nat):Option Nat:=if lL (Fz en m) st (1501-st)<1501 then some (lL (Fz en m) st (1501-st)) else none
theorem Pp {en:Nat→Nat→Bool} {m st:Nat} (up:∀ l,l<m→∀ n,st≤n→n<1500→en l n=true→en l (n+1)=true):BH en m st (KI en m st):=by
 obtain ⟨h1,h2,h3,h4⟩:=rF (Fz en m) (1501-st) st;unfold KI;generalize lL (Fz en m) st (1501-st)=N at *;refine ⟨fun n hn1 hn2=>⟨fun h=>?_,?_⟩,fun M hM=>?_,up⟩
 ·have hN:N≤n:=by
   rcases Nat.lt_or_ge n N with hlt | hge
   ·have:=h3 n hn1 hlt;rw [Fo.2 h] at this;cases this
   ·exact hge
  exact ⟨N,if_pos (by omega),hN⟩
 ·rintro ⟨M,hM,hMn⟩ l hl;split at hM
  ·rename_i hlt;simp only [aJ] at hM;subst hM;have h5:=Fo.1 (h4 (by omega)) l hl
   have key:∀ j,N+j≤1500→en l (N+j)=true:=by
    intro j
    induction j with
    | zero=>exact fun _=>h5
    | succ j ih=>exact fun hj=>up l hl (N+j) (by omega) (by omega) (ih (by omega))
   have:=key (n-N) (by omega)
   rwa [show N+(n-N)=n by omega] at this
  ·cases hM
 ·split at hM
  ·simp only [aJ] at hM;subst hM;exact ⟨h1,by omega⟩
  ·cases hM
def DA (k:Int):Rat:=mkRat 1 (2^k.toNat)*mkRat 1 (2^2)
def kJ (E:List (List Rat)) (X aH:Rat) (st:Nat) (t:Rat) (d:Nat) (k:Int):Option Nat:=
 KI (Ru (bW E X) (E.length-1) (aZ E X) aH st t.abs (DA k) d) (E.length-1) st
theorem at6:∀ m,m<5→gW m 1500≤2^45:=by decide +kernel
section
variable {E:List (List Rat)} {ER:List (List RQ)} {X:Rat} {XR:RQ}
theorem SmallX.aH9 (h:SmallX E ER X XR) (hr:kV E X) {t:Rat} (ht:vE t) {l n d c b:Nat} (hb:11300000≤b) (hn:n≤1500) (hn0:0<n) (hd:d<E.length-1) (hc:c≤n-d) :
  Fit 400000000 (iU t (bC (bW E X) (E.length-1) (aZ E X) (bU (E.length-1) l) n) d n c) ∧
  (iU t (bC (bW E X) (E.length-1) (aZ E X) (bU (E.length-1) l) n) d n c).num.natAbs≤2^b*(iU t (bC (bW E X) (E.length-1) (aZ E X) (bU (E.length-1) l) n) d n c).den:=by
 have hy:11+(10+7500*n+45+11*1500)≤b:=by
  have hx:7500*n≤11250000:=Nat.mul_le_mul_left 7500 hn;have hz:11*1500≤16500:=by decide
  generalize 11*1500=z at hz ⊢;generalize 7500*n=x at hx ⊢;omega
 obtain ⟨h2,h5,hld,_⟩:=hr.facts;obtain ⟨g0,g⟩:=Zu h.xb (N:=1500) (by decide);obtain ⟨gq,gr⟩:=g (E.length-1) (by omega);have fF:=at6;obtain ⟨Xd,hX0,hXQ,hbd⟩:=Iu (h.aa4 hr l) (N:=1500) (by omega) n hn;have hXp:Xd≤2^(14000*n):=Nat.le_trans hXQ (by rw [Nat.pow_mul];exact Nat.pow_le_pow_left gq n)
 have hSp:999*eH (E.length-1) 1500 (dX X) sM 101^n≤2^(10+7500*n):=by
  rw [Nat.pow_add,Nat.pow_mul];exact Nat.mul_le_mul (show 999≤2^10 by decide) (Nat.pow_le_pow_left gr n)
 have hfz:∀ i:Nat,i<n→(cF (i:Int) d).natAbs≤gW (E.length-1) 1500:=fun i hi=>Lh (n:=i) (by omega) d (by omega) (i:Int) (by omega);exact Po (y:=b) hy (N:=1500) (c:=c) (B:=400000000) (p:=14000*n) (b:=10+7500*n) (e:=200) (f:=11) (g:=45) hX0 (kZ t) hbd ht.bd (by omega) hfz hn0 (by omega) (by decide) hXp hSp ht.d (by decide) (fF _ (by omega))
structure vN (E:List (List Rat)) (X:Rat) (aH:Rat) (st:Nat) (t:Rat) (k:Int):Prop where
 hv:dN (bW E X) (E.length-1) (aZ E X)=some (aH,st)
 tb:vE t
 t2:t.abs+t.abs≤aH
 k256:k≤256
theorem vN.tf {E:List (List Rat)} {X aH:Rat} {st:Nat} {t:Rat} {k:Int} (S:vN E X aH st t k):Fit 513 t:=S.tb.fit.mono (by omega)
theorem SmallX.UI (h:SmallX E ER X XR) (hr:kV E X) {aH t:Rat} {st:Nat} {k:Int} (S:vN E X aH st t k) {d:Nat} (hd:d<E.length-1) :
  IC (bW E X) (E.length-1) (aZ E X) aH st t.abs (DA k) d 200000000 300000000:=by
 obtain ⟨h2,h5,hld,_⟩:=hr.facts;obtain ⟨hh,hh62,rfl,hst,hW⟩:=iJ S.hv;have hpos:=qO hh;have hab:=Kf t;have hsmall:∀ n,st≤n→n≤max 1500 st→∀ i,i≤d→qS 2097152 (aY hh) n i t.abs:=fun n h1 h2 i hi=>iX S.tb.abs hh62 (by omega) (by omega) (bB _);have hsh:∀ n,st≤n→n≤max 1500 st→∀ i,i≤d→eC (aY hh) n i t.abs<1:=fun n h1 h2 i hi=>QT hpos hab S.t2
 have hfb:∀ l,l<E.length-1→Fit 200000000 (Ew (bW E X) (E.length-1) (aZ E X) (aY hh) st l):=fun l hl=>by
  have hs:=h.Hg hr l;have hrho:∀ j,j≤2*st+1→Fit (Tb) (aY hh^j):=(iX S.tb.abs hh62 (n:=st) (d:=0) (by omega) (by omega) (by decide)).fo;exact (ND (fun x hx=>Hj hs (by omega) hx) (by decide) (fun j hj=>hrho j (by omega)) (st:=st) (by omega) _ (bB _)).mono (by decide)
 refine ⟨fun n h1 h2 i hi=>iX S.tb.abs hh62,hsh,hfb,fun l hl n h1 h2 i hi=>?_,?_,by omega,by omega,Ce hh,by omega,by omega,by omega⟩
 ·exact (Pf (hsmall n h1 h2 i hi) (hfb l hl)).mono (by omega)
 ·exact ((kL (by have:=S.k256;omega)).mul (kL (by omega))).mono (by omega)
theorem SmallX.Rc (h:SmallX E ER X XR) (hr:kV E X) {aH t:Rat} {st:Nat} {k:Int} (S:vN E X aH st t k) {d:Nat} (hd:d<E.length-1) :
  BH (Ru (bW E X) (E.length-1) (aZ E X) aH st t.abs (DA k) d) (E.length-1) st (kJ E X aH st t d k):=by
 have T:=h.UI hr S hd;obtain ⟨h2,h5,hld,_⟩:=hr.facts;obtain ⟨hh,hh62,rfl,hst,hW⟩:=iJ S.hv;refine Pp fun l hl n h1 h2 hen=>?_;unfold Ru oX at hen ⊢;rw [List.all_eq_true] at hen ⊢;intro i hi;have hid:=List.mem_range.1 hi;have h3:=of_decide_eq_true (hen i hi);exact decide_eq_true (Rat.le_trans (Ln (Kn _ _ _ _) (qO hh) (Kf t) (T.sh n h1 (by omega) i (by omega))).1 h3)
theorem SmallX.aS6 (h:SmallX E ER X XR) (hr:kV E X) {aH t:Rat} {st:Nat} {k:Int} (S:vN E X aH st t k) {N:Nat} (h1:st≤N) (h2:N≤1500) :
  Ye (bW E X) (E.length-1) (aZ E X) aH st t N 200000000 400000000 300000000:=by
 have T:=fun d hd=>h.UI hr S (d:=d) hd;obtain ⟨hl2,h5,hld,_⟩:=hr.facts;obtain ⟨hh,hh62,rfl,hst,hW⟩:=iJ S.hv;obtain ⟨bb,hbb⟩:∃ b:Nat,11300000≤b:=⟨_,bB _⟩
 refine ⟨fun d hd=>(T d hd).Oo N h1 (by omega) d (bB _),fun d hd=>(T d hd).sh N h1 (by omega) d (bB _),(T 0 (by omega)).fb,fun l hl d hd=>(T d hd).ft l hl N h1 (by omega) d (bB _),fun l hl x hx=>(Hj (h.Hg hr l) (by omega) hx).mono (by decide),fun l hl d hd c hc=>(h.aH9 hr S.tb hbb h2 (by omega) hd hc).1,
  fun i hi d hd j hj=>?_,Ce hh,by omega,by omega,by omega,by omega,by omega,by omega,S.tf.mono (by omega)⟩
 have hz:=mL (z:=(i:Int)) (N:=1504) j (by omega);have h2:(1504:Nat)^j≤1504^4:=Nat.pow_le_pow_right (by omega) (by omega);have h3:(1504:Nat)^4=5116716384256:=by decide
 rw [h3] at h2;exact (fV).mono (by omega)
theorem SmallX.Zo (h:SmallX E ER X XR) (hr:kV E X) {aH t:Rat} {st:Nat} {k:Int} (S:vN E X aH st t k) :
  ZB (bW E X) (E.length-1) (aZ E X) aH st t k 4096 (Tb) 200000000 300000000 400000000 (DA k) (kJ E X aH st t (E.length-1-1) k):=by
 obtain ⟨hl2,h5,hld,_⟩:=hr.facts;have T:=h.UI hr S (d:=E.length-1-1) (by omega);have L:=h.Rc hr S (d:=E.length-1-1) (by omega);have hmB:=h.Ze;have S':=S;obtain ⟨hh,hh62,rfl,hst,hW⟩:=iJ S.hv
 exact ⟨by omega,S.k256,rfl,T,L,fun N hN=>h.aS6 hr S (L.some N hN).1 (L.some N hN).2,by omega,fun l hl=>h.Hg hr l,by omega,by omega,by omega,by decide,by decide,by rw [bW,aP];omega,fun p hp=>by have:=(hmB p hp).1;omega,hld,by omega,
  (iX S.tb.abs hh62 (n:=st) (d:=0) (by omega) (by omega) (by decide)).fo⟩
theorem KR {x:Rat} (h0:0≤x) (h1:x≤1):x.num.natAbs≤1*x.den:=by
 have h2:=Rat.num_nonneg.2 h0;rw [Rat.le_iff] at h1;rw [show (1:Rat).num=1 from rfl,show (1:Rat).den=1 from rfl] at h1;omega
theorem PX (k:Int):DA k≤1:=by
 have h1:∀ n:Nat,mkRat 1 (2^n)≤1∧0≤mkRat 1 (2^n):=fun n=>by
  have hp:0<2^n:=Nat.pow_pos (by omega);rw [Rat.mkRat_eq_div];have h0:(0:Rat)<(((2^n:Nat):Int):Rat):=Rat.intCast_pos.2 (by omega);have h3:(((1:Int)):Rat)≤(((2^n:Nat):Int):Rat):=Rat.intCast_le_intCast.2 (by omega);have e1:((1:Int):Rat)=1:=by decide +kernel
  refine ⟨?_,uF (by rw [e1];decide +kernel) h0⟩;have:=uO (x:=((1:Int):Rat)) (y:=1) (p:=(((2^n:Nat):Int):Rat)) (q:=1) h0 (by decide +kernel) (by rw [Rat.mul_one,Rat.one_mul];exact h3)
  rwa [show (1:Rat)/1=1 by decide +kernel] at this
 unfold DA;have:=Rat.mul_le_mul_of_nonneg_right (h1 k.toNat).1 (h1 2).2;rw [Rat.one_mul] at this;exact Rat.le_trans this (h1 2).1
theorem SmallX.GB (h:SmallX E ER X XR) (hr:kV E X) {aH t:Rat} {st:Nat} {k:Int} (S:vN E X aH st t k) {N:Nat} (hN:kJ E X aH st t (E.length-1-1) k=some N) {d l:Nat} (hd:d<E.length-1) (hl:l<E.length-1) :
  Fit 12000000 (Lq (bW E X) (E.length-1) (aZ E X) aH st t k N d l)∧Fit 12000000 (KB (bW E X) (E.length-1) (aZ E X) aH st t k N d l):=by
 obtain ⟨hl2,h5,hld,_⟩:=hr.facts;have L:=h.Rc hr S (d:=E.length-1-1) (by omega);obtain ⟨h1,h2⟩:=L.some N hN;have M:=h.aS6 hr S h1 h2;have hk:=S.k256;have S':=S;obtain ⟨hh,hh62,rfl,hst,hW⟩:=iJ S.hv;have hst0:0<N:=by omega
 have hen:=(L.iff N h1 h2).2 ⟨N,hN,bB _⟩ l hl
 have hoff:AW (bW E X) (E.length-1) (aZ E X) (aY hh) st t N d l≤DA k:=by
  unfold Ru oX at hen;rw [List.all_eq_true] at hen;exact of_decide_eq_true (hen d (List.mem_range.2 (by omega)))
 have hoff0:0≤AW (bW E X) (E.length-1) (aZ E X) (aY hh) st t N d l:=UB (Kn _ _ _ _) (qO hh) (Kf t) (M.sh d hd);have ho0:=KR hoff0 (Rat.le_trans hoff (PX k));obtain ⟨b,hb⟩:∃ b:Nat,b=11300000:=⟨_,rfl⟩
 obtain ⟨H,hH⟩:∃ H:Nat,H=12000000:=⟨_,rfl⟩
 have hs':=(h.aH9 hr S.tb (b:=b) (by omega) h2 hst0 hd (bB (N-d)) (l:=l)).2;rw [←hH];have h1b:1≤2^b:=Nat.pow_pos (by omega);have ho:=Nat.le_trans ho0 (Nat.mul_le_mul_right _ h1b)
 have hon:(-(AW (bW E X) (E.length-1) (aZ E X) (aY hh) st t N d l)).num.natAbs≤2^b*(-(AW (bW E X) (E.length-1) (aZ E X) (aY hh) st t N d l)).den:=by
  show (-(AW (bW E X) (E.length-1) (aZ E X) (aY hh) st t N d l).num).natAbs≤_;rw [Int.natAbs_neg];exact ho
 have r1:(2^b+2^b)*2^k.toNat<2^H:=by
  rw [show 2^b+2^b=2^(b+1) by rw [Nat.pow_succ];omega,←Nat.pow_add];exact Nat.pow_lt_pow_right (by omega) (by omega)
 have r2:2^k.toNat<2^H:=Nat.pow_lt_pow_right (by omega) (by omega);exact ⟨Ac (MU hs' hon) r1 r2,NL (MU hs' ho) r1 r2⟩
end
end Go.Sy
