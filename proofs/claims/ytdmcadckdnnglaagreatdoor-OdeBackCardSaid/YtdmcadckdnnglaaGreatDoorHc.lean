/- The matrix of a step. The numbers of a step. Matrix. The matrix of a small equation: its numbers.
-/
import Derived.Test.YtdmcadckdnnglaaGreatDoorHa
import Derived.Test.YtdmcadckdnnglaaGreatDoorGb
import Derived.Test.YtdmcadckdnnglaaGreatDoorYa
import Derived.Test.YtdmcadckdnnglaaGreatDoorWb
set_option linter.unusedVariables false
set_option linter.unusedSimpArgs false
namespace Go.Sy
open Go Go.Proofs Go.RowKit Tryz Ord
attribute [local go_sem] Oper.semAt_some
def DK:Tr:=.back 2 [(.w (W 30 0)),(.w (W 29 0)),(.w (W 29 1)),(.w (W 29 2))]
def DA:Tr:=.need (.prim [(W 16 0),(WK (1))] none) (.binOp .sub 3 (.tmp 46) (.const (I3 (1))) 3) 3 false DK
def DV:Tr:=.need (.call 64 [(.agg [(U 21 0),(U 21 1),(U 21 2)]),(.agg [(U 28 0),(U 28 1),(U 28 2)])] [(some 3)]) (.call ⟨.value (.func 64),#[(.tmp 50),(.tmp 61)],#[39,39]⟩) 39 true DA
def CM:Tr:=.need (.call 36 [(.agg [(U 26 0),(U 26 1),(U 26 2)]),(.agg [(U 27 0),(U 27 1),(U 27 2)])] [(some 3)]) (.call ⟨.value (.func 36),#[(.tmp 57),(.tmp 60)],#[39,39]⟩) 39 true DV
def DU:Tr:=.need (.call 209 [(W 16 0),(W 6 0)] [(some 3)]) (.call ⟨.value (.func 209),#[(.tmp 58),(.tmp 59)],#[3,3]⟩) 39 false CM
def Cp:Tr:=.need (.prim [(W 25 0)] (some 3)) (.load 39 (.tmp 56)) 39 false DU
def DW:Tr:=.need (.prim [(W 24 0),(W 16 0)] none) (.indexAddr 40 (.tmp 54) (.tmp 55)) 0 false Cp
def DP:Tr:=.need (.prim [(W 23 0)] none) (.load 40 (.tmp 53)) 40 false DW
def DI:Tr:=.need (.prim [(W 22 0)] none) (.fieldAddr 266 (.tmp 52) 2) 0 false DP
def Cq:Tr:=.need (.prim [(W 14 0)] none) (.nilCheck (.tmp 51)) 0 false DI
def Cr:Tr:=.need (.call 36 [(.agg [(U 17 0),(U 18 0),(U 19 0)]),(.agg [(U 2 0),(U 2 1),(U 2 2)])] [(some 3)]) (.call ⟨.value (.func 36),#[(.tmp 48),(.tmp 49)],#[39,39]⟩) 39 false Cq
def Dm:Tr:=.back 1 [(.w (W 28 0)),(.row 27)]
def Ch:Tr:=.need (.prim [(W 10 0),(WK (1))] none) (.binOp .add 3 (.tmp 37) (.const (I3 (1))) 3) 3 false Dm
def Du:Tr:=.need (.app 6 112 (some 11) none (some 26)) (.call ⟨.builtin .append,#[(.tmp 63),(.tmp 75)],#[118,118]⟩) 118 false Ch
def DF:Tr:=.need (.lit 6 [[(.u 25 0),(.u 25 1),(.u 25 2),(.u 25 3),(.u 25 4),(.u 25 5)]]) (.buildSlice 118 1 #[(0,(.tmp 74))]) 118 false Du
def DC:Tr:=.need (.call 229 [(.agg [(U 24 0),(U 24 1),(U 24 2),(U 24 3),(U 24 4),(U 24 5)]),(W 0 0)] [(some 6)]) (.call ⟨.value (.func 229),#[(.tmp 72),(.tmp 73)],#[123,3]⟩) 123 true DF
def Ed:Tr:=.need (.call 66 [(.agg [(U 21 0),(U 21 1),(U 21 2),(U 21 3),(U 21 4),(U 21 5)]),(.agg [(U 23 0),(U 23 1),(U 23 2),(U 23 3),(U 23 4),(U 23 5)])] [(some 6)]) (.call ⟨.value (.func 66),#[(.tmp 65),(.tmp 71)],#[123,123]⟩) 123 false DC
def Df:Tr:=.need (.call 228 [(.agg [(U 22 0),(U 22 1),(U 22 2)])] [(some 6)]) (.call ⟨.value (.func 228),#[(.tmp 70)],#[39]⟩) 123 false Ed
def Dd:Tr:=.need (.call 133 [(W 14 0),(W 5 0),(W 6 0),(.agg [(U 4 0),(U 4 1),(U 4 2)])] [(some 3)]) (.call ⟨.value (.func 133),#[(.tmp 66),(.tmp 67),(.tmp 68),(.tmp 69)],#[194,3,3,39]⟩) 39 false Df
def Dt:Tr:=.need (.call 227 [(.agg [(U 17 0),(U 18 0),(U 19 0)])] [(some 6)]) (.call ⟨.value (.func 227),#[(.tmp 64)],#[39]⟩) 123 false Dd
def Ej:Tr:=.split (.u 20 0) Cr Dt
def CG:Tr:=.need (.prim [(W 16 0),(W 6 0)] none) (.binOp .geq 3 (.tmp 43) (.tmp 44) 3) 4 false Ej
def Eb:Tr:=.loop 2 [(.w (W 15 0)),(.w (.one (.c (.k (.slice none 0 0))))),(.w (.one (.c (.k (.bool false))))),(.w (.one (.c (.k (.slice none 0 0)))))] CG
def Fm:Tr:=.need (.prim [(W 5 0),(WK (1))] none) (.binOp .sub 3 (.tmp 41) (.const (I3 (1))) 3) 3 false Eb
def Fk:Tr:=.need (.prim [(W 13 0)] none) (.load 194 (.tmp 39)) 194 false Fm
def EB:Tr:=.need (.prim [(W 3 0),(W 10 0)] none) (.indexAddr 276 (.tmp 35) (.tmp 37)) 0 false Fk
def Ek:Tr:=.back 0 [(.w (W 15 0)),(.row 14)]
def DX:Tr:=.need (.prim [(W 6 0),(WK (1))] none) (.binOp .add 3 (.tmp 32) (.const (I3 (1))) 3) 3 false Ek
def CZ:Tr:=.need (.app 1 24 (some 7) none (some 13)) (.call ⟨.builtin .append,#[(.tmp 78),(.tmp 80)],#[109,109]⟩) 109 false DX
def Dz:Tr:=.need (.lit 1 [[(.sr 6 11)]]) (.buildSlice 109 1 #[(0,(.tmp 79))]) 109 false CZ
def Ev:Tr:=.split (.u 12 0) EB Dz
def EW:Tr:=.need (.prim [(W 10 0),(W 9 0)] none) (.binOp .lss 3 (.tmp 37) (.tmp 36) 3) 0 false Ev
def EM:Tr:=.loop 1 [(.w (WK (0))), .nilrow] EW
def EC:Tr:=.need (.prim [(W 3 0)] none) (.call ⟨.builtin .len,#[(.tmp 35)],#[276]⟩) 3 false EM
def CL:Tr:=.ret [(.one (.c (.sr 1 7)))]
def Fb:Tr:=.split (.u 8 0) EC CL
def Fc:Tr:=.need (.prim [(W 6 0),(W 1 1)] none) (.binOp .lss 3 (.tmp 32) (.tmp 31) 3) 4 false Fb
def EK:Tr:=.loop 0 [(.w (WK (0))), .nilrow] Fc
theorem Kd:Bc prog 84 (fun _=>none) (gO [1,1,1,1] (pH f147)) [(2, .v none),(3, .ref 9),(4, .ref 3),(7, .v none),(8, .ref 3),(9, .v none)] f147.results.toList none true=EK:=by kernel_rfl
def fZ (t:Rat) (a:List Rat) (d n:Nat):Nat→Rat
 | 0=>0
 | c+1=>fZ t a d n c*t+a.getD (n-1-c) 0*((bL ((n-1-c:Nat):Int) d:Int):Rat)
def ab8 (q:List (List Rat)) (m:Nat) (lead:Rat) (t:Rat) (n d l:Nat):Rat:=fZ t (aR q m lead (bG m l) n) d n (n-d)
def Al (q:List (List Rat)) (m:Nat) (lead aF:Rat) (st:Nat) (t:Rat) (n d l:Nat):Rat:=fS (vW q m lead aF st l) aF n d t.abs
def pT (q:List (List Rat)) (m:Nat) (lead aF:Rat) (st:Nat) (t:Rat) (k:Int) (n d l:Nat):Rat:=tJ (ab8 q m lead t n d l + -(Al q m lead aF st t n d l)) k.toNat
def pI (q:List (List Rat)) (m:Nat) (lead aF:Rat) (st:Nat) (t:Rat) (k:Int) (n d l:Nat):Rat:=Zy (ab8 q m lead t n d l+Al q m lead aF st t n d l) k.toNat
abbrev Yv (q:List (List Rat)) (m:Nat) (lead aF:Rat) (st:Nat) (t:Rat) (k:Int) (n d j:Nat):List (List aI):=(List.range j).map fun l=>ZX (pT q m lead aF st t k n d l) (pI q m lead aF st t k n d l)
abbrev LA (q:List (List Rat)) (m:Nat) (lead aF:Rat) (st:Nat) (t:Rat) (k:Int) (n i:Nat):List (List aI):=(List.range i).map fun d=>[.slice 6 (Yv q m lead aF st t k n d m)]
structure Yi (q:List (List Rat)) (m:Nat) (lead aF:Rat) (st:Nat) (t:Rat) (n B BS G:Nat):Prop where
 OQ:∀ d,d<m→qP B aF n d t.abs
 sh:∀ d,d<m→cH aF n d t.abs<1
 fb:∀ l,l<m→Fit B (vW q m lead aF st l)
 ft:∀ l,l<m→∀ d,d<m→Fit G (Al q m lead aF st t n d l)
 fc:∀ l,l<m→∀ x∈aR q m lead (bG m l) n,Fit BS x
 fs:∀ l,l<m→∀ d,d<m→∀ c,c≤n-d→Fit BS (fZ t (aR q m lead (bG m l) n) d n c)
 ff:∀ i,i<n→∀ d,d<m→∀ j,j≤d→Fit B ((bL (i:Int) j:Int):Rat)
 h0:aF≠0
 hB:B≤1073741824
 h64:64≤B
 hBS:BS≤1073741824
 hG:G≤1073741824
 n15:n≤1073741824
 mn:m≤n
 ft1:Fit B t
set_option maxHeartbeats 2000000 in
theorem aB6 (q:List (List Rat)) (m:Nat) (lead aF:Rat) (st:Nat) (t:Rat) (k:Int) (n B BS G:Nat) (C:Yi q m lead aF st t n B BS G) (hm:m≤64) (hk:k≤256):vc prog (fun o=>jP o (.ret [.one (.slice 1 (LA q m lead aF st t k n m))])) (Bc prog 84 (fun _=>none) (gO [1,1,1,1] (pH f147)) [(2, .v none),(3, .ref 9),(4, .ref 3),(7, .v none),(8, .ref 3),(9, .v none)] f147.results.toList none true) ([.v (.one (.int .i64 k)), .ref (zF q m lead aF (st:Nat)), .ref (qC t), .v (.one (.slice 1 ((List.range m).map fun l=>[.bC (kI q m lead aF st n l)]))), .ref (qC t.abs), .v (.one (.int .i64 n))].map In.env) []:=by
 rw [Kd];dsimp only [List.map,In.env,aA,aB];obtain ⟨hmn,hn15,hB,h64,hBS,hG,h0⟩:=(⟨C.mn,C.n15,C.hB,C.h64,C.hBS,C.hG,C.h0⟩:m≤n∧n≤1073741824∧B≤1073741824∧64≤B∧BS≤1073741824∧G≤1073741824∧aF≠0)
 refine bF {d:Nat // d≤m} (fun g=>[.one (.int .i64 g.1), .rows (LA q m lead aF st t k n g.1)]) (fun g=>m-g.1) ⟨0,Nat.zero_le _⟩ aO.rfl (fun _=>rfl) ?_;rintro ⟨d,hd⟩;dsimp only [aA,aB] at hd ⊢;refine vn bE rfl ?_;dsimp only [aA,aB];refine vs _ rfl (fun h2=>?_) (fun h2=>?_)
 ·refine vn (aQ Zj (List.length_map _)) rfl ?_;rw [List.length_range];dsimp only [aA,aB];have hdm:d<m:=by omega
  refine bF {l:Nat // l≤m} (fun g=>[.one (.int .i64 g.1), .rows (Yv q m lead aF st t k n d g.1)]) (fun g=>m-g.1) ⟨0,Nat.zero_le _⟩ aO.rfl (fun _=>rfl) ?_;rintro ⟨l,hl⟩;dsimp only [aA,aB] at hl ⊢;refine vn bE rfl ?_;dsimp only [aA,aB];refine vs _ rfl (fun h6=>?_) (fun h6=>?_)
  ·have hlm:l<m:=by omega
   have hrl:(List.range m)[l]? = some l:=List.getElem?_range hlm;refine vn (aY Zj (by omega) (Int.toNat_natCast l) hrl) rfl ?_;dsimp only [aA,aB];refine vn (bH aU1) rfl ?_;dsimp only [aA,aB];refine vn (aJ (by omega) (by omega)) rfl ?_;dsimp only [aA,aB];have hal:=bQ q m lead (bG m l) n;have hfs:=C.fs l hlm d hdm;have hfc:=C.fc l hlm
   refine bF {c:Nat // c≤n-d} (fun g=>(.one (.int .i64 ((n:Int)-1-(g.1:Int))):aG)::(qC (fZ t (aR q m lead (bG m l) n) d n g.1)).map .one) (fun g=>n-d-g.1) ⟨0,Nat.zero_le _⟩ (by
    rw [show (n:Int)-1-((0:Nat):Int)=(n:Int)-1 by omega];exact ⟨aG.Sub.same,qN⟩) (fun _=>rfl) ?_
   rintro ⟨c,hc⟩;dsimp only [aA,aB,List.map] at hc ⊢;refine vn eS rfl ?_;dsimp only [aA,aB];refine vs _ rfl (fun h12=>?_) (fun h12=>?_)
   ·have hci:c<n-d:=by omega
    obtain ⟨i,hi⟩:∃ i,n-1-c=i:=⟨_,rfl⟩
    have hii:(n:Int)-1-(c:Int)=(i:Int):=by omega
    have hia:i<(aR q m lead (bG m l) n).length:=by omega
    have hfx:=hfc _ (List.mem_of_getElem? (cI hia));have hff:=C.ff i (by omega) d hdm;refine aC (cP _ _ BS B (hfs c hc) C.ft1 (by omega)) rfl ?_;dsimp only [aA,aB];refine vn Ow rfl ?_;dsimp only [aA,aB];refine vn (rD VG (by decide)) rfl ?_;dsimp only [aA,aB];refine vn (t:=.one (sQ (aR q m lead (bG m l) n))) (bZ aZ5 (by decide) (by exact Nat.succ_le_succ (Nat.zero_le _)) (.inr rfl)) rfl ?_;dsimp only [aA,aB];refine vn (aY zZ (by omega) (show ((n:Int)-1-(c:Int)).toNat=i by omega) (cI hia)) rfl ?_;dsimp only [aA,aB];refine vn (bZ rZ (by decide) (by simp) (.inl rfl)) rfl ?_;dsimp only [aA,aB];rw [hii];refine aC (lQ (i:Int) d B (by omega) (by omega) (by omega) (by omega) h64 hff) rfl ?_;dsimp only [aA,aB];refine aC (cP _ _ BS B hfx (hff d (Nat.le_refl _)) (by omega)) rfl ?_;dsimp only [aA,aB];refine aC (kF _ _ (BS+B) (BS+B) ((hfs c hc).mul C.ft1) (hfx.mul (hff d (Nat.le_refl _))) (by omega)) rfl ?_;rw [show fZ t (aR q m lead (bG m l) n) d n c*t+((aR q m lead (bG m l) n)).getD i 0*((bL (i:Int) d:Int):Rat)=fZ t (aR q m lead (bG m l) n) d n (c+1) by rw [fZ,hi]];dsimp only [aA,aB];refine vn (aJ (by omega) (by omega)) rfl ?_;dsimp only [aA,aB];exact aU rfl ⟨⟨c+1,by omega⟩,aO.of_eq (by dsimp only;rw [show (n:Int)-1-((c+1:Nat):Int)=(i:Int)-1 by omega];rfl),by show n-d-(c+1)<n-d-c;omega⟩
   have hcd:c=n-d:=by omega
   subst hcd;refine aC (aY4 (fZ t (aR q m lead (bG m l) n) d n (n-d))) rfl ?_;dsimp only [aA,aB];refine aC (MJ (eQ q) (.int .i64 m) (dT lead.num.natAbs) (.bool (decide (lead.num<0))) (dT (lead.den-1)) aF st (bG m l) (aR q m lead (bG m l) n) (vW q m lead aF st l) n d t.abs B (C.OQ d hdm) (by omega) (by omega) h0 (C.fb l hlm) (by omega) (by omega) (C.sh d hdm)) rfl ?_;dsimp only [aA,aB];refine aC (PF (fS (vW q m lead aF st l) aF n d t.abs)) rfl ?_;dsimp only [aA,aB];have hft:=C.ft l hlm d hdm;refine aC (Ua (fZ t (aR q m lead (bG m l) n) d n (n-d)) (fZ t (aR q m lead (bG m l) n) d n (n-d)) (-(Al q m lead aF st t n d l)) (Al q m lead aF st t n d l) BS G (hfs _ (Nat.le_refl _)) (hfs _ (Nat.le_refl _)) hft.neg hft (by omega)) rfl ?_;dsimp only [aA,aB];refine aC (ac4 _ _ k (BS+G+1) hk ((hfs _ (Nat.le_refl _)).add hft.neg) ((hfs _ (Nat.le_refl _)).add hft) (by omega) (by omega)) rfl ?_;rw [show tJ (fZ t (aR q m lead (bG m l) n) d n (n-d) + -(Al q m lead aF st t n d l)) k.toNat=pT q m lead aF st t k n d l from rfl,show Zy (fZ t (aR q m lead (bG m l) n) d n (n-d)+Al q m lead aF st t n d l) k.toNat=pI q m lead aF st t k n d l from rfl];dsimp only [aA,aB];refine dC (us:=[ZX (pT q m lead aF st t k n d l) (pI q m lead aF st t k n d l)]) rfl ?_;dsimp only [aA,aB];refine qI (xs:=List.range l) (x:=l) (f:=fun l=>ZX (pT q m lead aF st t k n d l) (pI q m lead aF st t k n d l)) rfl rfl (by rw [List.length_range];omega) (by rw [List.length_range];simp only [maxLen];omega) ?_;rw [←List.range_succ];dsimp only [aA,aB];refine vn (aE (by omega) (by omega)) rfl ?_;dsimp only [aA,aB];exact aU rfl ⟨⟨l+1,by omega⟩,aO.rfl,by show m-(l+1)<m-l;omega⟩
  obtain rfl:l=m:=by omega
  refine dC (us:=[[.slice 6 (Yv q l lead aF st t k n d l)]]) rfl ?_;dsimp only [aA,aB];refine qI (xs:=List.range d) (x:=d) (f:=fun d=>[.slice 6 (Yv q l lead aF st t k n d l)]) rfl rfl (by rw [List.length_range];omega) (by rw [List.length_range];simp only [maxLen];omega) ?_;rw [←List.range_succ];dsimp only [aA,aB];refine vn (aE (by omega) (by omega)) rfl ?_;dsimp only [aA,aB];exact aU rfl ⟨⟨d+1,by omega⟩,aO.rfl,by show l-(d+1)<l-d;omega⟩
 obtain rfl:d=m:=by omega
 exact aL rfl
def Halt (p:Prop):Prop:=p
theorem halt {p:Prop} (h:Halt p):p:=h
theorem OT {M:Nat→Prop} {n0 m:Nat} {W:World} {C:Nat→List aI} {bv:Value} {ps:List Nat} (I:mC M n0 W C bv ps) (hpl:ps.length=m) (hM:∀ k,M k→k<n0):(aI.slice 1 ((List.range m).map fun l=>[aI.bC (C l)])).rep M W bv:=by
 have hkM:bX (tK M ps bv) W M W:=fun b o hb ho _=>⟨fun h=>hb (.inl (.inl h)),ho⟩
 rcases I.sl.2 with ⟨rfl,h⟩ | ⟨g,cap,cur,rfl,h2,h3,h4,h5,h6,h7⟩
 ·obtain rfl:m=0:=by omega
  exact ⟨none,0,rfl,Nat.le_refl _,by simp [maxLen], .inl rfl⟩
 ·rw [hpl,Nat.mul_one] at h7;refine ⟨some ⟨g,0,none⟩,cap,by rw [List.length_map,List.length_range,hpl],by rw [List.length_map,List.length_range];omega,h5, .inr ⟨g,0,cur,194,(0,0),rfl,fun h=>by have:=hM g h;omega,h3,fun i t ht=>?_⟩⟩;rw [List.getElem?_map] at ht
  have hi:i<m:=by
   rcases Nat.lt_or_ge i m with h | h
   ·exact h
   ·rw [List.getElem?_eq_none (by rw [List.length_range];exact h)] at ht;cases ht
  rw [List.getElem?_range hi] at ht;simp only [Option.map_some,Option.some.injEq] at ht;subst ht;obtain ⟨b,hb⟩:∃ b,ps[i]? = some b:=⟨_,List.getElem?_eq_getElem (by omega)⟩
  have hc:cur.toList[i]? = some (.pointer (some ⟨b,0,none⟩)):=by
   have h:(cur.toList.take m)[i]? = some (.pointer (some ⟨b,0,none⟩)):=by rw [h7,List.getElem?_map,hb];rfl
   rwa [List.getElem?_take,if_pos hi] at h
  have hd:(cur.toList.drop (0+i*1)).take 1 = [.pointer (some ⟨b,0,none⟩)]:=by
   obtain ⟨h8,h9⟩:=List.getElem?_eq_some_iff.1 hc;rw [Nat.zero_add,Nat.mul_one,List.drop_eq_getElem_cons h8,h9];rfl
  obtain ⟨us,hu,hr⟩:=I.cells i b hb;refine ⟨rfl,?_⟩;rw [hd];refine ⟨⟨b,0,us,266,(0,0),rfl,fun h=>by have:=hM b h;have:=(I.lo b (List.mem_of_getElem? hb)).1;omega,hu,?_⟩,trivial⟩;rw [List.drop_zero,List.take_of_length_le (Nat.le_of_eq hr.length.symm)];exact hr.mono hkM
set_option maxRecDepth 100000 in
set_option maxHeartbeats 1000000 in
theorem OV (M:Nat→Prop) (w:World) (hM:dK M w) (q:List (List Rat)) (m:Nat) (lead aF:Rat) (st:Nat) (t:Rat) (k:Int) (Ns Bs B G:Nat) (hm1:1≤m) (hk:k≤256) (goal:Rat) (hgq:mkRat 1 (2^k.toNat)*mkRat 1 (2^2)=goal)
  (T:Jh q m lead aF st t.abs goal (m-1) B G) (out:Option Nat) (L:BZ (Qn q m lead aF st t.abs goal (m-1)) m st out) (BS:Nat) (MC:∀ N,out=some N→Yi q m lead aF st t N B BS G)
  (hst15:st≤Ns) (SC:∀ l,l<m→gP Bs q m lead (bG m l) Ns) (hNs:Ns≤1073741824) (hN15:1500≤Ns) (hm:m≤64) (hBs:Bs≤4294967296) (h64:64≤Bs) (hql:q.length=m+1) (hp:∀ p∈q,p.length<1048576) (hl0:lead≠0) (hw:m+aV q≤st) (hrho:∀ j,j≤2*st+1→Fit Bs (aF^j))
  (u0 u1 u2 u3 u4 u5 u6 u7 u8:Value) (ha:aW M w (zF q m lead aF (st:Nat)) [u0,u1,u2,u3,u4,u5,u6,u7,u8]) (t0 t1 t2:Value) (ht:aW M w (qC t) [t0,t1,t2]) :
  Calls prog 147 #[.agg #[u0,u1,u2,u3,u4,u5,u6,u7,u8], .agg #[t0,t1,t2], .int .i64 k] w fun e w'=>Below w.heap.size w w'∧match out with
   | some n=>∃ v,e = .returned v∧(aI.slice 1 (LA q m lead aF st t k n m)).rep M w' v
   | none=>e = .panicked [{ v:=Vh 5,recovered:=false }]:=by
 obtain ⟨o0,o1,o2,o3,o4,o5,o6,o7,o8⟩:u0.oneCell'=true∧u1.oneCell'=true∧u2.oneCell'=true∧u3.oneCell'=true∧u4.oneCell'=true∧u5.oneCell'=true∧u6.oneCell'=true∧u7.oneCell'=true∧u8.oneCell'=true:=by
  have:=ha.one;exact ⟨this _ (by simp),this _ (by simp),this _ (by simp),this _ (by simp),this _ (by simp),this _ (by simp),this _ (by simp),this _ (by simp),this _ (by simp)⟩
 obtain ⟨p0,p1,p2⟩:t0.oneCell'=true∧t1.oneCell'=true∧t2.oneCell'=true:=by have:=ht.one;exact ⟨this _ (by simp),this _ (by simp),this _ (by simp)⟩
 have e1:u1 = .int .i64 m:=ha.2.1.1;subst e1;refine calls_of_wp func147 rfl ?_;simp only [ntmps147,List.size_toArray,List.length_cons,List.length_nil,Nat.reduceAdd,Nat.reduceSub,Array.replicate_succ,Array.replicate_zero,List.push_toArray,List.append_toArray,List.nil_append,List.cons_append];obtain ⟨n0,hn0⟩:∃ n0,w.heap.size=n0:=⟨_,rfl⟩
 obtain ⟨W1,hW1⟩:∃ W1,(w.alloc (.cells #[u0, .int .i64 m,u2,u3,u4,u5,u6,u7,u8] 185)).alloc (.cells #[t0,t1,t2] 39)=W1:=⟨_,rfl⟩
 have hs1:W1.heap.size=n0+2:=by rw [←hW1];simp [hn0]
 have hB1:Below w.heap.size w W1:=by rw [←hW1];exact ((Below.refl _ w).alloc (Nat.le_refl _) _).alloc (by simp) _
 have hA1:W1.heap[n0]? = some (.cells #[u0, .int .i64 m,u2,u3,u4,u5,u6,u7,u8] 185 (0,0)):=by rw [←hW1,heap_alloc_old _ _ _ (by simp;omega),←hn0];exact heap_alloc_new w _
 have hT1:W1.heap[n0+1]? = some (.cells #[t0,t1,t2] 39 (0,0)):=by
  rw [←hW1];have:=heap_alloc_new (w.alloc (.cells #[u0, .int .i64 m,u2,u3,u4,u5,u6,u7,u8] 185)) (.cells #[t0,t1,t2] 39)
  rwa [World.size_alloc,hn0] at this
 have hM1:dK M W1:=⟨fun b hb=>Nat.lt_of_lt_of_le (hM.1 b hb) hB1.size,hM.2.below rfl hB1⟩
 have ha1:=ha.mono (bX.below hB1);have hbas:=Rt M W1 hM1 q m lead aF st Ns Bs SC (by omega) hNs hm (by omega) hBs h64 hql hp hl0 hw hrho u0 (.int .i64 m) u2 u3 u4 u5 u6 u7 u8 ha1;have c0:W1.cell? ⟨n0,0,none⟩=some u0:=aH hA1 rfl;have c1:W1.cell? ⟨n0,1,none⟩=some (.int .i64 m):=aH hA1 rfl;have c2:W1.cell? ⟨n0,2,none⟩=some u2:=aH hA1 rfl;have c3:W1.cell? ⟨n0,3,none⟩=some u3:=aH hA1 rfl;have c4:W1.cell? ⟨n0,4,none⟩=some u4:=aH hA1 rfl;have c5:W1.cell? ⟨n0,5,none⟩=some u5:=aH hA1 rfl;have c6:W1.cell? ⟨n0,6,none⟩=some u6:=aH hA1 rfl;have c7:W1.cell? ⟨n0,7,none⟩=some u7:=aH hA1 rfl;have c8:W1.cell? ⟨n0,8,none⟩=some u8:=aH hA1 rfl
 go_wp2_with (go_at_call 225;refine hbas.mono ?_)
 rintro e w2 ⟨bv,ps,rfl,hpl,hb2,I⟩;have hB2:Below w.heap.size w w2:=hB1.trans (hb2.mono hB1.size);have hf2:=I.GU hM1 (Nat.le_refl _) hb2;have hw2:=hb2.size
 have hlt:∀ b,tK M ps bv b→M b∨n0+2≤b:=by
  rintro b ((h | h) | h)
  ·exact .inl h
  ·exact .inr (by have:=(I.lo b h).1;omega)
  ·exact .inr (by have:=(I.sl.lt b h).1;omega)
 have hk2:bX M w (tK M ps bv) w2:=fun b o hb ho _=>by
  have hl:=(Array.getElem?_eq_some_iff.1 ho).1;exact ⟨fun h=>(hlt b h).elim hb (by omega),(hB2.block b hl).trans ho⟩
 have hA2:w2.heap[n0]? = some (.cells #[u0, .int .i64 m,u2,u3,u4,u5,u6,u7,u8] 185 (0,0)):=(hb2.block n0 (by omega)).trans hA1;have hT2:w2.heap[n0+1]? = some (.cells #[t0,t1,t2] 39 (0,0)):=(hb2.block (n0+1) (by omega)).trans hT1
 have hba:Calls prog 146 #[.agg #[t0,t1,t2]] w2 fun e w'=>Below w2.heap.size w2 w'∧∃ r0 r1 r2,e = .returned (.agg #[r0,r1,r2])∧aW (tK M ps bv) w' (qC t.abs) [r0,r1,r2]:=by
  refine ((rA t).2 (tK M ps bv) w2 [.agg #[t0,t1,t2]] hf2 ⟨⟨_,rfl,ht.mono hk2⟩,trivial⟩).mono ?_;rintro e w' ⟨hb,vs,rfl,hvs⟩;obtain ⟨us,e1,hus⟩:=ay6 hvs;obtain ⟨g0,g1,g2,rfl⟩:=SO hus;exact ⟨hb,g0,g1,g2,by rw [e1],hus⟩
 have d0:w2.cell? ⟨n0+1,0,none⟩=some t0:=aH hT2 rfl;have d1:w2.cell? ⟨n0+1,1,none⟩=some t1:=aH hT2 rfl;have d2:w2.cell? ⟨n0+1,2,none⟩=some t2:=aH hT2 rfl
 go_wp2_with (go_at_call 146;refine hba.mono ?_)
 rintro e w3 ⟨hb3,r0,r1,r2,rfl,hr3⟩;obtain ⟨x0,x1,x2⟩:r0.oneCell'=true∧r1.oneCell'=true∧r2.oneCell'=true:=by have:=hr3.one;exact ⟨this _ (by simp),this _ (by simp),this _ (by simp)⟩
 have hA3:w3.heap[n0]? = some (.cells #[u0, .int .i64 m,u2,u3,u4,u5,u6,u7,u8] 185 (0,0)):=(hb3.block n0 (by omega)).trans hA2
 go_wp2
 have hnew:=heap_alloc_new w3 (.cells #[.slice none 0 0, .bool false, .slice none 0 0] 39);rw [vS hnew x0 x1 x2];obtain ⟨w4,hw4⟩:∃ w4,(w3.alloc (.cells #[.slice none 0 0, .bool false, .slice none 0 0] 39)).setRow w3.heap.size #[r0,r1,r2]=w4:=⟨_,rfl⟩
 have hB34:Below w3.heap.size w3 w4:=by rw [←hw4];exact below_setRow ((Below.refl _ w3).alloc (Nat.le_refl _) _) (Nat.le_refl _) _
 have hR4:w4.heap[w3.heap.size]? = some (.cells #[r0,r1,r2] 39 (0,0)):=by rw [←hw4];exact setRow_heap _ _ _ _ _ _ hnew
 have hw3:=hb3.size;have hA4:w4.heap[n0]? = some (.cells #[u0, .int .i64 m,u2,u3,u4,u5,u6,u7,u8] 185 (0,0)):=(hB34.block n0 (by omega)).trans hA3;have hT4:w4.heap[n0+1]? = some (.cells #[t0,t1,t2] 39 (0,0)):=(hB34.block (n0+1) (by omega)).trans ((hb3.block (n0+1) (by omega)).trans hT2);have hB24:Below w2.heap.size w2 w4:=hb3.trans (hB34.mono hb3.size);have hB14:Below W1.heap.size W1 w4:=hb2.trans (hB24.mono hb2.size);have hter:=Sx Ns Bs M W1 w4 hM1 hB14 q m lead aF st t.abs (m-1) k B G bv ps hm1 hk goal hgq T out L ((I.grow hb3).grow hB34) hpl hst15 SC hNs hN15 hm hBs h64 hql hp hl0 r0 r1 r2 (hr3.mono (bX.below hB34));rw [show (((m-1:Nat)):Int)=(m:Int)-1 by omega] at hter;have q0:w4.cell? ⟨w3.heap.size,0,none⟩=some r0:=aH hR4 rfl;have q1:w4.cell? ⟨w3.heap.size,1,none⟩=some r1:=aH hR4 rfl;have q2:w4.cell? ⟨w3.heap.size,2,none⟩=some r2:=aH hR4 rfl;have q3:w4.cell? ⟨n0,1,none⟩=some (.int .i64 m):=aH hA4 rfl;rw [hw4]
 go_wp2_with (go_at_call 226;refine hter.mono ?_)
 ·rename_i KK K2 out1 L1 N L2 QQ hKK hK2;rintro e w5 rfl tu I5;have hww4:=hB24.size;have hps:∀ b∈ps,n0+2≤b:=fun b hb=>by have:=(I.lo b hb).1;omega
  have hB5:Below w.heap.size w w5:=tu.low (hB1.trans (hB14.mono hB1.size)) (by omega) (fun b hb=>by have:=hps b hb;omega);have hM5:dK M w5:=⟨fun b hb=>Nat.lt_of_lt_of_le (hM.1 b hb) hB5.size,hM.2.below rfl hB5⟩
  have hn5:∀ j,j<n0+2→j ∉ ps:=fun j hj h=>by have:=hps j h;omega
  have hA5:w5.heap[n0]? = some (.cells #[u0, .int .i64 m,u2,u3,u4,u5,u6,u7,u8] 185 (0,0)):=(tu.block n0 (by omega) (hn5 _ (by omega))).trans hA4;have hT5:w5.heap[n0+1]? = some (.cells #[t0,t1,t2] 39 (0,0)):=(tu.block (n0+1) (by omega) (hn5 _ (by omega))).trans hT4;have hR5:w5.heap[w3.heap.size]? = some (.cells #[r0,r1,r2] 39 (0,0)):=(tu.block w3.heap.size (by rw [←hw4];simp [World.setRow]) (fun h=>by have:=(I.lo _ h).2;omega)).trans hR4;have hr4:=hr3.mono (bX.below hB34);have hk45:bX (tK M ps bv) w4 M w5:=fun b o hb ho _=>⟨fun h=>hb (.inl (.inl h)),(tu.block b (Array.getElem?_eq_some_iff.1 ho).1 (fun h=>hb (.inl (.inr h)))).trans ho⟩
  have hKH:Halt _:=hKK;clear hKK
  go_wp2
  refine hKH _ _ ?_
  refine Ya (N:=84) (ins:=[(2, .v none),(3, .ref 9),(4, .ref 3),(7, .v none),(8, .ref 3),(9, .v none)]) (xs:=[.v (.one (.int .i64 k)), .ref (zF q m lead aF (st:Nat)), .ref (qC t), .v (.one (.slice 1 ((List.range m).map fun l=>[.bC (kI q m lead aF st N l)]))), .ref (qC t.abs), .v (.one (.int .i64 N))]) fo ⟨rfl,rfl,rfl,rfl,rfl,rfl,trivial⟩
   (aB6 q m lead aF st t k N B BS G (MC N rfl) hm hk) (by kernel_rfl) hM5 rfl rfl
   ⟨⟨rfl,rfl⟩,⟨n0,0,_,_,_,rfl,fun h=>by have:=hM.1 _ h;omega,hA5,ha.mono (bX.below hB5)⟩,⟨n0+1,0,_,_,_,rfl,fun h=>by have:=hM.1 _ h;omega,hT5,ht.mono (bX.below hB5)⟩,OT I5 hpl (fun k h=>by have:=hM.1 k h;omega),⟨w3.heap.size,0,_,_,_,rfl,fun h=>by have:=hM.1 _ h;omega,hR5,hr4.mono hk45⟩,⟨rfl,rfl⟩,trivial⟩ ?_ (by intro c v a' w' h;cases h)
  intro e a' w' rs us hrs hex hB hsz hdf hrun hus;cases hrs
  have key:a'.defers = []∧∃ v,(results f147 a'.tmps).run prog w' = .ok v w'∧(Below w.heap.size w w'∧∃ v',Ending.returned v = .returned v'∧(aI.slice 1 (LA q m lead aF st t k N m)).rep M w' v'):=by
   obtain ⟨v,hv,hrep⟩:=PQ hus;exact ⟨hdf,_,iK f147 a'.tmps us hrun,hB5.trans (hB.mono hB5.size),v,by rw [hv],hrep⟩
  cases e with
  | normal=>exact key
  | ret=>exact key
  | exit id=>cases hex
 ·rintro e w5 rfl hb5;exact ⟨rfl,hB1.trans (hb5.mono (by omega)),rfl⟩
end Go.Sy
namespace Go.Sy
open Go Go.Proofs Tryz Ord
theorem WN {q:Rat} {S k:Nat} (h:q.num.natAbs≤S*q.den):(Nq (q*qE k)).natAbs≤S*2^k:=by
 rw [Xz];obtain ⟨p,hp⟩:∃ p:Nat,2^k=p:=⟨_,rfl⟩
 rw [hp];have hd:(0:Int)<(q.den:Int):=by have:=q.den_pos;omega
 have h1:q.num≤(S:Int)*(q.den:Int):=by have:(q.num.natAbs:Int)≤((S*q.den:Nat):Int):=by exact_mod_cast h
                                       rw [Int.natCast_mul] at this;omega
 have h2:-((S:Int)*(q.den:Int))≤q.num:=by have:(q.num.natAbs:Int)≤((S*q.den:Nat):Int):=by exact_mod_cast h
                                          rw [Int.natCast_mul] at this;omega
 have hp0:(0:Int)≤(p:Int):=Int.natCast_nonneg _
 have h3:q.num*(p:Int)≤(S:Int)*(p:Int)*(q.den:Int):=by
  have:=Int.mul_le_mul_of_nonneg_right h1 hp0;rw [Int.mul_right_comm] at this;exact this
 have h4:-((S:Int)*(p:Int))*(q.den:Int)≤q.num*(p:Int):=by
  have:=Int.mul_le_mul_of_nonneg_right h2 hp0;rw [Int.neg_mul,Int.mul_right_comm] at this;rw [Int.neg_mul];exact this
 have h5:q.num*(p:Int)/(q.den:Int)≤(S:Int)*(p:Int):=by
  have:=Int.ediv_le_ediv hd h3
  rwa [Int.mul_ediv_cancel _ (by omega)] at this
 have h6:-((S:Int)*(p:Int))≤q.num*(p:Int)/(q.den:Int):=by
  have:=Int.ediv_le_ediv hd h4
  rwa [Int.mul_ediv_cancel _ (by omega)] at this
 have h7:(((S*p:Nat)):Int)=(S:Int)*(p:Int):=Int.natCast_mul _ _;omega
theorem Gd {q:Rat} {S k H:Nat} (h:q.num.natAbs≤S*q.den) (h1:S*2^k<2^H) (h2:2^k<2^H):Fit H (tJ q k):=by
 have e:tJ q k=mkRat (Nq (q*qE k)) (2^k):=by rw [tJ,Rat.mkRat_eq_div,Rat.mkRat_eq_div];grind
 rw [e];exact Fit.mkRat (Nat.lt_of_le_of_lt (WN h) h1) h2 (Nat.pos_iff_ne_zero.1 (Nat.pow_pos (by omega)))
theorem YJ {q:Rat} {S k H:Nat} (h:q.num.natAbs≤S*q.den) (h1:S*2^k<2^H) (h2:2^k<2^H):Fit H (Zy q k):=by
 rw [←Zk];exact (Gd (q:=-q) (by show (-q.num).natAbs≤S*q.den;rw [Int.natAbs_neg];exact h) h1 h2).neg
theorem JJ {t:Rat} {a:List Rat} {d n D S E T F:Nat} (h0:D≠0) (h1:E≠0) (ha:∀ x∈a,Bd D S x) (ht:Bd E T t) (hT:1≤T) (hF:∀ i:Nat,i<n→(bL (i:Int) d).natAbs≤F) (hn:0<n):∀ c,Bd (D*E^c) (c*(S*F*T^c)) (fZ t a d n c)
 | 0=>Bd.zero
 | c+1=>by
   have ih:=JJ h0 h1 ha ht hT hF hn c;have hE:E^c≠0:=Nat.pos_iff_ne_zero.1 (Nat.pow_pos (Nat.pos_of_ne_zero h1));have hm:=ih.mul (Nat.mul_ne_zero h0 hE) h1 ht;have hx:=(gY ha (n-1-c)).mul h0 (E:=1) (by omega) (Bd.int (hF (n-1-c) (by omega)));rw [fZ];have e1:D*E^c*E=D*E^(c+1):=by rw [Nat.pow_succ,Nat.mul_assoc]
   have e2:c*(S*F*T^c)*T=c*(S*F*T^(c+1)):=by rw [Nat.pow_succ,Nat.mul_assoc,Nat.mul_assoc (S*F)]
   rw [e1,e2] at hm;have hx':=hx.mono (E:=D*E^(c+1)) (T:=S*F*T^(c+1)) (by rw [Nat.mul_one];exact Nat.dvd_mul_right _ _) (Nat.le_mul_of_pos_right _ (Nat.pow_pos hT));have:=hm.add (Nat.mul_ne_zero h0 (Nat.pos_iff_ne_zero.1 (Nat.pow_pos (Nat.pos_of_ne_zero h1)))) hx';rw [Nat.add_mul,Nat.one_mul];exact this
theorem Mf {D E c n a e:Nat} (hD:D≤2^a) (hE:E≤2^e) (hc:c≤n):D*E^c≤2^(a+e*n):=by
 rw [Nat.pow_add,Nat.pow_mul];exact Nat.mul_le_mul hD (Nat.le_trans (Nat.pow_le_pow_left hE c) (Nat.pow_le_pow_right (Nat.pow_pos (by omega)) hc))
theorem Ln {S T F c n b f g:Nat} (hS:S≤2^b) (hT:T≤2^f) (hF:F≤2^g) (hc:c≤n) (hn:n≤2^11):c*(S*F*T^c)≤2^(11+(b+g+f*n)):=by
 rw [Nat.pow_add 2 11,Nat.pow_add 2 (b+g),Nat.pow_add 2 b,Nat.pow_mul];exact Nat.mul_le_mul (Nat.le_trans hc hn) (Nat.mul_le_mul (Nat.mul_le_mul hS hF) (Nat.le_trans (Nat.pow_le_pow_left hT c) (Nat.pow_le_pow_right (Nat.pow_pos (by omega)) hc)))
theorem SZ {x y B:Nat} (h:x≤2^y) (hB:y<B):x<2^B:=Nat.lt_of_le_of_lt h (Nat.pow_lt_pow_right (by omega) hB)
theorem Vu (a b:Rat):a≤lT [a,b] 2:=by
 have h1:lT [a,b] 1=a:=by rw [lT,if_pos (.inl rfl)];rfl
 rw [lT,h1];split
 ·rename_i h;rcases h with h | h
  ·omega
  ·exact Rat.le_of_lt h
 ·exact Rat.le_refl
theorem KR (a:List Rat) (aF:Rat) (n0:Nat):∀ k,0≤GP a aF n0 k
 | 0=>by show (0:Rat)≤0;grind
 | k+1=>by
   have ih:=KR a aF n0 k;rw [GP];exact Rat.le_trans ih (Vu _ _)
theorem UQ {b aF r:Rat} {n d:Nat} (hb:0≤b) (h0:0<aF) (hr:0≤r) (hd:d≤n) (h1:cH aF n d r<1):0≤fS b aF n d r:=by
 have hu0:0≤HG aF n d r:=mJ (Rat.mul_nonneg (Rat.intCast_nonneg.2 (xI d hd)) (Rat.pow_nonneg hr)) (Rat.pow_pos h0);have one:((1:Int):Rat)=1:=by decide +kernel
 show 0≤b*HG aF n d r/(((1:Int):Rat)-cH aF n d r);rw [one];exact mJ (Rat.mul_nonneg hb hu0) (by grind)
theorem ID {aF r:Rat} {n d:Nat} (h0:0<aF) (hr:0≤r) (h2:r+r≤aF) (hd:2*d<n+1):cH aF n d r<1:=by
 unfold cH;have hz:(0:Rat)<(((n:Int)+1-d:Int):Rat):=Rat.intCast_pos.2 (by omega);have hw:(0:Rat)<(((n:Int)+1:Int):Rat):=Rat.intCast_pos.2 (by omega)
 have hlt:(((n:Int)+1:Int):Rat)<(((n:Int)+1-d:Int):Rat)+(((n:Int)+1-d:Int):Rat):=by
  rw [←Rat.intCast_add];exact Rat.intCast_lt_intCast.2 (by omega)
 generalize (((n:Int)+1-d:Int):Rat)=z at *;generalize (((n:Int)+1:Int):Rat)=w at *;have hz0:z≠0:=by grind
 have hr0:aF≠0:=by grind
 have e:w/z*(r/aF)=(w*r)/(z*aF):=by
  have h1:w/z*z=w:=Rat.div_mul_cancel hz0;have h2:r/aF*aF=r:=Rat.div_mul_cancel hr0;have hzr:z*aF≠0:=fun e=>(Rat.mul_eq_zero.1 e).elim hz0 hr0;have h3:w*r/(z*aF)*(z*aF)=w*r:=Rat.div_mul_cancel hzr;have h4:w/z*(r/aF)*(z*aF)=w*r:=by rw [show w/z*(r/aF)*(z*aF)=(w/z*z)*(r/aF*aF) by grind,h1,h2]
  have h5:(w/z*(r/aF)-w*r/(z*aF))*(z*aF)=0:=by grind
  rcases Rat.mul_eq_zero.1 h5 with h6 | h6
  ·grind
  ·exact (hzr h6).elim
 rw [e];have hzr:0<z*aF:=Rat.mul_pos hz h0
 have key:w*r<z*aF:=by
  have k1:w*r≤w*(r+r)/2:=by grind
  rcases Classical.em (r=0) with h | h
  ·subst h;grind
  ·have hrp:0<r:=by grind
   have k2:=Rat.mul_lt_mul_of_pos_right hlt hrp;have k3:z*(r+r)≤z*aF:=Rat.mul_le_mul_of_nonneg_left h2 (by grind)
   grind
 have h7:w*r/(z*aF)*(z*aF)=w*r:=Rat.div_mul_cancel (by grind);rcases Classical.em (w*r/(z*aF)<1) with h | h
 ·exact h
 ·have h8:1≤w*r/(z*aF):=by grind
  have h9:=Rat.mul_le_mul_of_nonneg_right h8 (by grind:0≤z*aF)
  grind
theorem zG (t:Rat):0≤t.abs:=by
 obtain ⟨h1,h2⟩:=kO t;refine Rat.num_nonneg.1 ?_;rw [h1];omega
open Go Go.Proofs Go.RowKit Tryz Ord
attribute [local go_sem] Oper.semAt_some
def Fg:Tr:=.fail 1011
def Ey:Tr:=.fail 1011
def EP:Tr:=.ret [(.one (.ref 0 [(.u 0 0)])),(.one (.ref 0 [(.u 1 0),(.u 1 1),(.u 1 2)])),(.one (.ref 0 [(.u 2 0),(.u 2 1),(.u 2 2)])),(.one (.ref 0 [(.u 3 0)]))]
def Fj:Tr:=.split (.u 7 0) Ey EP
def ET:Tr:=.need (.prim [(W 6 0)] none) (.unOp .not 4 (.tmp 19)) 4 false Fj
def EO:Tr:=.need (.call 97 [(W 0 0),(.agg [(U 1 0),(U 1 1),(U 1 2)])] [none]) (.call ⟨.value (.func 97),#[(.tmp 17),(.tmp 18)],#[32,39]⟩) 4 true ET
def EA:Tr:=.split (.u 5 0) Fg EO
def Er:Tr:=.need (.prim [(W 4 0),(WK (0))] none) (.binOp .neq 55 (.tmp 14) (.const (I3 (0))) 55) 4 false EA
def EH:Tr:=.need (.call 19 [(W 0 0)] [none]) (.call ⟨.value (.func 19),#[(.tmp 13)],#[32]⟩) 55 true Er
theorem HX:Bc prog 25 (fun _=>none) (gO [] (pH f59)) [(0, .v none),(1, .v (some 3)),(2, .v (some 3)),(3, .v none)] ([4,5,6,7].map ResultVar.tmp) (some 1) false=EH:=by kernel_rfl
def ab7:Tr:=.need (.call 68 [(WK 2)] [(some 3)]) (.call ⟨.value (.func 68),#[(.const (I3 2))],#[2]⟩) 39 false (aP 36 [(G3 7),(G3 8)] [(some 3)] [11,12] [39,39] 39 false (aP 38 [(G3 9),(.agg [(U 6 5),(U 6 6),(U 6 7)])] [none] [13,15] [39,39] 3 true (bB .leq 3 16 0 10 0 4 (.need (.call 130 [(W 11 0),(WK 3)] []) (.call ⟨.value (.func 130),#[(tT 17),(.const (I3 3))],#[4,55]⟩) 0 true (aP 147 [(.agg [(U 6 0),(U 6 1),(U 6 2),(U 6 3),(U 6 4),(U 6 5),(U 6 6),(U 6 7),(U 6 8)]),(G3 2),(W 3 0)] [none] [19,20,21] [185,39,3] 109 true (.fail 4))))))
def as4:Tr:=aP 100 [(W 0 0),(G3 1)] [(some 5)] [6,7] [32,39] 171 true (aP 123 [(G5 5)] [(some 9)] [8] [171] 185 true (aP 146 [(G3 2)] [(some 3)] [10] [39] 39 false ab7))
theorem sX:aN prog f145 (fun _=>none) [.ref 1, .ref 3, .ref 3, .ref 1, .ref 1]=as4:=by kernel_rfl
def wM:Tr:=.retr [] 13
def wY:Tr:=.need (.strow 4 1 (.k (.int .i64 (0))) 0 [(.u 12 0)]) (.store 109 (.tmp 4) (.tmp 22)) 0 false wM
def yM:Tr:=.need (.call 147 [(.agg [(U 6 0),(U 6 1),(U 6 2),(U 6 3),(U 6 4),(U 6 5),(U 6 6),(U 6 7),(U 6 8)]),(.agg [(U 2 0),(U 2 1),(U 2 2)]),(W 3 0)] [none]) (.call ⟨.value (.func 147),#[(.tmp 19),(.tmp 20),(.tmp 21)],#[185,39,3]⟩) 109 true wY
def yQ:Tr:=.need (.call 130 [(W 11 0),(WK (3))] []) (.call ⟨.value (.func 130),#[(.tmp 17),(.const (I3 (3)))],#[4,55]⟩) 0 true yM
def yO:Tr:=.need (.prim [(W 10 0),(WK (0))] none) (.binOp .leq 3 (.tmp 16) (.const (I3 (0))) 3) 4 false yQ
def xN:Tr:=.need (.call 38 [(.agg [(U 9 0),(U 9 1),(U 9 2)]),(.agg [(U 6 5),(U 6 6),(U 6 7)])] [none]) (.call ⟨.value (.func 38),#[(.tmp 13),(.tmp 15)],#[39,39]⟩) 3 true yO
def wQ:Tr:=.need (.call 36 [(.agg [(U 7 0),(U 7 1),(U 7 2)]),(.agg [(U 8 0),(U 8 1),(U 8 2)])] [(some 3)]) (.call ⟨.value (.func 36),#[(.tmp 11),(.tmp 12)],#[39,39]⟩) 39 false xN
def yI:Tr:=.need (.call 68 [(WK (2))] [(some 3)]) (.call ⟨.value (.func 68),#[(.const (I3 (2)))],#[2]⟩) 39 false wQ
def yX:Tr:=.need (.call 146 [(.agg [(U 2 0),(U 2 1),(U 2 2)])] [(some 3)]) (.call ⟨.value (.func 146),#[(.tmp 10)],#[39]⟩) 39 false yI
def wT:Tr:=.need (.call 123 [(.agg [(U 5 0),(U 5 1),(U 5 2),(U 5 3),(U 5 4)])] [(some 9)]) (.call ⟨.value (.func 123),#[(.tmp 8)],#[171]⟩) 185 true yX
def yH:Tr:=.need (.call 100 [(W 0 0),(.agg [(U 1 0),(U 1 1),(U 1 2)])] [(some 5)]) (.call ⟨.value (.func 100),#[(.tmp 6),(.tmp 7)],#[32,39]⟩) 171 true wT
theorem Bl:Rj prog f145 (fun _=>none) [.ref 1, .ref 3, .ref 3, .ref 1] 109 1=yH:=by kernel_rfl
def aq3:Tr:=bB .neq 55 14 0 4 0 4 (.split (.u 5 0) (.ret [(.one (.c (.k (.slice none 0 0)))),(WK 2)]) (aP 97 [(W 0 0),(G3 1)] [none] [17,18] [32,39] 4 true (.need (.prim [(W 6 0)] none) (.unOp .not 4 (tT 19)) 4 false (.split (.u 7 0) (.ret [(.one (.c (.k (.slice none 0 0)))),(WK 11)]) (aP 121 [(.one (.fX 145 [(.ref 0 [(.u 0 0)]),(.ref 0 [(.u 1 0),(.u 1 1),(.u 1 2)]),(.ref 0 [(.u 2 0),(.u 2 1),(.u 2 2)]),(.ref 0 [(.u 3 0)]),(.ref 0 [(.k (.slice none 0 0))])]))] [none] [21] [1] 55 true (.ret [(.one (.c (.k (.slice none 0 0)))),(W 8 0)]))))))
def az6:Tr:=aP 19 [(W 0 0)] [none] [13] [32] 55 true aq3
theorem Ag:aN prog f59 (fun _=>none) [.v none, .v (some 3), .v (some 3), .v none]=az6:=by kernel_rfl
theorem aL1 (t:Array Value) (h:t.size=25):t = #[t.getD 0 Go.undef,t.getD 1 Go.undef,t.getD 2 Go.undef,t.getD 3 Go.undef,t.getD 4 Go.undef,t.getD 5 Go.undef,t.getD 6 Go.undef,t.getD 7 Go.undef,t.getD 8 Go.undef,t.getD 9 Go.undef,t.getD 10 Go.undef,t.getD 11 Go.undef,t.getD 12 Go.undef,t.getD 13 Go.undef,t.getD 14 Go.undef,t.getD 15 Go.undef,t.getD 16 Go.undef,t.getD 17 Go.undef,t.getD 18 Go.undef,t.getD 19 Go.undef,t.getD 20 Go.undef,t.getD 21 Go.undef,t.getD 22 Go.undef,t.getD 23 Go.undef,t.getD 24 Go.undef]:=(sL t 25 h).trans rfl
theorem aF4 {M:Nat→Prop} {w:World} {q:List (List Rat)} {m:Nat} {lead aF:Rat} {st:Int} {vs:List Value} (h:aW M w (zF q m lead aF st) vs):∃ u0 u1 u2 u3 u4 u5 u6 u7 u8,vs = [u0,u1,u2,u3,u4,u5,u6,u7,u8]:=aF6 h
section
variable (q:List (List Rat)) (m:Nat) (lead aF:Rat) (st:Nat) (t:Rat) (k:Int) (Ns Bs B G BS:Nat) (goal:Rat) (out:Option Nat)
structure ZB:Prop where
 hm1:1≤m
 hk:k≤256
 hgq:mkRat 1 (2^k.toNat)*mkRat 1 (2^2)=goal
 T:Jh q m lead aF st t.abs goal (m-1) B G
 L:BZ (Qn q m lead aF st t.abs goal (m-1)) m st out
 MC:∀ N,out=some N→Yi q m lead aF st t N B BS G
 hst15:st≤Ns
 SC:∀ l,l<m→gP Bs q m lead (bG m l) Ns
 hNs:Ns≤1073741824
 hN15:1500≤Ns
 hm:m≤64
 hBs:Bs≤4294967296
 h64:64≤Bs
 hql:q.length=m+1
 hp:∀ p∈q,p.length<1048576
 hl0:lead≠0
 hw:m+aV q≤st
 hrho:∀ j,j≤2*st+1→Fit Bs (aF^j)
def RS (out:Option Nat):Out:=match out with
 | some n=>.ret [.one (.slice 1 (LA q m lead aF st t k n m))]
 | none=>.pan (MK 5)
end
theorem PE {q:List (List Rat)} {m:Nat} {lead aF:Rat} {st:Nat} {t:Rat} {k:Int} {Ns Bs B G BS:Nat} {goal:Rat} {out:Option Nat} (C:ZB q m lead aF st t k Ns Bs B G BS goal out) :
  aK prog 147 [.agg (zF q m lead aF (st:Nat)),qT t, .one (.int .i64 k)] (RS q m lead aF st t k out):=by
 refine ⟨bP (by kernel_rfl),fun M w vs hM hv=>?_⟩
 match vs,hv with
 | [a,tv,kv],hv=>
   obtain ⟨us,rfl,hus⟩:=hv.1;obtain ⟨u0,u1,u2,u3,u4,u5,u6,u7,u8,rfl⟩:=aF4 hus;obtain ⟨ts,rfl,hts⟩:=hv.2.1;obtain ⟨t0,t1,t2,rfl⟩:=SO hts;have hk:kv = .int .i64 k:=hv.2.2.1.1;subst hk;refine (OV M w hM q m lead aF st t k Ns Bs B G C.hm1 C.hk goal C.hgq C.T out C.L BS C.MC C.hst15 C.SC C.hNs C.hN15 C.hm C.hBs C.h64 C.hql C.hp C.hl0 C.hw C.hrho u0 u1 u2 u3 u4 u5 u6 u7 u8 hus t0 t1 t2 hts).mono ?_;rintro e w' ⟨hb,h⟩;refine ⟨hb,?_⟩;cases out with
   | some n=>
     obtain ⟨v,rfl,hr⟩:=h;exact ⟨[v],rfl,hr,trivial⟩
   | none=>
     subst h;exact ⟨Vh 5,rfl,⟨rfl,rfl⟩⟩
 | [],hv=>exact hv.elim
 | [_],hv=>exact hv.2.elim
 | [_,_],hv=>exact hv.2.2.elim
 | _::_::_::_::_,hv=>exact hv.2.2.2.elim
theorem HP (f:FuncId) (caps:List aI) (er:Int) (h:aK prog f (caps.map .one) (.pan (MK er))):aK prog 121 [.one (.fX f caps)] (.ret [.one (.int .i64 er)]):=by
 refine ⟨bP (by kernel_rfl),fun M w vs hM hv=>?_⟩
 match vs,hv with
 | [v],hv=>
   obtain ⟨cs,rfl,hcs⟩:=hv.1;have hB4:Below w.heap.size w (w.alloc (.cells #[.int .i64 0] 55)):=(Below.refl _ w).alloc (Nat.le_refl _) _;have hM4:dK M (w.alloc (.cells #[.int .i64 0] 55)):=⟨fun b hb=>Nat.lt_of_lt_of_le (hM.1 b hb) hB4.size,hM.2.below rfl hB4⟩
   refine (Cj f cs.toArray w er (fun w'=>Below (w.alloc (.cells #[.int .i64 0] 55)).heap.size (w.alloc (.cells #[.int .i64 0] 55)) w') h.1 ?_).mono ?_
   ·refine (h.2 M _ cs hM4 (cG.uY (hcs.mono (bX.below hB4)))).mono ?_;rintro r w' ⟨hb,hp⟩;exact ⟨ac9 hp,(hb.block _ (by rw [World.size_alloc];omega)).trans (heap_alloc_new w _),hb⟩
   ·rintro r w' ⟨rfl,w1,hb1,hg⟩;have hs1:=hb1.size;rw [World.size_alloc] at hs1;refine ⟨⟨by rw [hg.os,hb1.os,hB4.os],by rw [hg.tape,hb1.tape,hB4.tape],by rw [hg.output,hb1.output,hB4.output],by have:=hg.size;omega,fun k hk=>?_⟩,[.int .i64 er],rfl,⟨rfl,rfl⟩,trivial⟩;rw [hg.block k (by omega) (fun e=>by simp only [Option.some.injEq] at e;omega),hb1.block k (by rw [World.size_alloc];omega),hB4.block k hk]
 | [],hv=>exact hv.elim
 | _::_::_,hv=>exact hv.2.elim
theorem Bq (e:List (List Rat)) (c t:Rat) (k:Int) (q:List (List Rat)) (m:Nat) (lead:Rat) (er:Int) (hat:aK prog 100 [.one (eQ e),qT c] (.ret [xY q m lead])) (hre:aK prog 123 [xY q m lead] (.pan (MK er))):aK prog 145 [(.one (.bC ([eQ e])):aG),(.one (.bC (qC c)):aG),(.one (.bC (qC t)):aG),(.one (.bC ([.int .i64 k])):aG),(.one (.bC ([.exact (.slice none 0 0)])):aG)] (.pan (MK er)):=by
 refine aD (args:=[.ref 1, .ref 3, .ref 3, .ref 1, .ref 1]) (ins:=[.ref ([eQ e]), .ref (qC c), .ref (qC t), .ref ([.int .i64 k]), .ref ([.exact (.slice none 0 0)])]) (hints:=(fun _=>none)) fo (by kernel_rfl) func145 ⟨rfl,rfl,rfl,rfl,rfl,trivial⟩ ?_;rw [sX];dsimp only [List.map,In.env,aA,aB];refine aC hat rfl ?_;dsimp only [aA,aB];exact vcp hre rfl
theorem CH (e:List (List Rat)) (c t:Rat) (k:Int) (q:List (List Rat)) (m:Nat) (lead aF:Rat) (st:Int) (B:Nat) (hat:aK prog 100 [.one (eQ e),qT c] (.ret [xY q m lead])) (hre:aK prog 123 [xY q m lead] (.ret [.agg (zF q m lead aF st)])) (ht:Fit B t) (hrho:Fit B aF) (hB:B≤1073741824) (h64:64≤B) (hno:¬ t.abs*2≤aF):aK prog 145 [(.one (.bC ([eQ e])):aG),(.one (.bC (qC c)):aG),(.one (.bC (qC t)):aG),(.one (.bC ([.int .i64 k])):aG),(.one (.bC ([.exact (.slice none 0 0)])):aG)] (.pan (MK 3)):=by
 refine aD (args:=[.ref 1, .ref 3, .ref 3, .ref 1, .ref 1]) (ins:=[.ref ([eQ e]), .ref (qC c), .ref (qC t), .ref ([.int .i64 k]), .ref ([.exact (.slice none 0 0)])]) (hints:=(fun _=>none)) fo (by kernel_rfl) func145 ⟨rfl,rfl,rfl,rfl,rfl,trivial⟩ ?_;rw [sX];dsimp only [List.map,In.env,aA,aB];refine aC hat rfl ?_;dsimp only [aA,aB];refine aC hre rfl ?_;dsimp only [aA,aB];refine aC (rA t) rfl ?_;dsimp only [aA,aB];refine aC (iV 2 (by omega) (by omega)) rfl ?_;dsimp only [aA,aB];refine aC (cP t.abs _ B 64 (eU ht) (Fit.int (by omega) (by omega)) (by omega)) rfl ?_;dsimp only [aA,aB];refine aC (pV _ aF (B+64) B ((eU ht).mul (Fit.int (by omega) (by omega))) hrho (by omega)) rfl ?_;dsimp only [aA,aB];refine vn gW rfl ?_;dsimp only [aA,aB];rw [show decide (mN (t.abs*((2:Int):Rat)) aF≤0)=false from decide_eq_false (fun h=>hno (gQ.1 h))];exact vcp (rP 3) rfl
theorem Dx (e:List (List Rat)) (c t:Rat) (k:Int) (q:List (List Rat)) (m:Nat) (lead aF:Rat) (st:Int) (B:Nat) (er:Int) (hat:aK prog 100 [.one (eQ e),qT c] (.ret [xY q m lead])) (hre:aK prog 123 [xY q m lead] (.ret [.agg (zF q m lead aF st)])) (ht:Fit B t) (hrho:Fit B aF) (hB:B≤1073741824) (h64:64≤B) (hyes:t.abs*2≤aF) (hmx:aK prog 147 [.agg (zF q m lead aF st),qT t, .one (.int .i64 k)] (.pan (MK er))):aK prog 145 [(.one (.bC ([eQ e])):aG),(.one (.bC (qC c)):aG),(.one (.bC (qC t)):aG),(.one (.bC ([.int .i64 k])):aG),(.one (.bC ([.exact (.slice none 0 0)])):aG)] (.pan (MK er)):=by
 refine aD (args:=[.ref 1, .ref 3, .ref 3, .ref 1, .ref 1]) (ins:=[.ref ([eQ e]), .ref (qC c), .ref (qC t), .ref ([.int .i64 k]), .ref ([.exact (.slice none 0 0)])]) (hints:=(fun _=>none)) fo (by kernel_rfl) func145 ⟨rfl,rfl,rfl,rfl,rfl,trivial⟩ ?_;rw [sX];dsimp only [List.map,In.env,aA,aB];refine aC hat rfl ?_;dsimp only [aA,aB];refine aC hre rfl ?_;dsimp only [aA,aB];refine aC (rA t) rfl ?_;dsimp only [aA,aB];refine aC (iV 2 (by omega) (by omega)) rfl ?_;dsimp only [aA,aB];refine aC (cP t.abs _ B 64 (eU ht) (Fit.int (by omega) (by omega)) (by omega)) rfl ?_;dsimp only [aA,aB];refine aC (pV _ aF (B+64) B ((eU ht).mul (Fit.int (by omega) (by omega))) hrho (by omega)) rfl ?_;dsimp only [aA,aB];refine vn gW rfl ?_;dsimp only [aA,aB];rw [show decide (mN (t.abs*((2:Int):Rat)) aF≤0)=true from decide_eq_true (gQ.2 hyes)];refine aC (mM 3) rfl ?_;exact vcp hmx rfl
theorem Et (e:List (List Rat)) (c t:Rat) (k:Int) (q:List (List Rat)) (m:Nat) (lead aF:Rat) (st:Int) (B:Nat) (R:List (List aI)) (hat:aK prog 100 [.one (eQ e),qT c] (.ret [xY q m lead])) (hre:aK prog 123 [xY q m lead] (.ret [.agg (zF q m lead aF st)])) (ht:Fit B t) (hrho:Fit B aF) (hB:B≤1073741824) (h64:64≤B) (hyes:t.abs*2≤aF) (hmx:aK prog 147 [.agg (zF q m lead aF st),qT t, .one (.int .i64 k)] (.ret [.one (.slice 1 R)])):xU prog 145 109 [(.one (.bC ([eQ e])):aG),(.one (.bC (qC c)):aG),(.one (.bC (qC t)):aG),(.one (.bC ([.int .i64 k])):aG)] ([.exact (.slice none 0 0)]) [] ([.slice 1 R]):=by
 refine Tw (a1:=[.ref 1, .ref 3, .ref 3, .ref 1]) (i1:=[.ref ([eQ e]), .ref (qC c), .ref (qC t), .ref ([.int .i64 k])]) (n:=1) (hints:=(fun _=>none)) fo func145 ⟨rfl,rfl,rfl,rfl,trivial⟩ rfl rfl ?_;rw [Bl];dsimp only [List.map,In.env,aA,aB];refine aC hat rfl ?_;dsimp only [aA,aB];refine aC hre rfl ?_;dsimp only [aA,aB];refine aC (rA t) rfl ?_;dsimp only [aA,aB];refine aC (iV 2 (by omega) (by omega)) rfl ?_;dsimp only [aA,aB];refine aC (cP t.abs _ B 64 (eU ht) (Fit.int (by omega) (by omega)) (by omega)) rfl ?_;dsimp only [aA,aB];refine aC (pV _ aF (B+64) B ((eU ht).mul (Fit.int (by omega) (by omega))) hrho (by omega)) rfl ?_;dsimp only [aA,aB];refine vn gW rfl ?_;dsimp only [aA,aB];rw [show decide (mN (t.abs*((2:Int):Rat)) aF≤0)=true from decide_eq_true (gQ.2 hyes)];refine aC (mM 3) rfl ?_;refine aC hmx rfl ?_;dsimp only [aA,aB];refine Fv (ts:=[[.exact (.slice none 0 0)]]) (us:=[[.slice 1 R]]) rfl rfl (by omega) (cells:=[.exact (.slice none 0 0)]) rfl rfl ?_;dsimp only [aA,aB];exact JN rfl rfl
theorem Je (e:List (List Rat)) (c t:Rat) (k:Int) (hce:aK prog 19 [.one (eQ e)] (.ret [.one (.int .i64 2)])):aK prog 59 [(.one (eQ e):aG),(qT c:aG),(qT t:aG),(.one (.int .i64 k):aG)] (.ret [.one (.exact (.slice none 0 0)), .one (.int .i64 2)]):=by
 refine aD (args:=[.v none, .v (some 3), .v (some 3), .v none]) (ins:=[.v (.one (eQ e)), .v (qT c), .v (qT t), .v (.one (.int .i64 k))]) (hints:=(fun _=>none)) fo (by kernel_rfl) func59 ⟨rfl,rfl,rfl,rfl,trivial⟩ ?_;rw [Ag];dsimp only [List.map,In.env,aA,aB];refine aC hce rfl ?_;dsimp only [aA,aB];refine vn iP rfl ?_;dsimp only [aA,aB];refine vs _ rfl (fun h2=>?_) (fun h2=>?_)
 ·exact aL rfl
 exact absurd (by decide) h2
theorem IT (e:List (List Rat)) (c t:Rat) (k:Int) (hce:aK prog 19 [.one (eQ e)] (.ret [.one (.int .i64 0)])) (hrg:aK prog 97 [.one (eQ e),qT c] (.ret [.one (.bool false)])):aK prog 59 [(.one (eQ e):aG),(qT c:aG),(qT t:aG),(.one (.int .i64 k):aG)] (.ret [.one (.exact (.slice none 0 0)), .one (.int .i64 11)]):=by
 refine aD (args:=[.v none, .v (some 3), .v (some 3), .v none]) (ins:=[.v (.one (eQ e)), .v (qT c), .v (qT t), .v (.one (.int .i64 k))]) (hints:=(fun _=>none)) fo (by kernel_rfl) func59 ⟨rfl,rfl,rfl,rfl,trivial⟩ ?_;rw [Ag];dsimp only [List.map,In.env,aA,aB];refine aC hce rfl ?_;dsimp only [aA,aB];refine vn iP rfl ?_;dsimp only [aA,aB];refine vs _ rfl (fun h2=>?_) (fun h2=>?_)
 ·exact absurd rfl h2
 refine aC hrg rfl ?_;dsimp only [aA,aB];refine vn mL rfl ?_;dsimp only [aA,aB];refine Bt true rfl (fun _=>?_) (fun h=>by cases h);exact aL rfl
theorem sS (e:List (List Rat)) (c t:Rat) (k er:Int) (hce:aK prog 19 [.one (eQ e)] (.ret [.one (.int .i64 0)])) (hrg:aK prog 97 [.one (eQ e),qT c] (.ret [.one (.bool true)])) (hcl:aK prog 145 [.one (.bC [eQ e]), .one (.bC (qC c)), .one (.bC (qC t)), .one (.bC [.int .i64 k]), .one (.bC [.exact (.slice none 0 0)])] (.pan (MK er))):aK prog 59 [(.one (eQ e):aG),(qT c:aG),(qT t:aG),(.one (.int .i64 k):aG)] (.ret [.one (.exact (.slice none 0 0)), .one (.int .i64 er)]):=by
 refine aD (args:=[.v none, .v (some 3), .v (some 3), .v none]) (ins:=[.v (.one (eQ e)), .v (qT c), .v (qT t), .v (.one (.int .i64 k))]) (hints:=(fun _=>none)) fo (by kernel_rfl) func59 ⟨rfl,rfl,rfl,rfl,trivial⟩ ?_;rw [Ag];dsimp only [List.map,In.env,aA,aB];refine aC hce rfl ?_;dsimp only [aA,aB];refine vn iP rfl ?_;dsimp only [aA,aB];refine vs _ rfl (fun h2=>?_) (fun h2=>?_)
 ·exact absurd rfl h2
 refine aC hrg rfl ?_;dsimp only [aA,aB];refine vn mL rfl ?_;dsimp only [aA,aB];refine Bt false rfl (fun h=>by cases h) (fun _=>?_);refine aC (HP 145 [.bC [eQ e], .bC (qC c), .bC (qC t), .bC [.int .i64 k], .bC [.exact (.slice none 0 0)]] er hcl) rfl ?_;exact aL rfl
theorem ao8 (e:List (List Rat)) (c t:Rat) (k:Int) (hce:aK prog 19 [.one (eQ e)] (.ret [.one (.int .i64 0)])) (hrg:aK prog 97 [.one (eQ e),qT c] (.ret [.one (.bool true)])):vc prog (fun o=>jP o (.ret [.one (.bC [eQ e]), .one (.bC (qC c)), .one (.bC (qC t)), .one (.bC [.int .i64 k])])) (Bc prog 25 (fun _=>none) (gO [] (pH f59)) [(0, .v none),(1, .v (some 3)),(2, .v (some 3)),(3, .v none)] ([4,5,6,7].map ResultVar.tmp) (some 1) false) ([.v (.one (eQ e)), .v (qT c), .v (qT t), .v (.one (.int .i64 k))].map In.env) []:=by
 rw [HX];dsimp only [List.map,In.env,aA,aB];refine aC hce rfl ?_;dsimp only [aA,aB];refine vn iP rfl ?_;dsimp only [aA,aB];refine vs _ rfl (fun h2=>?_) (fun h2=>?_)
 ·exact absurd rfl h2
 refine aC hrg rfl ?_;dsimp only [aA,aB];refine vn mL rfl ?_;dsimp only [aA,aB];refine Bt false rfl (fun h=>by cases h) (fun _=>?_);exact aL rfl
set_option maxRecDepth 100000 in
set_option maxHeartbeats 1000000 in
theorem Mv (M:Nat→Prop) (w:World) (hM:dK M w) (e:List (List Rat)) (c t:Rat) (k:Int) (R:List (List aI)) (hce:aK prog 19 [.one (eQ e)] (.ret [.one (.int .i64 0)])) (hrg:aK prog 97 [.one (eQ e),qT c] (.ret [.one (.bool true)]))
  (hcl:xU prog 145 109 [.one (.bC [eQ e]), .one (.bC (qC c)), .one (.bC (qC t)), .one (.bC [.int .i64 k])] [.exact (.slice none 0 0)] [] [.slice 1 R])
  (ev c0 c1 c2 t0 t1 t2:Value) (he:(eQ e).rep M w ev) (hc:aW M w (qC c) [c0,c1,c2]) (ht:aW M w (qC t) [t0,t1,t2]) :
  Calls prog 59 #[ev, .agg #[c0,c1,c2], .agg #[t0,t1,t2], .int .i64 k] w fun e w'=>Below w.heap.size w w'∧∃ v,e = .returned (.tuple #[v, .int .i64 0])∧(aI.slice 1 R).rep M w' v:=by
 refine calls_of_wp func59 rfl ?_;simp only [ntmps59,List.size_toArray,List.length_cons,List.length_nil,Nat.reduceAdd,Nat.reduceSub,Array.replicate_succ,Array.replicate_zero,List.push_toArray,List.append_toArray,List.nil_append,List.cons_append]
 refine UP (n:=1) (ins:=[(0, .v none),(1, .v (some 3)),(2, .v (some 3)),(3, .v none)]) (xs:=[.v (.one (eQ e)), .v (qT c), .v (qT t), .v (.one (.int .i64 k))]) fo ⟨rfl,rfl,rfl,rfl,trivial⟩
  (ao8 e c t k hce hrg) (by kernel_rfl) hM rfl rfl ⟨he,⟨_,rfl,hc⟩,⟨_,rfl,ht⟩,⟨rfl,rfl⟩,trivial⟩ ?_ (by intro c v a' w' h;cases h)
 intro ex a' W1 rs us hrs hex hB1 hsz hdf hrun hus;cases hrs;cases ex with
 | exit id=>cases hex
 | ret=>cases hex
 | normal=>
 have huse:=uP hrun;subst huse;obtain ⟨h4,h5,h6,h7,_⟩:=hus;obtain ⟨t',ds⟩:=a';have hds:ds = []:=hdf;subst hds;have hsz:t'.size=25:=hsz;have h4:(aI.bC [eQ e]).rep M W1 (t'.getD 4 Go.undef):=h4;have h5:(aI.bC (qC c)).rep M W1 (t'.getD 5 Go.undef):=h5;have h6:(aI.bC (qC t)).rep M W1 (t'.getD 6 Go.undef):=h6;have h7:(aI.bC [.int .i64 k]).rep M W1 (t'.getD 7 Go.undef):=h7;show Code.wp _ (CI 1 _) _ _ _;simp only [CI];rw [aL1 t' hsz];generalize t'.getD 4 Go.undef=x4 at h4 ⊢;generalize t'.getD 5 Go.undef=x5 at h5 ⊢;generalize t'.getD 6 Go.undef=x6 at h6 ⊢;generalize t'.getD 7 Go.undef=x7 at h7 ⊢;have hmf:∀ (fn:Fn) (first cap:Array Value) (w:World),(Instr.makeFunc fn first cap).run prog w = .ok (.func fn first cap) w:=fun _ _ _ _=>rfl;obtain ⟨A,hA⟩:∃ A,W1.heap.size=A:=⟨_,rfl⟩
 obtain ⟨W2,hW2⟩:∃ W2,W1.alloc (.cells #[.slice none 0 0] 109)=W2:=⟨_,rfl⟩
 have hB2:Below W1.heap.size W1 W2:=by rw [←hW2];exact (Below.refl _ W1).alloc (Nat.le_refl _) _
 have hA2:W2.heap[A]? = some (.cells #[.slice none 0 0] 109 (0,0)):=by rw [←hW2,←hA];exact heap_alloc_new W1 _
 have hs2:W2.heap.size=A+1:=by rw [←hW2,World.size_alloc,hA]
 have hMA:¬ M A:=fun h=>by have:=hM.1 A h;have:=hB1.size;omega
 have hM1:dK M W1:=⟨fun b hb=>Nat.lt_of_lt_of_le (hM.1 b hb) hB1.size,hM.2.below rfl hB1⟩
 have hk2:bX M W1 (fun b=>M b∨b=A) W2:=fun b o hb ho _=>by
  have hl:=(Array.getElem?_eq_some_iff.1 ho).1;exact ⟨fun h=>h.elim hb (by omega),(hB2.block b hl).trans ho⟩
 have hM2:dK (fun b=>M b∨b=A) W2:=⟨fun b hb=>by
  rcases hb with h | h
  ·have:=hM1.1 b h;omega
  ·omega,hM1.2.iY hk2⟩
 have hca:=KV 145 (bP (by kernel_rfl)) M W2 A 109 #[.slice none 0 0] [.exact (.slice none 0 0)] [.slice 1 R] [.one (.bC [eQ e]), .one (.bC (qC c)), .one (.bC (qC t)), .one (.bC [.int .i64 k])] [x4,x5,x6,x7] 0 hM2 hMA hA2 ⟨aI.mono _ hk2 h4,aI.mono _ hk2 h5,aI.mono _ hk2 h6,aI.mono _ hk2 h7,trivial⟩ (fun _ _=>⟨⟨rfl,rfl⟩,trivial⟩) (.inr ⟨rfl,hcl⟩);simp only [aA,aB] at hca
 go_wp2_with (go_at_call 121;refine hca.mono ?_)
 rintro e w3 rfl hg us hus hrus
 obtain ⟨v,rfl⟩:∃ v,us = #[v]:=by
  have:=hrus.length;simp at this
  match us,this with
  | ⟨[v]⟩,_=>exact ⟨v,rfl⟩
 have cv:w3.cell? ⟨A,0,none⟩=some v:=aH hus rfl;have hv1:v.oneCell'=true:=hrus.one v (by simp)
 go_wp2
 have hBw:Below w.heap.size w w3:=⟨by rw [hg.os,hB2.os,hB1.os],by rw [hg.tape,hB2.tape,hB1.tape],by rw [hg.output,hB2.output,hB1.output],by have:=hg.size;have:=hB1.size;omega,fun j hj=>by
  have:=hB1.size;rw [hg.block j (by omega) (fun e=>by simp only [Option.some.injEq] at e;omega),hB2.block j (by omega),hB1.block j hj]⟩
 have hrv:(aI.slice 1 R).rep M w3 v:=aI.mono _ (fun b o hb ho _=>⟨fun h=>hb (.inl h),ho⟩) hrus.1;simp [bodyPost,results,show f59.results = #[.tmp 8, .tmp 9] from rfl,go_sem];exact ⟨hBw,hrv⟩
theorem JS (e:List (List Rat)) (c t:Rat) (k:Int) (R:List (List aI)) (hce:aK prog 19 [.one (eQ e)] (.ret [.one (.int .i64 0)])) (hrg:aK prog 97 [.one (eQ e),qT c] (.ret [.one (.bool true)]))
  (hcl:xU prog 145 109 [.one (.bC [eQ e]), .one (.bC (qC c)), .one (.bC (qC t)), .one (.bC [.int .i64 k])] [.exact (.slice none 0 0)] [] [.slice 1 R]) :
  aK prog 59 [.one (eQ e),qT c,qT t, .one (.int .i64 k)] (.ret [.one (.slice 1 R), .one (.int .i64 0)]):=by
 refine ⟨bP (by kernel_rfl),fun M w vs hM hv=>?_⟩
 match vs,hv with
 | [a,cv,tv,kv],hv=>
   obtain ⟨cs,rfl,hcs⟩:=hv.2.1;obtain ⟨c0,c1,c2,rfl⟩:=SO hcs;obtain ⟨ts,rfl,hts⟩:=hv.2.2.1;obtain ⟨t0,t1,t2,rfl⟩:=SO hts;have hk:kv = .int .i64 k:=hv.2.2.2.1.1;subst hk;refine (Mv M w hM e c t k R hce hrg hcl a c0 c1 c2 t0 t1 t2 hv.1 hcs hts).mono ?_;rintro x w' ⟨hb,v,rfl,hr⟩;exact ⟨hb,[v, .int .i64 0],rfl,hr,⟨rfl,rfl⟩,trivial⟩
 | [],hv=>exact hv.elim
 | [_],hv=>exact hv.2.elim
 | [_,_],hv=>exact hv.2.2.elim
 | [_,_,_],hv=>exact hv.2.2.2.elim
 | _::_::_::_::_::_,hv=>exact hv.2.2.2.2.elim
end Go.Sy
namespace Go.Sy
open Go Go.Proofs Tryz Ord
theorem Bd.abs {D S:Nat} {q:Rat} (h:Bd D S q):Bd D S q.abs:=by
 obtain ⟨h1,h2⟩:=kO q;exact ⟨by rw [h2];exact h.1,by rw [h1,h2,Int.natAbs_natCast];exact h.2⟩
theorem PM {t:Rat} {a:List Rat} {d n N D S E T F c p b e f g B y:Nat} (hy:11+(b+g+f*N)≤y) (h0:D≠0) (h1:E≠0) (ha:∀ x∈a,Bd D S x) (ht:Bd E T t) (hT:1≤T) (hF:∀ i:Nat,i<n→(bL (i:Int) d).natAbs≤F) (hn:0<n) (hc:c≤N) (hN:N≤2^11)
  (hD:D≤2^p) (hS:S≤2^b) (hE:E≤2^e) (hTT:T≤2^f) (hFF:F≤2^g) (hB:p+e*N+(11+(b+g+f*N))<B) :
  Fit B (fZ t a d n c)∧(fZ t a d n c).num.natAbs≤2^y*(fZ t a d n c).den:=by
 have h:=JJ h0 h1 ha ht hT hF hn c;have r1:=Mf hD hE hc;have r2:=Ln hS hTT hFF hc hN;refine ⟨h.fit (Nat.mul_ne_zero h0 (Nat.pos_iff_ne_zero.1 (Nat.pow_pos (Nat.pos_of_ne_zero h1)))) (SZ r1 (by omega)) ?_,Nat.le_trans h.2 (Nat.mul_le_mul_right _ (Nat.le_trans r2 (Nat.pow_le_pow_right (by omega) hy)))⟩;refine SZ (y:=(11+(b+g+f*N))+(p+e*N)) ?_ (by omega);rw [Nat.pow_add];exact Nat.mul_le_mul r2 r1
theorem PC {b aF r:Rat} {n d B Bm:Nat} (C:qP Bm aF n d r) (hb:Fit B b) (h64:64≤Bm) (hn:n<1099511627776) (hd:d≤n):Fit (B+(Bm+Bm+Bm)+(64+(128+(Bm+Bm))+1)) (fS b aF n d r):=by
 have hff:=C.ff d (Nat.le_refl _);have hfr:=C.fr (n-d) (by omega);have hfo:=C.fo n (by omega);have hsh:=C.sh (by omega) (by omega);exact (hb.mul ((hff.mul hfr).div hfo)).div ((Fit.int (by omega) (by omega)).sub hsh)
theorem uN (h:Nat):0<bA h:=by
 have h1:=Cv h
 have h2:0≤bA h:=by
  unfold bA;refine Rat.mul_nonneg (by decide +kernel) ?_;rw [Rat.mkRat_eq_div]
  exact mJ (Rat.intCast_nonneg.2 (by omega)) (by
   have:=Nat.pow_pos (n:=h) (show 0<2 by omega);exact Rat.intCast_pos.2 (by omega))
 grind
theorem Nr {x y:Rat} {S:Nat} (hx:x.num.natAbs≤S*x.den) (hy:y.num.natAbs≤S*y.den):(x+y).num.natAbs≤(S+S)*(x+y).den:=by
 have h1:Bd (x.den*y.den) S x:=⟨Nat.dvd_mul_right _ _,hx⟩
 have h2:Bd (x.den*y.den) S y:=⟨Nat.dvd_mul_left _ _,hy⟩
 exact (h1.add (Nat.mul_ne_zero (Nat.pos_iff_ne_zero.1 x.den_pos) (Nat.pos_iff_ne_zero.1 y.den_pos)) h2).2
def CJ (en:Nat→Nat→Bool) (m n:Nat):Bool:=(List.range m).all fun l=>en l n
theorem FH {en:Nat→Nat→Bool} {m n:Nat}:CJ en m n=true↔∀ l,l<m→en l n=true:=by
 rw [CJ,List.all_eq_true];exact ⟨fun h l hl=>h l (List.mem_range.2 hl),fun h l hl=>h l (List.mem_range.1 hl)⟩
def GS (en:Nat→Nat→Bool) (m st:Nat):Option Nat:=if kN (CJ en m) st (1501-st)<1501 then some (kN (CJ en m) st (1501-st)) else none
theorem PN {en:Nat→Nat→Bool} {m st:Nat} (up:∀ l,l<m→∀ n,st≤n→n<1500→en l n=true→en l (n+1)=true):BZ en m st (GS en m st):=by
 obtain ⟨h1,h2,h3,h4⟩:=lJ (CJ en m) (1501-st) st;unfold GS;generalize kN (CJ en m) st (1501-st)=N at *;refine ⟨fun n hn1 hn2=>⟨fun h=>?_,?_⟩,fun M hM=>?_,up⟩
 ·have hN:N≤n:=by
   rcases Nat.lt_or_ge n N with hlt | hge
   ·have:=h3 n hn1 hlt;rw [FH.2 h] at this;cases this
   ·exact hge
  exact ⟨N,if_pos (by omega),hN⟩
 ·rintro ⟨M,hM,hMn⟩ l hl;split at hM
  ·rename_i hlt;simp only [Option.some.injEq] at hM;subst hM;have h5:=FH.1 (h4 (by omega)) l hl
   have key:∀ j,N+j≤1500→en l (N+j)=true:=by
    intro j
    induction j with
    | zero=>exact fun _=>h5
    | succ j ih=>exact fun hj=>up l hl (N+j) (by omega) (by omega) (ih (by omega))
   have:=key (n-N) (by omega)
   rwa [show N+(n-N)=n by omega] at this
  ·cases hM
 ·split at hM
  ·simp only [Option.some.injEq] at hM;subst hM;exact ⟨h1,by omega⟩
  ·cases hM
def AZ (k:Int):Rat:=mkRat 1 (2^k.toNat)*mkRat 1 (2^2)
def uE (E:List (List Rat)) (X aF:Rat) (st:Nat) (t:Rat) (d:Nat) (k:Int):Option Nat:=
 GS (Qn (bD E X) (E.length-1) (aM E X) aF st t.abs (AZ k) d) (E.length-1) st
theorem at7:∀ m,m<5→gM m 1500≤2^45:=by decide +kernel
section
variable {E:List (List Rat)} {ER:List (List RQ)} {X:Rat} {XR:RQ}
theorem SmallX.aG9 (h:SmallX E ER X XR) (hr:tZ E X) {t:Rat} (ht:uC t) {l n d c b:Nat} (hb:11300000≤b) (hn:n≤1500) (hn0:0<n) (hd:d<E.length-1) (hc:c≤n-d) :
  Fit 400000000 (fZ t (aR (bD E X) (E.length-1) (aM E X) (bG (E.length-1) l) n) d n c) ∧
  (fZ t (aR (bD E X) (E.length-1) (aM E X) (bG (E.length-1) l) n) d n c).num.natAbs≤2^b*(fZ t (aR (bD E X) (E.length-1) (aM E X) (bG (E.length-1) l) n) d n c).den:=by
 have hy:11+(10+7500*n+45+12*1500)≤b:=by
  have hx:7500*n≤11250000:=Nat.mul_le_mul_left 7500 hn;have hz:12*1500≤18000:=by decide
  generalize 12*1500=z at hz ⊢;generalize 7500*n=x at hx ⊢;omega
 obtain ⟨h2,h5,hld,_⟩:=hr.facts;obtain ⟨g0,g⟩:=Zr h.xb (N:=1500) (by decide);obtain ⟨gq,gr⟩:=g (E.length-1) (by omega);have fF:=at7;obtain ⟨Xd,hX0,hXQ,hbd⟩:=Jb (h.aa4 hr l) (N:=1500) (by omega) n hn;have hXp:Xd≤2^(14000*n):=Nat.le_trans hXQ (by rw [Nat.pow_mul];exact Nat.pow_le_pow_left gq n)
 have hSp:999*dR (E.length-1) 1500 (dX X) sM 101^n≤2^(10+7500*n):=by
  rw [Nat.pow_add,Nat.pow_mul];exact Nat.mul_le_mul (show 999≤2^10 by decide) (Nat.pow_le_pow_left gr n)
 have hfz:∀ i:Nat,i<n→(bL (i:Int) d).natAbs≤gM (E.length-1) 1500:=fun i hi=>LI (n:=i) (by omega) d (by omega) (i:Int) (by omega);exact PM (y:=b) hy (N:=1500) (c:=c) (B:=400000000) (p:=14000*n) (b:=10+7500*n) (e:=200) (f:=12) (g:=45) hX0 (vX t) hbd ht.bd (by omega) hfz hn0 (by omega) (by decide) hXp hSp ht.d (by decide) (fF _ (by omega)) (by omega)
structure Ba (E:List (List Rat)) (X:Rat) (aF:Rat) (st:Nat) (t:Rat) (k:Int):Prop where
 hv:jN (bD E X) (E.length-1) (aM E X)=some (aF,st)
 tb:uC t
 t2:t.abs+t.abs≤aF
 k256:k≤256
theorem Ba.tf {E:List (List Rat)} {X aF:Rat} {st:Nat} {t:Rat} {k:Int} (S:Ba E X aF st t k):Fit 513 t:=S.tb.fit.mono (by omega)
theorem SmallX.UY (h:SmallX E ER X XR) (hr:tZ E X) {aF t:Rat} {st:Nat} {k:Int} (S:Ba E X aF st t k) {d:Nat} (hd:d<E.length-1) :
  Jh (bD E X) (E.length-1) (aM E X) aF st t.abs (AZ k) d 200000000 300000000:=by
 obtain ⟨h2,h5,hld,_⟩:=hr.facts;obtain ⟨hh,hh62,rfl,hst,hW⟩:=jI (by omega) S.hv;have hpos:=uN hh;have hab:=zG t;have hsmall:∀ n,st≤n→n≤max 1500 st→∀ i,i≤d→qP 2097152 (bA hh) n i t.abs:=fun n h1 h2 i hi=>jZ S.tb.abs hh62 (by omega) (by omega) (Nat.le_refl _);have hsh:∀ n,st≤n→n≤max 1500 st→∀ i,i≤d→cH (bA hh) n i t.abs<1:=fun n h1 h2 i hi=>ID hpos hab S.t2 (by omega)
 have hfb:∀ l,l<E.length-1→Fit 200000000 (vW (bD E X) (E.length-1) (aM E X) (bA hh) st l):=fun l hl=>by
  have hs:=h.Hw hr l;have hrho:∀ j,j≤2*st+1→Fit (Tl) (bA hh^j):=(jZ S.tb.abs hh62 (n:=st) (d:=0) (by omega) (by omega) (by decide)).fo;exact (Od (fun x hx=>Hz hs (by omega) hx) (by decide) (fun j hj=>hrho j (by omega)) (st:=st) (by omega) _ (Nat.le_refl _)).mono (by decide)
 refine ⟨fun n h1 h2 i hi=>jZ S.tb.abs hh62 (by omega) (by omega) (by omega),hsh,hfb,fun l hl n h1 h2 i hi=>?_,?_,by omega,by omega,Cv hh,by omega,by omega,by omega⟩
 ·exact (PC (hsmall n h1 h2 i hi) (hfb l hl) (by omega) (by omega) (by omega)).mono (by omega)
 ·exact ((uI (by have:=S.k256;omega)).mul (uI (by omega))).mono (by omega)
theorem SmallX.Rm (h:SmallX E ER X XR) (hr:tZ E X) {aF t:Rat} {st:Nat} {k:Int} (S:Ba E X aF st t k) {d:Nat} (hd:d<E.length-1) :
  BZ (Qn (bD E X) (E.length-1) (aM E X) aF st t.abs (AZ k) d) (E.length-1) st (uE E X aF st t d k):=by
 have T:=h.UY hr S hd;obtain ⟨h2,h5,hld,_⟩:=hr.facts;obtain ⟨hh,hh62,rfl,hst,hW⟩:=jI (by omega) S.hv;refine PN fun l hl n h1 h2 hen=>?_;unfold Qn oN at hen ⊢;rw [List.all_eq_true] at hen ⊢;intro i hi;have hid:=List.mem_range.1 hi;have h3:=of_decide_eq_true (hen i hi);exact decide_eq_true (Rat.le_trans (Di (KR _ _ _ _) (uN hh) (zG t) (by omega) (T.sh n h1 (by omega) i (by omega))).1 h3)
theorem SmallX.aS2 (h:SmallX E ER X XR) (hr:tZ E X) {aF t:Rat} {st:Nat} {k:Int} (S:Ba E X aF st t k) {N:Nat} (h1:st≤N) (h2:N≤1500) :
  Yi (bD E X) (E.length-1) (aM E X) aF st t N 200000000 400000000 300000000:=by
 have T:=fun d hd=>h.UY hr S (d:=d) hd;obtain ⟨hl2,h5,hld,_⟩:=hr.facts;obtain ⟨hh,hh62,rfl,hst,hW⟩:=jI (by omega) S.hv;obtain ⟨bb,hbb⟩:∃ b:Nat,11300000≤b:=⟨_,Nat.le_refl _⟩
 refine ⟨fun d hd=>(T d hd).OQ N h1 (by omega) d (Nat.le_refl _),fun d hd=>(T d hd).sh N h1 (by omega) d (Nat.le_refl _),(T 0 (by omega)).fb,fun l hl d hd=>(T d hd).ft l hl N h1 (by omega) d (Nat.le_refl _),fun l hl x hx=>(Hz (h.Hw hr l) (by omega) hx).mono (by decide),fun l hl d hd c hc=>(h.aG9 hr S.tb hbb h2 (by omega) hd hc).1,
  fun i hi d hd j hj=>?_,Cv hh,by omega,by omega,by omega,by omega,by omega,by omega,S.tf.mono (by omega)⟩
 have hz:=lX (z:=(i:Int)) (N:=1504) j (by omega);have h2:(1504:Nat)^j≤1504^4:=Nat.pow_le_pow_right (by omega) (by omega);have h3:(1504:Nat)^4=5116716384256:=by decide
 rw [h3] at h2;exact (fD (by omega) (by omega)).mono (by omega)
theorem SmallX.aD7 (h:SmallX E ER X XR) (hr:tZ E X) {aF t:Rat} {st:Nat} {k:Int} (S:Ba E X aF st t k) :
  ZB (bD E X) (E.length-1) (aM E X) aF st t k 4096 (Tl) 200000000 300000000 400000000 (AZ k) (uE E X aF st t (E.length-1-1) k):=by
 obtain ⟨hl2,h5,hld,_⟩:=hr.facts;have T:=h.UY hr S (d:=E.length-1-1) (by omega);have L:=h.Rm hr S (d:=E.length-1-1) (by omega);have hmB:=h.UN;have S':=S;obtain ⟨hh,hh62,rfl,hst,hW⟩:=jI (by omega) S.hv
 exact ⟨by omega,S.k256,rfl,T,L,fun N hN=>h.aS2 hr S (L.some N hN).1 (L.some N hN).2,by omega,fun l hl=>h.Hw hr l,by omega,by omega,by omega,by decide,by decide,by rw [bD,List.length_map];omega,fun p hp=>by have:=(hmB p hp).1;omega,hld,by omega,
  (jZ S.tb.abs hh62 (n:=st) (d:=0) (by omega) (by omega) (by decide)).fo⟩
theorem Lr {x:Rat} (h0:0≤x) (h1:x≤1):x.num.natAbs≤1*x.den:=by
 have h2:=Rat.num_nonneg.2 h0;rw [Rat.le_iff] at h1;rw [show (1:Rat).num=1 from rfl,show (1:Rat).den=1 from rfl] at h1;omega
theorem Qr (k:Int):AZ k≤1:=by
 have h1:∀ n:Nat,mkRat 1 (2^n)≤1∧0≤mkRat 1 (2^n):=fun n=>by
  have hp:0<2^n:=Nat.pow_pos (by omega);rw [Rat.mkRat_eq_div];have h0:(0:Rat)<(((2^n:Nat):Int):Rat):=Rat.intCast_pos.2 (by omega);have h3:(((1:Int)):Rat)≤(((2^n:Nat):Int):Rat):=Rat.intCast_le_intCast.2 (by omega);have e1:((1:Int):Rat)=1:=by decide +kernel
  refine ⟨?_,mJ (by rw [e1];decide +kernel) h0⟩;have:=qR (x:=((1:Int):Rat)) (y:=1) (p:=(((2^n:Nat):Int):Rat)) (q:=1) h0 (by decide +kernel) (by rw [Rat.mul_one,Rat.one_mul];exact h3)
  rwa [show (1:Rat)/1=1 by decide +kernel] at this
 unfold AZ;have:=Rat.mul_le_mul_of_nonneg_right (h1 k.toNat).1 (h1 2).2;rw [Rat.one_mul] at this;exact Rat.le_trans this (h1 2).1
theorem SmallX.RT (h:SmallX E ER X XR) (hr:tZ E X) {aF t:Rat} {st:Nat} {k:Int} (S:Ba E X aF st t k) {N:Nat} (hN:uE E X aF st t (E.length-1-1) k=some N) {d l:Nat} (hd:d<E.length-1) (hl:l<E.length-1) :
  Fit 12000000 (pT (bD E X) (E.length-1) (aM E X) aF st t k N d l)∧Fit 12000000 (pI (bD E X) (E.length-1) (aM E X) aF st t k N d l):=by
 obtain ⟨hl2,h5,hld,_⟩:=hr.facts;have L:=h.Rm hr S (d:=E.length-1-1) (by omega);obtain ⟨h1,h2⟩:=L.some N hN;have M:=h.aS2 hr S h1 h2;have hk:=S.k256;have S':=S;obtain ⟨hh,hh62,rfl,hst,hW⟩:=jI (by omega) S.hv;have hst0:0<N:=by omega
 have hen:=(L.iff N h1 h2).2 ⟨N,hN,Nat.le_refl _⟩ l hl
 have hoff:Al (bD E X) (E.length-1) (aM E X) (bA hh) st t N d l≤AZ k:=by
  unfold Qn oN at hen;rw [List.all_eq_true] at hen;exact of_decide_eq_true (hen d (List.mem_range.2 (by omega)))
 have hoff0:0≤Al (bD E X) (E.length-1) (aM E X) (bA hh) st t N d l:=UQ (KR _ _ _ _) (uN hh) (zG t) (by omega) (M.sh d hd);have ho0:=Lr hoff0 (Rat.le_trans hoff (Qr k));obtain ⟨b,hb⟩:∃ b:Nat,b=11300000:=⟨_,rfl⟩
 obtain ⟨H,hH⟩:∃ H:Nat,H=12000000:=⟨_,rfl⟩
 have hs':=(h.aG9 hr S.tb (b:=b) (by omega) h2 hst0 hd (Nat.le_refl (N-d)) (l:=l)).2;rw [←hH];have h1b:1≤2^b:=Nat.pow_pos (by omega);have ho:=Nat.le_trans ho0 (Nat.mul_le_mul_right _ h1b)
 have hon:(-(Al (bD E X) (E.length-1) (aM E X) (bA hh) st t N d l)).num.natAbs≤2^b*(-(Al (bD E X) (E.length-1) (aM E X) (bA hh) st t N d l)).den:=by
  show (-(Al (bD E X) (E.length-1) (aM E X) (bA hh) st t N d l).num).natAbs≤_;rw [Int.natAbs_neg];exact ho
 have r1:(2^b+2^b)*2^k.toNat<2^H:=by
  rw [show 2^b+2^b=2^(b+1) by rw [Nat.pow_succ];omega,←Nat.pow_add];exact Nat.pow_lt_pow_right (by omega) (by omega)
 have r2:2^k.toNat<2^H:=Nat.pow_lt_pow_right (by omega) (by omega);exact ⟨Gd (Nr hs' hon) r1 r2,YJ (Nr hs' ho) r1 r2⟩
end
end Go.Sy
