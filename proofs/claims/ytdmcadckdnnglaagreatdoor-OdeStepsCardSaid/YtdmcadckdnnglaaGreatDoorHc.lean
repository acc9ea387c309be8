/- Steps. -/
import Derived.Test.YtdmcadckdnnglaaGreatDoorHb
import Derived.Test.YtdmcadckdnnglaaGreatDoorGb
import Derived.Test.YtdmcadckdnnglaaGreatDoorYa
set_option linter.unusedVariables false
set_option linter.unusedSimpArgs false
namespace Go.Sy
open Go Go.Proofs Go.RowKit Tryz Ord
attribute [local go_sem] Oper.semAt_some
def Dp:Tr:=.back 2 [(.w (W 30 0)),(.w (W 29 0)),(.w (W 29 1)),(.w (W 29 2))]
def CV:Tr:=.need (.prim [(W 16 0),(WK (1))] none) (.binOp .sub 3 (.tmp 46) (.const (I3 (1))) 3) 3 false Dp
def BP:Tr:=.need (.call 64 [(.agg [(U 21 0),(U 21 1),(U 21 2)]),(.agg [(U 28 0),(U 28 1),(U 28 2)])] [(some 3)]) (.call ⟨.value (.func 64),#[(.tmp 50),(.tmp 61)],#[39,39]⟩) 39 true CV
def Ce:Tr:=.need (.call 36 [(.agg [(U 26 0),(U 26 1),(U 26 2)]),(.agg [(U 27 0),(U 27 1),(U 27 2)])] [(some 3)]) (.call ⟨.value (.func 36),#[(.tmp 57),(.tmp 60)],#[39,39]⟩) 39 true BP
def Bi:Tr:=.need (.call 209 [(W 16 0),(W 6 0)] [(some 3)]) (.call ⟨.value (.func 209),#[(.tmp 58),(.tmp 59)],#[3,3]⟩) 39 false Ce
def Di:Tr:=.need (.prim [(W 25 0)] (some 3)) (.load 39 (.tmp 56)) 39 false Bi
def Dd:Tr:=.need (.prim [(W 24 0),(W 16 0)] none) (.indexAddr 40 (.tmp 54) (.tmp 55)) 0 false Di
def Ck:Tr:=.need (.prim [(W 23 0)] none) (.load 40 (.tmp 53)) 40 false Dd
def Bt:Tr:=.need (.prim [(W 22 0)] none) (.fieldAddr 266 (.tmp 52) 2) 0 false Ck
def Bo:Tr:=.need (.prim [(W 14 0)] none) (.nilCheck (.tmp 51)) 0 false Bt
def CH:Tr:=.need (.call 36 [(.agg [(U 17 0),(U 18 0),(U 19 0)]),(.agg [(U 2 0),(U 2 1),(U 2 2)])] [(some 3)]) (.call ⟨.value (.func 36),#[(.tmp 48),(.tmp 49)],#[39,39]⟩) 39 false Bo
def Cb:Tr:=.back 1 [(.w (W 28 0)),(.row 27)]
def Bf:Tr:=.need (.prim [(W 10 0),(WK (1))] none) (.binOp .add 3 (.tmp 37) (.const (I3 (1))) 3) 3 false Cb
def CQ:Tr:=.need (.app 6 112 (some 11) none (some 26)) (.call ⟨.builtin .append,#[(.tmp 63),(.tmp 75)],#[118,118]⟩) 118 false Bf
def Dk:Tr:=.need (.lit 6 [[(.u 25 0),(.u 25 1),(.u 25 2),(.u 25 3),(.u 25 4),(.u 25 5)]]) (.buildSlice 118 1 #[(0,(.tmp 74))]) 118 false CQ
def Bv:Tr:=.need (.call 229 [(.agg [(U 24 0),(U 24 1),(U 24 2),(U 24 3),(U 24 4),(U 24 5)]),(W 0 0)] [(some 6)]) (.call ⟨.value (.func 229),#[(.tmp 72),(.tmp 73)],#[123,3]⟩) 123 true Dk
def Bq:Tr:=.need (.call 66 [(.agg [(U 21 0),(U 21 1),(U 21 2),(U 21 3),(U 21 4),(U 21 5)]),(.agg [(U 23 0),(U 23 1),(U 23 2),(U 23 3),(U 23 4),(U 23 5)])] [(some 6)]) (.call ⟨.value (.func 66),#[(.tmp 65),(.tmp 71)],#[123,123]⟩) 123 false Bv
def Ca:Tr:=.need (.call 228 [(.agg [(U 22 0),(U 22 1),(U 22 2)])] [(some 6)]) (.call ⟨.value (.func 228),#[(.tmp 70)],#[39]⟩) 123 false Bq
def BU:Tr:=.need (.call 133 [(W 14 0),(W 5 0),(W 6 0),(.agg [(U 4 0),(U 4 1),(U 4 2)])] [(some 3)]) (.call ⟨.value (.func 133),#[(.tmp 66),(.tmp 67),(.tmp 68),(.tmp 69)],#[194,3,3,39]⟩) 39 false Ca
def Dj:Tr:=.need (.call 227 [(.agg [(U 17 0),(U 18 0),(U 19 0)])] [(some 6)]) (.call ⟨.value (.func 227),#[(.tmp 64)],#[39]⟩) 123 false BU
def Bp:Tr:=.split (.u 20 0) CH Dj
def Cj:Tr:=.need (.prim [(W 16 0),(W 6 0)] none) (.binOp .geq 3 (.tmp 43) (.tmp 44) 3) 4 false Bp
def Df:Tr:=.loop 2 [(.w (W 15 0)),(.w (.one (.c (.k (.slice none 0 0))))),(.w (.one (.c (.k (.bool false))))),(.w (.one (.c (.k (.slice none 0 0)))))] Cj
def DQ:Tr:=.need (.prim [(W 5 0),(WK (1))] none) (.binOp .sub 3 (.tmp 41) (.const (I3 (1))) 3) 3 false Df
def DM:Tr:=.need (.prim [(W 13 0)] none) (.load 194 (.tmp 39)) 194 false DQ
def DZ:Tr:=.need (.prim [(W 3 0),(W 10 0)] none) (.indexAddr 276 (.tmp 35) (.tmp 37)) 0 false DM
def Cu:Tr:=.back 0 [(.w (W 15 0)),(.row 14)]
def Cq:Tr:=.need (.prim [(W 6 0),(WK (1))] none) (.binOp .add 3 (.tmp 32) (.const (I3 (1))) 3) 3 false Cu
def Da:Tr:=.need (.app 1 24 (some 7) none (some 13)) (.call ⟨.builtin .append,#[(.tmp 78),(.tmp 80)],#[109,109]⟩) 109 false Cq
def BD:Tr:=.need (.lit 1 [[(.sr 6 11)]]) (.buildSlice 109 1 #[(0,(.tmp 79))]) 109 false Da
def DK:Tr:=.split (.u 12 0) DZ BD
def DN:Tr:=.need (.prim [(W 10 0),(W 9 0)] none) (.binOp .lss 3 (.tmp 37) (.tmp 36) 3) 0 false DK
def DU:Tr:=.loop 1 [(.w (WK (0))), .nilrow] DN
def DE:Tr:=.need (.prim [(W 3 0)] none) (.call ⟨.builtin .len,#[(.tmp 35)],#[276]⟩) 3 false DU
def Cz:Tr:=.ret [(.one (.c (.sr 1 7)))]
def Ec:Tr:=.split (.u 8 0) DE Cz
def Ej:Tr:=.need (.prim [(W 6 0),(W 1 1)] none) (.binOp .lss 3 (.tmp 32) (.tmp 31) 3) 4 false Ec
def EC:Tr:=.loop 0 [(.w (WK (0))), .nilrow] Ej
theorem HN:Ai prog 84 (fun _=>none) (gS [1,1,1,1] (oX f147)) [(2, .v none),(3, .ref 9),(4, .ref 3),(7, .v none),(8, .ref 3),(9, .v none)] f147.results.toList none true=EC:=by kernel_rfl
def gP (t:Rat) (a:List Rat) (d n:Nat):Nat→Rat
 | 0=>0
 | c+1=>gP t a d n c*t+a.getD (n-1-c) 0*((bG ((n-1-c:Nat):Int) d:Int):Rat)
def aR5 (q:List (List Rat)) (m:Nat) (lead:Rat) (t:Rat) (n d l:Nat):Rat:=gP t (aV q m lead (bK m l) n) d n (n-d)
def AE (q:List (List Rat)) (m:Nat) (lead aJ:Rat) (st:Nat) (t:Rat) (n d l:Nat):Rat:=fX (rL q m lead aJ st l) aJ n d t.abs
def Gc (q:List (List Rat)) (m:Nat) (lead aJ:Rat) (st:Nat) (t:Rat) (k:Int) (n d l:Nat):Rat:=oQ (aR5 q m lead t n d l + -(AE q m lead aJ st t n d l)) k.toNat
def Gl (q:List (List Rat)) (m:Nat) (lead aJ:Rat) (st:Nat) (t:Rat) (k:Int) (n d l:Nat):Rat:=YX (aR5 q m lead t n d l+AE q m lead aJ st t n d l) k.toNat
abbrev Ra (q:List (List Rat)) (m:Nat) (lead aJ:Rat) (st:Nat) (t:Rat) (k:Int) (n d j:Nat):List (List aH):=(List.range j).map fun l=>snC (Gc q m lead aJ st t k n d l) (Gl q m lead aJ st t k n d l)
abbrev JJ (q:List (List Rat)) (m:Nat) (lead aJ:Rat) (st:Nat) (t:Rat) (k:Int) (n i:Nat):List (List aH):=(List.range i).map fun d=>[.slice 6 (Ra q m lead aJ st t k n d m)]
structure Ym (q:List (List Rat)) (m:Nat) (lead aJ:Rat) (st:Nat) (t:Rat) (n B BS G:Nat):Prop where
 Kt:∀ d,d<m→mJ B aJ n d t.abs
 sh:∀ d,d<m→cZ aJ n d t.abs<1
 fb:∀ l,l<m→Fit B (rL q m lead aJ st l)
 ft:∀ l,l<m→∀ d,d<m→Fit G (AE q m lead aJ st t n d l)
 fc:∀ l,l<m→∀ x∈aV q m lead (bK m l) n,Fit BS x
 fs:∀ l,l<m→∀ d,d<m→∀ c,c≤n-d→Fit BS (gP t (aV q m lead (bK m l) n) d n c)
 ff:∀ i,i<n→∀ d,d<m→∀ j,j≤d→Fit B ((bG (i:Int) j:Int):Rat)
 h0:aJ≠0
 hB:B≤1073741824
 h64:64≤B
 hBS:BS≤1073741824
 hG:G≤1073741824
 n15:n≤1073741824
 mn:m≤n
 ft1:Fit B t
set_option maxHeartbeats 2000000 in
theorem aA7 (q:List (List Rat)) (m:Nat) (lead aJ:Rat) (st:Nat) (t:Rat) (k:Int) (n B BS G:Nat) (C:Ym q m lead aJ st t n B BS G) (hm:m≤64) (hk:k≤256):vc prog (fun o=>jY o (.ret [.one (.slice 1 (JJ q m lead aJ st t k n m))])) (Ai prog 84 (fun _=>none) (gS [1,1,1,1] (oX f147)) [(2, .v none),(3, .ref 9),(4, .ref 3),(7, .v none),(8, .ref 3),(9, .v none)] f147.results.toList none true) ([.v (.one (.int .i64 k)), .ref (yE q m lead aJ (st:Nat)), .ref (qC t), .v (.one (.slice 1 ((List.range m).map fun l=>[.bE (kM q m lead aJ st n l)]))), .ref (qC t.abs), .v (.one (.int .i64 n))].map In.env) []:=by
 rw [HN];dsimp only [List.map,In.env,aB,aA];obtain ⟨hmn,hn15,hB,h64,hBS,hG,h0⟩:=(⟨C.mn,C.n15,C.hB,C.h64,C.hBS,C.hG,C.h0⟩:m≤n∧n≤1073741824∧B≤1073741824∧64≤B∧BS≤1073741824∧G≤1073741824∧aJ≠0)
 refine bC {d:Nat // d≤m} (fun g=>[.one (.int .i64 g.1), .rows (JJ q m lead aJ st t k n g.1)]) (fun g=>m-g.1) ⟨0,Nat.zero_le _⟩ aO.rfl (fun _=>rfl) ?_;rintro ⟨d,hd⟩;dsimp only [aB,aA] at hd ⊢;refine vn bB rfl ?_;dsimp only [aB,aA];refine vs _ rfl (fun h2=>?_) (fun h2=>?_)
 ·refine vn (aP Zp (List.length_map _)) rfl ?_;rw [List.length_range];dsimp only [aB,aA];have hdm:d<m:=by omega
  refine bC {l:Nat // l≤m} (fun g=>[.one (.int .i64 g.1), .rows (Ra q m lead aJ st t k n d g.1)]) (fun g=>m-g.1) ⟨0,Nat.zero_le _⟩ aO.rfl (fun _=>rfl) ?_;rintro ⟨l,hl⟩;dsimp only [aB,aA] at hl ⊢;refine vn bB rfl ?_;dsimp only [aB,aA];refine vs _ rfl (fun h6=>?_) (fun h6=>?_)
  ·have hlm:l<m:=by omega
   have hrl:(List.range m)[l]? = some l:=List.getElem?_range hlm;refine vn (aW Zp (by omega) (Int.toNat_natCast l) hrl) rfl ?_;dsimp only [aB,aA];refine vn (bF aI8) rfl ?_;dsimp only [aB,aA];refine vn (aG (by omega) (by omega)) rfl ?_;dsimp only [aB,aA];have hal:=bM q m lead (bK m l) n;have hfs:=C.fs l hlm d hdm;have hfc:=C.fc l hlm
   refine bC {c:Nat // c≤n-d} (fun g=>(.one (.int .i64 ((n:Int)-1-(g.1:Int))):aF)::(qC (gP t (aV q m lead (bK m l) n) d n g.1)).map .one) (fun g=>n-d-g.1) ⟨0,Nat.zero_le _⟩ (by
    rw [show (n:Int)-1-((0:Nat):Int)=(n:Int)-1 by omega];exact ⟨aF.Sub.same,sY⟩) (fun _=>rfl) ?_
   rintro ⟨c,hc⟩;dsimp only [aB,aA,List.map] at hc ⊢;refine vn eH rfl ?_;dsimp only [aB,aA];refine vs _ rfl (fun h12=>?_) (fun h12=>?_)
   ·have hci:c<n-d:=by omega
    obtain ⟨i,hi⟩:∃ i,n-1-c=i:=⟨_,rfl⟩
    have hii:(n:Int)-1-(c:Int)=(i:Int):=by omega
    have hia:i<(aV q m lead (bK m l) n).length:=by omega
    have hfx:=hfc _ (List.mem_of_getElem? (cW hia));have hff:=C.ff i (by omega) d hdm;refine aC (dF _ _ BS B (hfs c hc) C.ft1 (by omega)) rfl ?_;dsimp only [aB,aA];refine vn Ml rfl ?_;dsimp only [aB,aA];refine vn (qU Wz (by decide)) rfl ?_;dsimp only [aB,aA];refine vn (t:=.one (sQ (aV q m lead (bK m l) n))) (bO bc9 (by decide) (by exact Nat.succ_le_succ (Nat.zero_le _)) (.inr rfl)) rfl ?_;dsimp only [aB,aA];refine vn (aW CJ (by omega) (show ((n:Int)-1-(c:Int)).toNat=i by omega) (cW hia)) rfl ?_;dsimp only [aB,aA];refine vn (bO sS (by decide) (by simp) (.inl rfl)) rfl ?_;dsimp only [aB,aA];rw [hii];refine aC (mB (i:Int) d B (by omega) (by omega) (by omega) (by omega) h64 hff) rfl ?_;dsimp only [aB,aA];refine aC (dF _ _ BS B hfx (hff d (Nat.le_refl _)) (by omega)) rfl ?_;dsimp only [aB,aA];refine aC (mL _ _ (BS+B) (BS+B) ((hfs c hc).mul C.ft1) (hfx.mul (hff d (Nat.le_refl _))) (by omega)) rfl ?_;rw [show gP t (aV q m lead (bK m l) n) d n c*t+((aV q m lead (bK m l) n)).getD i 0*((bG (i:Int) d:Int):Rat)=gP t (aV q m lead (bK m l) n) d n (c+1) by rw [gP,hi]];dsimp only [aB,aA];refine vn (aG (by omega) (by omega)) rfl ?_;dsimp only [aB,aA];exact aR rfl ⟨⟨c+1,by omega⟩,aO.of_eq (by dsimp only;rw [show (n:Int)-1-((c+1:Nat):Int)=(i:Int)-1 by omega];rfl),by show n-d-(c+1)<n-d-c;omega⟩
   have hcd:c=n-d:=by omega
   subst hcd;refine aC (aZ6 (gP t (aV q m lead (bK m l) n) d n (n-d))) rfl ?_;dsimp only [aB,aA];refine aC (Lz (eQ q) (.int .i64 m) (dT lead.num.natAbs) (.bool (decide (lead.num<0))) (dT (lead.den-1)) aJ st (bK m l) (aV q m lead (bK m l) n) (rL q m lead aJ st l) n d t.abs B (C.Kt d hdm) (by omega) (by omega) h0 (C.fb l hlm) (by omega) (by omega) (C.sh d hdm)) rfl ?_;dsimp only [aB,aA];refine aC (Om (fX (rL q m lead aJ st l) aJ n d t.abs)) rfl ?_;dsimp only [aB,aA];have hft:=C.ft l hlm d hdm;refine aC (ZS (gP t (aV q m lead (bK m l) n) d n (n-d)) (gP t (aV q m lead (bK m l) n) d n (n-d)) (-(AE q m lead aJ st t n d l)) (AE q m lead aJ st t n d l) BS G (hfs _ (Nat.le_refl _)) (hfs _ (Nat.le_refl _)) hft.neg hft (by omega)) rfl ?_;dsimp only [aB,aA];refine aC (ay1 _ _ k (BS+G+1) hk ((hfs _ (Nat.le_refl _)).add hft.neg) ((hfs _ (Nat.le_refl _)).add hft) (by omega) (by omega)) rfl ?_;rw [show oQ (gP t (aV q m lead (bK m l) n) d n (n-d) + -(AE q m lead aJ st t n d l)) k.toNat=Gc q m lead aJ st t k n d l from rfl,show YX (gP t (aV q m lead (bK m l) n) d n (n-d)+AE q m lead aJ st t n d l) k.toNat=Gl q m lead aJ st t k n d l from rfl];dsimp only [aB,aA];refine cL (us:=[snC (Gc q m lead aJ st t k n d l) (Gl q m lead aJ st t k n d l)]) rfl ?_;dsimp only [aB,aA];refine jQ (xs:=List.range l) (x:=l) (f:=fun l=>snC (Gc q m lead aJ st t k n d l) (Gl q m lead aJ st t k n d l)) rfl rfl (by rw [List.length_range];omega) (by rw [List.length_range];simp only [maxLen];omega) ?_;rw [←List.range_succ];dsimp only [aB,aA];refine vn (aE (by omega) (by omega)) rfl ?_;dsimp only [aB,aA];exact aR rfl ⟨⟨l+1,by omega⟩,aO.rfl,by show m-(l+1)<m-l;omega⟩
  obtain rfl:l=m:=by omega
  refine cL (us:=[[.slice 6 (Ra q l lead aJ st t k n d l)]]) rfl ?_;dsimp only [aB,aA];refine jQ (xs:=List.range d) (x:=d) (f:=fun d=>[.slice 6 (Ra q l lead aJ st t k n d l)]) rfl rfl (by rw [List.length_range];omega) (by rw [List.length_range];simp only [maxLen];omega) ?_;rw [←List.range_succ];dsimp only [aB,aA];refine vn (aE (by omega) (by omega)) rfl ?_;dsimp only [aB,aA];exact aR rfl ⟨⟨d+1,by omega⟩,aO.rfl,by show l-(d+1)<l-d;omega⟩
 obtain rfl:d=m:=by omega
 exact aL rfl
def Halt (p:Prop):Prop:=p
theorem halt {p:Prop} (h:Halt p):p:=h
theorem Nw {M:Nat→Prop} {n0 m:Nat} {W:World} {C:Nat→List aH} {bv:Value} {ps:List Nat} (I:lW M n0 W C bv ps) (hpl:ps.length=m) (hM:∀ k,M k→k<n0):(aH.slice 1 ((List.range m).map fun l=>[aH.bE (C l)])).rep M W bv:=by
 have hkM:bZ (sX M ps bv) W M W:=fun b o hb ho _=>⟨fun h=>hb (.inl (.inl h)),ho⟩
 rcases I.sl.2 with ⟨rfl,h⟩ | ⟨g,cap,cur,rfl,h2,h3,h4,h5,h6,h7⟩
 ·obtain rfl:m=0:=by omega
  exact ⟨none,0,rfl,Nat.le_refl _,by simp [maxLen], .inl rfl⟩
 ·rw [hpl,Nat.mul_one] at h7;refine ⟨some ⟨g,0,none⟩,cap,by rw [List.length_map,List.length_range,hpl],by rw [List.length_map,List.length_range];omega,h5, .inr ⟨g,0,cur,194,(0,0),rfl,fun h=>by have:=hM g h;omega,h3,fun i t ht=>?_⟩⟩;rw [List.getElem?_map] at ht
  have hi:i<m:=by
   rcases Nat.lt_or_ge i m with h | h
   ·exact h
   ·rw [List.getElem?_eq_none (by rw [List.length_range];exact h)] at ht;cases ht
  rw [List.getElem?_range hi] at ht;simp only [Option.map_some,Option.some.injEq] at ht;subst ht;obtain ⟨b,hb⟩:∃ b,ps[i]? = some b:=⟨_,List.getElem?_eq_getElem (by omega)⟩
  have hc:cur.toList[i]? = some (.pointer (some ⟨b,0,none⟩)):=by
   have h:(cur.toList.take m)[i]? = some (.pointer (some ⟨b,0,none⟩)):=by rw [h7,List.getElem?_map,hb];rfl
   rwa [List.getElem?_take,if_pos hi] at h
  have hd:(cur.toList.drop (0+i*1)).take 1 = [.pointer (some ⟨b,0,none⟩)]:=by
   obtain ⟨h8,h9⟩:=List.getElem?_eq_some_iff.1 hc;rw [Nat.zero_add,Nat.mul_one,List.drop_eq_getElem_cons h8,h9];rfl
  obtain ⟨us,hu,hr⟩:=I.cells i b hb;refine ⟨rfl,?_⟩;rw [hd];refine ⟨⟨b,0,us,266,(0,0),rfl,fun h=>by have:=hM b h;have:=(I.lo b (List.mem_of_getElem? hb)).1;omega,hu,?_⟩,trivial⟩;rw [List.drop_zero,List.take_of_length_le (Nat.le_of_eq hr.length.symm)];exact hr.mono hkM
set_option maxRecDepth 100000 in
set_option maxHeartbeats 1000000 in
theorem OO (M:Nat→Prop) (w:World) (hM:dL M w) (q:List (List Rat)) (m:Nat) (lead aJ:Rat) (st:Nat) (t:Rat) (k:Int) (Ns Bs B G:Nat) (hm1:1≤m) (hk:k≤256) (goal:Rat) (hgq:mkRat 1 (2^k.toNat)*mkRat 1 (2^2)=goal)
  (T:JA q m lead aJ st t.abs goal (m-1) B G) (out:Option Nat) (L:Dt (KY q m lead aJ st t.abs goal (m-1)) m st out) (BS:Nat) (MC:∀ N,out=some N→Ym q m lead aJ st t N B BS G)
  (hst15:st≤1500) (SC:∀ l,l<m→fU Bs q m lead (bK m l) Ns) (hNs:Ns≤1073741824) (hN15:1500≤Ns) (hm:m≤64) (hBs:Bs≤4294967296) (h64:64≤Bs) (hql:q.length=m+1) (hp:∀ p∈q,p.length<1048576) (hl0:lead≠0) (hw:m+bA q≤st) (hrho:∀ j,j≤2*st+1→Fit Bs (aJ^j))
  (u0 u1 u2 u3 u4 u5 u6 u7 u8:Value) (ha:aZ M w (yE q m lead aJ (st:Nat)) [u0,u1,u2,u3,u4,u5,u6,u7,u8]) (t0 t1 t2:Value) (ht:aZ M w (qC t) [t0,t1,t2]) :
  Calls prog 147 #[.agg #[u0,u1,u2,u3,u4,u5,u6,u7,u8], .agg #[t0,t1,t2], .int .i64 k] w fun e w'=>Below w.heap.size w w'∧match out with
   | some n=>∃ v,e = .returned v∧(aH.slice 1 (JJ q m lead aJ st t k n m)).rep M w' v
   | none=>e = .panicked [{ v:=Uo 5,recovered:=false }]:=by
 obtain ⟨o0,o1,o2,o3,o4,o5,o6,o7,o8⟩:u0.oneCell'=true∧u1.oneCell'=true∧u2.oneCell'=true∧u3.oneCell'=true∧u4.oneCell'=true∧u5.oneCell'=true∧u6.oneCell'=true∧u7.oneCell'=true∧u8.oneCell'=true:=by
  have:=ha.one;exact ⟨this _ (by simp),this _ (by simp),this _ (by simp),this _ (by simp),this _ (by simp),this _ (by simp),this _ (by simp),this _ (by simp),this _ (by simp)⟩
 obtain ⟨p0,p1,p2⟩:t0.oneCell'=true∧t1.oneCell'=true∧t2.oneCell'=true:=by have:=ht.one;exact ⟨this _ (by simp),this _ (by simp),this _ (by simp)⟩
 have e1:u1 = .int .i64 m:=ha.2.1.1;subst e1;refine calls_of_wp func147 rfl ?_;simp only [ntmps147,List.size_toArray,List.length_cons,List.length_nil,Nat.reduceAdd,Nat.reduceSub,Array.replicate_succ,Array.replicate_zero,List.push_toArray,List.append_toArray,List.nil_append,List.cons_append];obtain ⟨n0,hn0⟩:∃ n0,w.heap.size=n0:=⟨_,rfl⟩
 obtain ⟨W1,hW1⟩:∃ W1,(w.alloc (.cells #[u0, .int .i64 m,u2,u3,u4,u5,u6,u7,u8] 185)).alloc (.cells #[t0,t1,t2] 39)=W1:=⟨_,rfl⟩
 have hs1:W1.heap.size=n0+2:=by rw [←hW1];simp [hn0]
 have hB1:Below w.heap.size w W1:=by rw [←hW1];exact ((Below.refl _ w).alloc (Nat.le_refl _) _).alloc (by simp) _
 have hA1:W1.heap[n0]? = some (.cells #[u0, .int .i64 m,u2,u3,u4,u5,u6,u7,u8] 185 (0,0)):=by rw [←hW1,heap_alloc_old _ _ _ (by simp;omega),←hn0];exact heap_alloc_new w _
 have hT1:W1.heap[n0+1]? = some (.cells #[t0,t1,t2] 39 (0,0)):=by
  rw [←hW1];have:=heap_alloc_new (w.alloc (.cells #[u0, .int .i64 m,u2,u3,u4,u5,u6,u7,u8] 185)) (.cells #[t0,t1,t2] 39)
  rwa [World.size_alloc,hn0] at this
 have hM1:dL M W1:=⟨fun b hb=>Nat.lt_of_lt_of_le (hM.1 b hb) hB1.size,hM.2.below rfl hB1⟩
 have ha1:=ha.mono (bZ.below hB1);have hbas:=Pm M W1 hM1 q m lead aJ st Ns Bs SC (by omega) hNs hm (by omega) hBs h64 hql hp hl0 hw hrho u0 (.int .i64 m) u2 u3 u4 u5 u6 u7 u8 ha1;have c0:W1.cell? ⟨n0,0,none⟩=some u0:=aI hA1 rfl;have c1:W1.cell? ⟨n0,1,none⟩=some (.int .i64 m):=aI hA1 rfl;have c2:W1.cell? ⟨n0,2,none⟩=some u2:=aI hA1 rfl;have c3:W1.cell? ⟨n0,3,none⟩=some u3:=aI hA1 rfl;have c4:W1.cell? ⟨n0,4,none⟩=some u4:=aI hA1 rfl;have c5:W1.cell? ⟨n0,5,none⟩=some u5:=aI hA1 rfl;have c6:W1.cell? ⟨n0,6,none⟩=some u6:=aI hA1 rfl;have c7:W1.cell? ⟨n0,7,none⟩=some u7:=aI hA1 rfl;have c8:W1.cell? ⟨n0,8,none⟩=some u8:=aI hA1 rfl
 go_wp2_with (go_at_call 225;refine hbas.mono ?_)
 rintro e w2 ⟨bv,ps,rfl,hpl,hb2,I⟩;have hB2:Below w.heap.size w w2:=hB1.trans (hb2.mono hB1.size);have hf2:=I.Gg hM1 (Nat.le_refl _) hb2;have hw2:=hb2.size
 have hlt:∀ b,sX M ps bv b→M b∨n0+2≤b:=by
  rintro b ((h | h) | h)
  ·exact .inl h
  ·exact .inr (by have:=(I.lo b h).1;omega)
  ·exact .inr (by have:=(I.sl.lt b h).1;omega)
 have hk2:bZ M w (sX M ps bv) w2:=fun b o hb ho _=>by
  have hl:=(Array.getElem?_eq_some_iff.1 ho).1;exact ⟨fun h=>(hlt b h).elim hb (by omega),(hB2.block b hl).trans ho⟩
 have hA2:w2.heap[n0]? = some (.cells #[u0, .int .i64 m,u2,u3,u4,u5,u6,u7,u8] 185 (0,0)):=(hb2.block n0 (by omega)).trans hA1;have hT2:w2.heap[n0+1]? = some (.cells #[t0,t1,t2] 39 (0,0)):=(hb2.block (n0+1) (by omega)).trans hT1
 have hba:Calls prog 146 #[.agg #[t0,t1,t2]] w2 fun e w'=>Below w2.heap.size w2 w'∧∃ r0 r1 r2,e = .returned (.agg #[r0,r1,r2])∧aZ (sX M ps bv) w' (qC t.abs) [r0,r1,r2]:=by
  refine ((qK t).2 (sX M ps bv) w2 [.agg #[t0,t1,t2]] hf2 ⟨⟨_,rfl,ht.mono hk2⟩,trivial⟩).mono ?_;rintro e w' ⟨hb,vs,rfl,hvs⟩;obtain ⟨us,e1,hus⟩:=am8 hvs;obtain ⟨g0,g1,g2,rfl⟩:=Rd hus;exact ⟨hb,g0,g1,g2,by rw [e1],hus⟩
 have d0:w2.cell? ⟨n0+1,0,none⟩=some t0:=aI hT2 rfl;have d1:w2.cell? ⟨n0+1,1,none⟩=some t1:=aI hT2 rfl;have d2:w2.cell? ⟨n0+1,2,none⟩=some t2:=aI hT2 rfl
 go_wp2_with (go_at_call 146;refine hba.mono ?_)
 rintro e w3 ⟨hb3,r0,r1,r2,rfl,hr3⟩;obtain ⟨x0,x1,x2⟩:r0.oneCell'=true∧r1.oneCell'=true∧r2.oneCell'=true:=by have:=hr3.one;exact ⟨this _ (by simp),this _ (by simp),this _ (by simp)⟩
 have hA3:w3.heap[n0]? = some (.cells #[u0, .int .i64 m,u2,u3,u4,u5,u6,u7,u8] 185 (0,0)):=(hb3.block n0 (by omega)).trans hA2
 go_wp2
 have hnew:=heap_alloc_new w3 (.cells #[.slice none 0 0, .bool false, .slice none 0 0] 39);rw [vA hnew x0 x1 x2];obtain ⟨w4,hw4⟩:∃ w4,(w3.alloc (.cells #[.slice none 0 0, .bool false, .slice none 0 0] 39)).setRow w3.heap.size #[r0,r1,r2]=w4:=⟨_,rfl⟩
 have hB34:Below w3.heap.size w3 w4:=by rw [←hw4];exact below_setRow ((Below.refl _ w3).alloc (Nat.le_refl _) _) (Nat.le_refl _) _
 have hR4:w4.heap[w3.heap.size]? = some (.cells #[r0,r1,r2] 39 (0,0)):=by rw [←hw4];exact setRow_heap _ _ _ _ _ _ hnew
 have hw3:=hb3.size;have hA4:w4.heap[n0]? = some (.cells #[u0, .int .i64 m,u2,u3,u4,u5,u6,u7,u8] 185 (0,0)):=(hB34.block n0 (by omega)).trans hA3;have hT4:w4.heap[n0+1]? = some (.cells #[t0,t1,t2] 39 (0,0)):=(hB34.block (n0+1) (by omega)).trans ((hb3.block (n0+1) (by omega)).trans hT2);have hB24:Below w2.heap.size w2 w4:=hb3.trans (hB34.mono hb3.size);have hB14:Below W1.heap.size W1 w4:=hb2.trans (hB24.mono hb2.size);have hter:=Ro Ns Bs M W1 w4 hM1 hB14 q m lead aJ st t.abs (m-1) k B G bv ps hm1 hk goal hgq T out L ((I.grow hb3).grow hB34) hpl hst15 SC hNs hN15 hm hBs h64 hql hp hl0 r0 r1 r2 (hr3.mono (bZ.below hB34));rw [show (((m-1:Nat)):Int)=(m:Int)-1 by omega] at hter;have q0:w4.cell? ⟨w3.heap.size,0,none⟩=some r0:=aI hR4 rfl;have q1:w4.cell? ⟨w3.heap.size,1,none⟩=some r1:=aI hR4 rfl;have q2:w4.cell? ⟨w3.heap.size,2,none⟩=some r2:=aI hR4 rfl;have q3:w4.cell? ⟨n0,1,none⟩=some (.int .i64 m):=aI hA4 rfl;rw [hw4]
 go_wp2_with (go_at_call 226;refine hter.mono ?_)
 ·rename_i KK K2 out1 L1 N L2 QQ hKK hK2;rintro e w5 rfl tu I5;have hww4:=hB24.size;have hps:∀ b∈ps,n0+2≤b:=fun b hb=>by have:=(I.lo b hb).1;omega
  have hB5:Below w.heap.size w w5:=tu.low (hB1.trans (hB14.mono hB1.size)) (by omega) (fun b hb=>by have:=hps b hb;omega);have hM5:dL M w5:=⟨fun b hb=>Nat.lt_of_lt_of_le (hM.1 b hb) hB5.size,hM.2.below rfl hB5⟩
  have hn5:∀ j,j<n0+2→j ∉ ps:=fun j hj h=>by have:=hps j h;omega
  have hA5:w5.heap[n0]? = some (.cells #[u0, .int .i64 m,u2,u3,u4,u5,u6,u7,u8] 185 (0,0)):=(tu.block n0 (by omega) (hn5 _ (by omega))).trans hA4;have hT5:w5.heap[n0+1]? = some (.cells #[t0,t1,t2] 39 (0,0)):=(tu.block (n0+1) (by omega) (hn5 _ (by omega))).trans hT4;have hR5:w5.heap[w3.heap.size]? = some (.cells #[r0,r1,r2] 39 (0,0)):=(tu.block w3.heap.size (by rw [←hw4];simp [World.setRow]) (fun h=>by have:=(I.lo _ h).2;omega)).trans hR4;have hr4:=hr3.mono (bZ.below hB34);have hk45:bZ (sX M ps bv) w4 M w5:=fun b o hb ho _=>⟨fun h=>hb (.inl (.inl h)),(tu.block b (Array.getElem?_eq_some_iff.1 ho).1 (fun h=>hb (.inl (.inr h)))).trans ho⟩
  have hKH:Halt _:=hKK;clear hKK
  go_wp2
  refine hKH _ _ ?_
  refine UZ (N:=84) (ins:=[(2, .v none),(3, .ref 9),(4, .ref 3),(7, .v none),(8, .ref 3),(9, .v none)]) (xs:=[.v (.one (.int .i64 k)), .ref (yE q m lead aJ (st:Nat)), .ref (qC t), .v (.one (.slice 1 ((List.range m).map fun l=>[.bE (kM q m lead aJ st N l)]))), .ref (qC t.abs), .v (.one (.int .i64 N))]) fo ⟨rfl,rfl,rfl,rfl,rfl,rfl,trivial⟩
   (aA7 q m lead aJ st t k N B BS G (MC N rfl) hm hk) (by kernel_rfl) hM5 rfl rfl
   ⟨⟨rfl,rfl⟩,⟨n0,0,_,_,_,rfl,fun h=>by have:=hM.1 _ h;omega,hA5,ha.mono (bZ.below hB5)⟩,⟨n0+1,0,_,_,_,rfl,fun h=>by have:=hM.1 _ h;omega,hT5,ht.mono (bZ.below hB5)⟩,Nw I5 hpl (fun k h=>by have:=hM.1 k h;omega),⟨w3.heap.size,0,_,_,_,rfl,fun h=>by have:=hM.1 _ h;omega,hR5,hr4.mono hk45⟩,⟨rfl,rfl⟩,trivial⟩ ?_ (by intro c v a' w' h;cases h)
  intro e a' w' rs us hrs hex hB hsz hdf hrun hus;cases hrs
  have key:a'.defers = []∧∃ v,(results f147 a'.tmps).run prog w' = .ok v w'∧(Below w.heap.size w w'∧∃ v',Ending.returned v = .returned v'∧(aH.slice 1 (JJ q m lead aJ st t k N m)).rep M w' v'):=by
   obtain ⟨v,hv,hrep⟩:=OP hus;exact ⟨hdf,_,iV f147 a'.tmps us hrun,hB5.trans (hB.mono hB5.size),v,by rw [hv],hrep⟩
  cases e with
  | normal=>exact key
  | ret=>exact key
  | exit id=>cases hex
 ·rintro e w5 rfl hb5;exact ⟨rfl,hB1.trans (hb5.mono (by omega)),rfl⟩
end Go.Sy
namespace Go.Sy
open Go Go.Proofs Tryz Ord
theorem UF {q:Rat} {S k:Nat} (h:q.num.natAbs≤S*q.den):(Kh (q*uI k)).natAbs≤S*2^k:=by
 rw [MY];obtain ⟨p,hp⟩:∃ p:Nat,2^k=p:=⟨_,rfl⟩
 rw [hp];have hd:(0:Int)<(q.den:Int):=by have:=q.den_pos;omega
 have h1:q.num≤(S:Int)*(q.den:Int):=by have:(q.num.natAbs:Int)≤((S*q.den:Nat):Int):=by exact_mod_cast h
                                       rw [Int.natCast_mul] at this;omega
 have h2:-((S:Int)*(q.den:Int))≤q.num:=by have:(q.num.natAbs:Int)≤((S*q.den:Nat):Int):=by exact_mod_cast h
                                          rw [Int.natCast_mul] at this;omega
 have hp0:(0:Int)≤(p:Int):=Int.natCast_nonneg _
 have h3:q.num*(p:Int)≤(S:Int)*(p:Int)*(q.den:Int):=by
  have:=Int.mul_le_mul_of_nonneg_right h1 hp0;rw [Int.mul_right_comm] at this;exact this
 have h4:-((S:Int)*(p:Int))*(q.den:Int)≤q.num*(p:Int):=by
  have:=Int.mul_le_mul_of_nonneg_right h2 hp0;rw [Int.neg_mul,Int.mul_right_comm] at this;rw [Int.neg_mul];exact this
 have h5:q.num*(p:Int)/(q.den:Int)≤(S:Int)*(p:Int):=by
  have:=Int.ediv_le_ediv hd h3
  rwa [Int.mul_ediv_cancel _ (by omega)] at this
 have h6:-((S:Int)*(p:Int))≤q.num*(p:Int)/(q.den:Int):=by
  have:=Int.ediv_le_ediv hd h4
  rwa [Int.mul_ediv_cancel _ (by omega)] at this
 have h7:(((S*p:Nat)):Int)=(S:Int)*(p:Int):=Int.natCast_mul _ _;omega
theorem Fq {q:Rat} {S k H:Nat} (h:q.num.natAbs≤S*q.den) (h1:S*2^k<2^H) (h2:2^k<2^H):Fit H (oQ q k):=by
 have e:oQ q k=mkRat (Kh (q*uI k)) (2^k):=by rw [oQ,Rat.mkRat_eq_div,Rat.mkRat_eq_div];grind
 rw [e];exact Fit.mkRat (Nat.lt_of_le_of_lt (UF h) h1) h2 (Nat.pos_iff_ne_zero.1 (Nat.pow_pos (by omega)))
theorem VX {q:Rat} {S k H:Nat} (h:q.num.natAbs≤S*q.den) (h1:S*2^k<2^H) (h2:2^k<2^H):Fit H (YX q k):=by
 rw [←YM];exact (Fq (q:=-q) (by show (-q.num).natAbs≤S*q.den;rw [Int.natAbs_neg];exact h) h1 h2).neg
theorem Hg {t:Rat} {a:List Rat} {d n D S E T F:Nat} (h0:D≠0) (h1:E≠0) (ha:∀ x∈a,Bd D S x) (ht:Bd E T t) (hT:1≤T) (hF:∀ i:Nat,i<n→(bG (i:Int) d).natAbs≤F) (hn:0<n):∀ c,Bd (D*E^c) (c*(S*F*T^c)) (gP t a d n c)
 | 0=>Bd.zero
 | c+1=>by
   have ih:=Hg h0 h1 ha ht hT hF hn c;have hE:E^c≠0:=Nat.pos_iff_ne_zero.1 (Nat.pow_pos (Nat.pos_of_ne_zero h1));have hm:=ih.mul (Nat.mul_ne_zero h0 hE) h1 ht;have hx:=(iA ha (n-1-c)).mul h0 (E:=1) (by omega) (Bd.int (hF (n-1-c) (by omega)));rw [gP];have e1:D*E^c*E=D*E^(c+1):=by rw [Nat.pow_succ,Nat.mul_assoc]
   have e2:c*(S*F*T^c)*T=c*(S*F*T^(c+1)):=by rw [Nat.pow_succ,Nat.mul_assoc,Nat.mul_assoc (S*F)]
   rw [e1,e2] at hm;have hx':=hx.mono (E:=D*E^(c+1)) (T:=S*F*T^(c+1)) (by rw [Nat.mul_one];exact Nat.dvd_mul_right _ _) (Nat.le_mul_of_pos_right _ (Nat.pow_pos hT));have:=hm.add (Nat.mul_ne_zero h0 (Nat.pos_iff_ne_zero.1 (Nat.pow_pos (Nat.pos_of_ne_zero h1)))) hx';rw [Nat.add_mul,Nat.one_mul];exact this
theorem KS {D E c n a e:Nat} (hD:D≤2^a) (hE:E≤2^e) (hc:c≤n):D*E^c≤2^(a+e*n):=by
 rw [Nat.pow_add,Nat.pow_mul];exact Nat.mul_le_mul hD (Nat.le_trans (Nat.pow_le_pow_left hE c) (Nat.pow_le_pow_right (Nat.pow_pos (by omega)) hc))
theorem JY {S T F c n b f g:Nat} (hS:S≤2^b) (hT:T≤2^f) (hF:F≤2^g) (hc:c≤n) (hn:n≤2^11):c*(S*F*T^c)≤2^(11+(b+g+f*n)):=by
 rw [Nat.pow_add 2 11,Nat.pow_add 2 (b+g),Nat.pow_add 2 b,Nat.pow_mul];exact Nat.mul_le_mul (Nat.le_trans hc hn) (Nat.mul_le_mul (Nat.mul_le_mul hS hF) (Nat.le_trans (Nat.pow_le_pow_left hT c) (Nat.pow_le_pow_right (Nat.pow_pos (by omega)) hc)))
theorem Rt {x y B:Nat} (h:x≤2^y) (hB:y<B):x<2^B:=Nat.lt_of_le_of_lt h (Nat.pow_lt_pow_right (by omega) hB)
theorem VA (a b:Rat):a≤pO [a,b] 2:=by
 have h1:pO [a,b] 1=a:=by rw [pO,if_pos (.inl rfl)];rfl
 rw [pO,h1];split
 ·rename_i h;rcases h with h | h
  ·omega
  ·exact Rat.le_of_lt h
 ·exact Rat.le_refl
theorem Sb (a:List Rat) (aJ:Rat) (n0:Nat):∀ k,0≤FB a aJ n0 k
 | 0=>by show (0:Rat)≤0;grind
 | k+1=>by
   have ih:=Sb a aJ n0 k;rw [FB];exact Rat.le_trans ih (VA _ _)
theorem Tj {aJ r:Rat} {n d:Nat} (h0:0<aJ) (hr:0≤r) (h2:r+r≤aJ) (hd:2*d<n+1):cZ aJ n d r<1:=by
 unfold cZ;have hz:(0:Rat)<(((n:Int)+1-d:Int):Rat):=Rat.intCast_pos.2 (by omega);have hw:(0:Rat)<(((n:Int)+1:Int):Rat):=Rat.intCast_pos.2 (by omega)
 have hlt:(((n:Int)+1:Int):Rat)<(((n:Int)+1-d:Int):Rat)+(((n:Int)+1-d:Int):Rat):=by
  rw [←Rat.intCast_add];exact Rat.intCast_lt_intCast.2 (by omega)
 generalize (((n:Int)+1-d:Int):Rat)=z at *;generalize (((n:Int)+1:Int):Rat)=w at *;have hz0:z≠0:=by grind
 have hr0:aJ≠0:=by grind
 have e:w/z*(r/aJ)=(w*r)/(z*aJ):=by
  have h1:w/z*z=w:=Rat.div_mul_cancel hz0;have h2:r/aJ*aJ=r:=Rat.div_mul_cancel hr0;have hzr:z*aJ≠0:=fun e=>(Rat.mul_eq_zero.1 e).elim hz0 hr0;have h3:w*r/(z*aJ)*(z*aJ)=w*r:=Rat.div_mul_cancel hzr;have h4:w/z*(r/aJ)*(z*aJ)=w*r:=by rw [show w/z*(r/aJ)*(z*aJ)=(w/z*z)*(r/aJ*aJ) by grind,h1,h2]
  have h5:(w/z*(r/aJ)-w*r/(z*aJ))*(z*aJ)=0:=by grind
  rcases Rat.mul_eq_zero.1 h5 with h6 | h6
  ·grind
  ·exact (hzr h6).elim
 rw [e];have hzr:0<z*aJ:=Rat.mul_pos hz h0
 have key:w*r<z*aJ:=by
  have k1:w*r≤w*(r+r)/2:=by grind
  rcases Classical.em (r=0) with h | h
  ·subst h;grind
  ·have hrp:0<r:=by grind
   have k2:=Rat.mul_lt_mul_of_pos_right hlt hrp;have k3:z*(r+r)≤z*aJ:=Rat.mul_le_mul_of_nonneg_left h2 (by grind)
   grind
 have h7:w*r/(z*aJ)*(z*aJ)=w*r:=Rat.div_mul_cancel (by grind);rcases Classical.em (w*r/(z*aJ)<1) with h | h
 ·exact h
 ·have h8:1≤w*r/(z*aJ):=by grind
  have h9:=Rat.mul_le_mul_of_nonneg_right h8 (by grind:0≤z*aJ)
  grind
theorem Rx (t:Rat):0≤t.abs:=by
 obtain ⟨h1,h2⟩:=oM t;refine Rat.num_nonneg.1 ?_;rw [h1];omega
end Go.Sy
